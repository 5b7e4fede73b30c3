import Derived.Test.YtfifdjajcogccaaGreatDoorZ01
import Derived.Test.YtfifdjajcogccaaGreatDoorZ00
import Derived.Test.YtfifdjajcogccaaGreatDoorZ02
import Derived.Test.YtfifdjajcogccaaGreatDoorZ03
import Derived.Orders
import Derived.IntWalk
import Derived.Laws.AppendOwn
import Derived.Conc.Holds
import Derived.ProofKit
import Derived.SizedLaws
import Derived.LaidMore
import Derived.Test.YtfifdjajcogccaaGreatDoorRows
import Derived.ChangeArms
import Derived.DataReads
import Derived.ChangeSame
import Derived.OpenShut
import Derived.Stop.Joined
import Derived.Conc.LeavingOf
set_option linter.all false
set_option maxHeartbeats 64000000
set_option maxRecDepth 100000
open And renaming intro -> Aee
open Array renaming replicate -> Ajh, getElem?_of_mem -> Aji, getElem?_eq_some_iff -> Aaf, getElem?_setIfInBounds_ne -> Aeh, getElem?_map -> Aei, size_setIfInBounds -> Aej, mem_iff_getElem -> Aef, getElem?_eq_getElem -> Aeg, getElem?_setIfInBounds_self_of_lt -> Ajj, append_empty -> Aag, mapM_eq_mapM_toList -> Aak, ext_getElem? -> Ajk, getElem?_setIfInBounds -> Aai, map_empty -> Ajl, push_eq_append -> Aae, getElem?_push -> Aah, getD_eq_getD_getElem? -> Aaa, mem_replicate -> Aav, all_eq_true_iff_forall_mem -> Aal, mem_of_getElem? -> Aax, getElem?_eq_none -> Aan, ofFn -> Ajm, getElem_ofFn -> Ajn, getElem?_ofFn -> Ajo, getElem?_mapIdx -> Aen, getElem?_toList -> Agw
open Bool renaming false_eq_true -> Aay, and_eq_true -> Aaz, not_eq_true' -> Ajp
open Classical renaming choose -> Aa2, choose_spec -> Aa3
open Go renaming Program -> Abe, Func -> Abf, Goroutine -> Abo, World -> Abc, Frame -> Abn, Item -> Ajq, Deferred -> Abb, FuncId -> Aa6, Code -> Aa9, CallKind -> Ajr, stepG -> Abv, undef -> Aeq, Oper -> Ajs, Operand -> Abm, yielded -> Ajt, Event -> Abd, goexitEntry -> Aju, Trace -> Aeo, runNT -> Ajv, callDeferred -> Abt, unwind -> Abu, TypeId -> Aa8, TypeInfo -> Ajw, Calls -> Aet, maxLen -> Aes, MemPlace -> Ajx
open Go.Conc renaming served -> Ae2
open Go.Frame renaming eval -> Acg, oper? -> Ajy, finish -> Acf, enter -> Ace
open Go.GStep renaming after -> Aci
open Go.Goroutine renaming callers -> Ajz
open Go.IntKind renaming i64 -> Adf
open Go.IntWalk renaming i64_in -> Aj0
open Go.Lib renaming hid -> Afl
open Go.Proofs.Tryz renaming prog -> Afr
open Go.Region renaming wanted -> Aj1, ready -> Aj2, schedule -> Aj3
open Go.Region.linearise renaming go -> Aj4
open Go.RowKit renaming Below -> Aj5, intOf -> Ahb
open Go.RowKit.Below renaming refl -> Aft, heap_setCell -> Ahc
open Go.Sem renaming bind -> Adt, runT -> Ads, pure -> Aj6
open Go.Value renaming int -> Afx
open Go.World renaming grownBy_alloc -> Ahk, cell?_of_block -> Aj7, putObj_heap_same -> Ahh, putObj_heap_other -> Ahi
open Go.World.ownsRow renaming alloc -> Ahl
open Go.stepG renaming exec -> Ad3, oper -> Aj8, apply -> Ad2
open List renaming mem_of_getElem? -> Agd, mapM_nil -> Aj9, all_eq_true -> Aka, map_toArray -> Akb, map_cons -> Akc, map_nil -> Akd, mem_toArray -> Af0, mem_singleton -> Af1, mem_cons -> Af2, not_mem_nil -> Af3, getElem?_eq_getElem -> Af6, getElem?_take -> Ai9, getElem?_map -> Ahy, drop -> Ake, take -> Akf, length_map -> Aib, length_reverse -> Ajc, flatMap_append -> Ahv, take_of_length_le -> Agc
open Nat renaming le_refl -> Ad4, eq_zero_or_pos -> Agk, le_trans -> Ad5, lt_of_lt_of_le -> Ad6, zero_le -> Agl
open Option renaming map_some -> Agt, getD_some -> Akg, map_eq_some_iff -> Ags, bind_eq_some_iff -> Akh
open Option.some renaming inj -> Aea, injEq -> Aeb
open Prod renaming fst -> Ajg, snd -> Aki
noncomputable section
namespace Go.Jn
open Go Go.Sim
def WY{P:Abe}{F:Array Abf}{C:bQ}{S:Tl}{G:Nat->Bool}(E:Env P F C G)(hh:∀f,C.hole f=false){Q:Abo->Abc->Prop}{g:Abo}{w:Abc}
 (h:Sim.Safe (tw P F) Q g w)(hi:Inv C S G g w):Sim.Safe (tw P F) (λg w=>Q g w/\bJ w.heap) g w:=by
 induction h with
 |stop hq=>exact .stop ⟨hq,hi.1⟩
 |step nx h _ ih=>
  refine .step nx h λT=>ih T ?_
  obtain⟨⟨es,h1⟩,h2⟩:=h T;exact(hi.aZ T).step E hh h1 h2
section
variable {P:Abe}{F:Array Abf}{C:bQ}{G:Nat->Bool}
def Lu{S:Tl}{ρ:Ren}{b:Bool}{bh:List Abn}(h:Below C S ρ b [] bh):b=true/\bh=S.callers:=by
 cases h;exact⟨rfl,rfl⟩
def VR{S:Tl}{ρ:Ren}{k':List Ajq}(h:oc C S ρ true [.code di] k'):k'=S.items:=by
 cases h with
 |stop=>rfl
 |cons _ t=>cases t
def xf{S:Tl}{ρ:Ren}{k':List Abb}(h:jJ S ρ true [cQ] k'):k'=S.defers:=by
 cases h with
 |stop=>rfl
 |cons _ t=>cases t
def amT(E:Env P F C G)(hh:∀f,C.hole f=false){main:Bool}(S:Tl){M:aaa}{ρ:Ren}{f:Aa6}{c:Aa9}(hc:C.clean c){a:Act}{t':Array Value}{w w':Abc}(hk:(S.kind==.early)=false)
 (hd:a.defers=[cQ]){QL:Exit->Act->Abc->Prop}
 (hl:∀T,c.wp (tw P F) (λe bB aa=>(e=.normal/\bB.defers=[cQ]\/e=.ret)/\QL e bB aa) a (aZ w T))
 (hw:bV C ρ w w')(hg:∀g,G g=true->ρ g g)(hf:Fits M ρ w)(gN:∀b,M.has b->b<w'.heap.size)(hn:bJ w.heap)(ht:aP ρ a.tmps t')
 {Stop:aaa->Abo->Abc->Prop}
 (post:∀e bB aa bS aE eV aA,QL e bB aa->gX M ρ w w' bS aE aa aA->bV C aE aa aA->Fits bS aE aa->(∀b,bS.has b->b<aA.heap.size)->(∀g,G g=true->aE g g)->bJ aa.heap->aP aE bB.tmps eV->
   (e=.normal->bB.defers=[cQ]->Stop bS (aO ⟨f,eV,S.items,S.defers,.run,S.kind,none⟩ S.callers) aA)/\
   (e=.ret->∀sH D',jJ S aE true bB.defers D'->Stop bS (aO ⟨f,eV,sH,D',.returning,S.kind,none⟩ S.callers) aA)):
 Walk P main Stop M (aO ⟨f,t',.code c::S.items,S.defers,.run,S.kind,none⟩ S.callers) w':=by
 let b:Abn:={ (default:Abn) with fn:=f,kind:=.normal}
 let Q:Abo->Abc->Prop:=λg w=>∃T e bB todo m,QL e bB (aZ w T)/\g=aO ⟨f,bB.tmps,todo,bB.defers,m,.normal,none⟩ []/\
  (e=.normal/\todo=[.code di]/\m=.run/\bB.defers=[cQ]\/e=.ret/\m=.returning)
 have b7:eS C S ρ true (b.at a [.code c,.code di]) ⟨f,t',.code c::S.items,S.defers,.run,S.kind,none⟩:=
  .mk f ht (.cons (.code c hc) .stop) (by rw[hd];exact .stop) .run .none ⟨λh=>by simp at h,λ_=>rfl,λh=>absurd rfl h,λh=>by simp at h,hk,λ_=>rfl⟩
 have eh:sP P (tw P F) C S ρ (aO (b.at a [.code c,.code di]) []) (aO ⟨f,t',.code c::S.items,S.defers,.run,S.kind,none⟩ S.callers):=.inside b7 .base;have hi:Inv C S G (aO (b.at a [.code c,.code di]) []) w:=⟨hn,ρ,true,_,_,_,_,w',rfl,hg,b7,.base,hw⟩;have N8:Sim.Safe (tw P F) Q (aO (b.at a [.code c,.code di]) []) w:=by
  refine PD (S:=S) E hh ?_ ?_ hi ?_
  ·rintro g w T ⟨T',e,bB,todo,m,h1,h2,h3⟩
   exact⟨T',e,bB,todo,m,h1,h2,h3⟩
  ·rintro g w ⟨T',e,bB,todo,m,h1,rfl,h3⟩ ch
   rcases h3 with⟨_,_,rfl,_⟩ | ⟨_,rfl⟩<;>simp
  ·intro T
   obtain⟨e,bB,aa,⟨h1,h2⟩,h3⟩:=hl T b [.code di] [];rcases h1 with⟨rfl,jT⟩ |rfl
   ·obtain⟨n,hr⟩:=h3
    exact⟨n,_,_,aa,hr,aa.tape,.normal,bB,[.code di],.run,h2,rfl,.inl ⟨rfl,rfl,rfl,jT⟩⟩
   ·obtain⟨todo,n,hr⟩:=h3
    exact⟨n,_,_,aa,hr,aa.tape,.ret,bB,todo,.returning,h2,rfl,.inr ⟨rfl,rfl⟩⟩
 refine X7 E main (WY E hh N8 hi) ⟨eh,hw,hg,hf,gN⟩ ?_
 intro bS aE dG aa eZ aA hR bY _ _ hq;obtain⟨gr,core,gL,fits,low⟩:=hR;cases gr with
 |hole f hf=>rw[hh] at hf;simp at hf
 |inside vg Dc=>
  obtain⟨⟨T,e,bB,todo,m,h1,h2,h3⟩,qx⟩:=hq.resolve_right λh=>h ⟨_,_,_,_,_,rfl,rfl,vg,Dc⟩
  have e1:=congrArg Goroutine.frame h2;have e2:=congrArg Ajz h2;simp only at e1 e2;subst e1 e2;obtain⟨rfl,rfl⟩:=Lu Dc;have LU:bV C aE (aZ aa T) aA:=core.left rfl;cases vg with
  |mk _ ym dg jT rM ye gM=>
   cases ye;have PK:gX M ρ w w' bS aE (aZ aa T) aA:=⟨bY.le,bY.new,bY.mP,bY.fQ,bY.kE,bY.im,bY.R,bY.O,bY.On,bY.tape,bY.os,bY.out⟩;have qt:=gM.Cv rfl;subst qt;have:=post e bB (aZ aa T) bS aE _ aA h1 PK LU fits low gL qx ym;rcases h3 with⟨rfl,rfl,rfl,Ue⟩ | ⟨rfl,rfl⟩
   ·have hD:=jT
    rw[Ue] at hD;rw[VR dg,xf hD];exact this.1 rfl Ue
   ·exact this.2 rfl _ _ jT
end
end Go.Jn
namespace Go.Jn
open Go Go.Sim
abbrev rg(f:Aa6)(t:Array Value)(k:List Ajq)(D:List Abb)(kd:Ajr)(cs:List Abn):Abo:=aO ⟨f,t,k,D,.run,kd,none⟩ cs
def zV(M:aaa)(w:Abc):M.grow w w=M:=by
 unfold aaa.grow;have:(λb=>M.O b\/(w.heap.size<=b/\b<w.heap.size))=M.O:=funext λb=>propext ⟨λh=>h.elim id λh=>absurd h.1 (by omega),.inl⟩
 rw[this]
section
variable {P:Abe}{main:Bool}{Stop:aaa->Abo->Abc->Prop}{M:aaa}{w:Abc}
def kM{g g':Abo}(hr:g.status=.running)(h:∀aa,Abv P main g aa=.go g' aa #[])(k:Walk P main Stop M g' w):Walk P main Stop M g w:=
 .step hr (λaa=>(g',aa,#[])) (λaa _=>⟨h aa,eO.idle M aa⟩) λaa hk=>by
  show Walk P main Stop (M.grow aa aa) g' aa;rw[zV];exact k.rely hk
variable {f:Aa6}{t:Array Value}{k:List Ajq}{D:List Abb}{kd:Ajr}{cs:List Abn}
def fF{x y:Aa9}(h:Walk P main Stop M (rg f t (.code x:: .code y::k) D kd cs) w):Walk P main Stop M (rg f t (.code (.seq x y)::k) D kd cs) w:=
 kM rfl (λaa=>by simp[Abv,Ad3]) h
def Qq(h:Walk P main Stop M (rg f t k D kd cs) w):Walk P main Stop M (rg f t (.code .skip::k) D kd cs) w:=
 kM rfl (λaa=>by simp[Abv,Ad3]) h
def BL{id:Nat}{c:Aa9}(h:Walk P main Stop M (rg f t (.code c:: .inBlock id::k) D kd cs) w):Walk P main Stop M (rg f t (.code (.block id c)::k) D kd cs) w:=
 kM rfl (λaa=>by simp[Abv,Ad3]) h
def Qn{id:Nat}(h:Walk P main Stop M (rg f t k D kd cs) w):Walk P main Stop M (rg f t (.inBlock id::k) D kd cs) w:=
 kM rfl (λaa=>by simp[Abv,Ad3]) h
def Qp{c:Aa9}(h:Walk P main Stop M (rg f t (.code c:: .inLoop c::k) D kd cs) w):Walk P main Stop M (rg f t (.code (.loop c)::k) D kd cs) w:=
 kM rfl (λaa=>by simp[Abv,Ad3]) h
def Qo{c:Aa9}(h:Walk P main Stop M (rg f t (.code c:: .inLoop c::k) D kd cs) w):Walk P main Stop M (rg f t (.inLoop c::k) D kd cs) w:=
 kM rfl (λaa=>by simp[Abv,Ad3]) h
def Qm{id:Nat}{k':List Ajq}(hk:exitTo id k=some k')(h:Walk P main Stop M (rg f t k' D kd cs) w):Walk P main Stop M (rg f t (.code (.exit id)::k) D kd cs) w:=
 kM rfl (λaa=>by simp[Abv,Ad3,hk]) h
def BM{n:Nat}{x y:Aa9}{q:Bool}(hq:t.getD n Aeq=.bool q)(h:Walk P main Stop M (rg f t (.code (if q then x else y)::k) D kd cs) w):Walk P main Stop M (rg f t (.code (.cond (.tmp n) x y)::k) D kd cs) w:=
 kM rfl (λaa=>by
  have:Acg ⟨f,t,.code (.cond (.tmp n) x y)::k,D,.run,kd,none⟩ (.tmp n)=.bool q:=hq;simp[Abv,Ad3,this]) h
def am2(h:Walk P main Stop M (aO ⟨f,t,.code .ret::k,D,.returning,kd,none⟩ cs) w):Walk P main Stop M (rg f t (.code .ret::k) D kd cs) w:=
 kM rfl (λaa=>by simp[Abv,Ad3]) h
def am0(h:Walk P main Stop M (aO ⟨f,t,[],D,.returning,kd,none⟩ cs) w):Walk P main Stop M (rg f t [] D kd cs) w:=
 kM rfl (λaa=>by simp[Abv,Ad3]) h
def gH{id:Nat}{ops:Array Ajs}(h:Walk P main Stop M (rg f t (.inRegion ops (List.range ops.size)::k) D kd cs) w):Walk P main Stop M (rg f t (.code (.region id ops false)::k) D kd cs) w:=
 kM rfl (λaa=>by simp[Abv,Ad3]) h
def iA{ops:Array Ajs}(h:Walk P main Stop M (rg f t k D kd cs) w):Walk P main Stop M (rg f t (.inRegion ops []::k) D kd cs) w:=
 kM rfl (λaa=>by simp[Abv,Ad3]) h
end
end Go.Jn
namespace Go.Jn
open Go Go.Sim
def aS(t:Array Value):Abm->Value:=(Act.mk t []).eval
def tf{f:Aa6}{t:Array Value}{k:List Ajq}{D:List Abb}{kd:Ajr}:Acg ⟨f,t,k,D,.run,kd,none⟩=aS t:=by
 funext x;cases x<;>rfl
def ay(t:Array Value)(d:Option Tmp)(v:Value):Array Value:=match d with
 |some d=>t.setIfInBounds d v
 |none=>t
section
variable {P:Abe}{main:Bool}{Stop:aaa->Abo->Abc->Prop}{M:aaa}{w:Abc}
variable {f:Aa6}{t:Array Value}{k:List Ajq}{D:List Abb}{kd:Ajr}{cs:List Abn}
def Jd{ops:Array Ajs}{i:Nat}{rest:List Nat}{o:Ajs}(ho:ops[i]?=some o)(hg:Aj1 o (Ajt ops t)=true)(hk:(kd==.early)=false)
 {aa aq:Abc}{v:Value}{es:Array Abd}(hr:(execOp (aS t) o).runT P aa #[]=(.ok (.value v) aq,es)):
 Abv P main (rg f t (.inRegion ops (i::rest)::k) D kd cs) aa=.go (rg f (ay t o.dst v) (.inRegion ops rest::k) D kd cs) aq (seen P f es):=by
 have e1:Acg ⟨f,t,.inRegion ops (i::rest)::k,D,.run,kd,none⟩=aS t:=tf;simp only[Abv,Ad3,ho,Agt,hg,Akg,if_true,Aj8,Ajy,Ad2,e1,hr];cases hd:o.dst<;>simp[Acf,ho,hd,ay,hk,Aci]
def Xy{ops:Array Ajs}{i:Nat}{rest:List Nat}{o:Ajs}(ho:ops[i]?=some o)(hg:Aj1 o (Ajt ops t)=true)(hk:(kd==.early)=false)
 {aa aq:Abc}{es:Array Abd}(hr:(execOp (aS t) o).runT P aa #[]=(.ok .skip aq,es)):
 Abv P main (rg f t (.inRegion ops (i::rest)::k) D kd cs) aa=.go (rg f (ay t o.dst Aeq) (.inRegion ops rest::k) D kd cs) aq (seen P f es):=by
 have e1:Acg ⟨f,t,.inRegion ops (i::rest)::k,D,.run,kd,none⟩=aS t:=tf;simp only[Abv,Ad3,ho,Agt,hg,Akg,if_true,Aj8,Ajy,Ad2,e1,hr];cases hd:o.dst<;>simp[Acf,ho,hd,ay,hk,Aci]
def alR{ops:Array Ajs}{i:Nat}{rest:List Nat}{o:Ajs}(ho:ops[i]?=some o)(hg:Aj1 o (Ajt ops t)=true)(hk:(kd==.early)=false)
 {aa:Abc}{d:Abb}(hr:(execOp (aS t) o).runT P aa #[]=(.ok (.defer d) aa,#[])):
 Abv P main (rg f t (.inRegion ops (i::rest)::k) D kd cs) aa=.go (rg f (ay t o.dst Aeq) (.inRegion ops rest::k) (d::D) kd cs) aa #[]:=by
 have e1:Acg ⟨f,t,.inRegion ops (i::rest)::k,D,.run,kd,none⟩=aS t:=tf;simp only[Abv,Ad3,ho,Agt,hg,Akg,if_true,Aj8,Ajy,Ad2,e1,hr];cases hd:o.dst<;>simp[Acf,ho,hd,ay,hk,Aci,seen]
def Xz{ops:Array Ajs}{i:Nat}{rest:List Nat}{o:Ajs}(ho:ops[i]?=some o)(hg:Aj1 o (Ajt ops t)=true)(hk:(kd==.early)=false)
 {aa:Abc}{d:Abb}(hn:d.target≠ .nil)(hr:(execOp (aS t) o).runT P aa #[]=(.ok (.spawn d) aa,#[])):
 Abv P main (rg f t (.inRegion ops (i::rest)::k) D kd cs) aa=.spawn (rg f (ay t o.dst Aeq) (.inRegion ops rest::k) D kd cs)
  {frame:={ (default:Abn) with fn:=P.funcs.size,defers:=[d],mode:=.panicking [Aju]},callers:=[],status:=.running,dying:=none} aa #[]:=by
 have e1:Acg ⟨f,t,.inRegion ops (i::rest)::k,D,.run,kd,none⟩=aS t:=tf;simp only[Abv,Ad3,ho,Agt,hg,Akg,if_true,Aj8,Ajy,Ad2,e1,hr];obtain⟨tg,ar⟩:=d;cases tg<;>first|exact absurd rfl hn| (cases hd:o.dst<;>simp[Acf,ho,hd,ay,hk,Aci,seen])
def FG{ops:Array Ajs}{i:Nat}{rest:List Nat}{o:Ajs}(ho:ops[i]?=some o)(hg:Aj1 o (Ajt ops t)=true)(hk:(kd==.early)=false)
 {aa:Abc}{cases:Array CommCase}{bl:Bool}{sh:CommShape}(hr:(execOp (aS t) o).runT P aa #[]=(.ok (.comm cases bl sh) aa,#[])):
 Abv P main (rg f t (.inRegion ops (i::rest)::k) D kd cs) aa=.comm (rg f t (.inRegion ops (i::rest)::k) D kd cs) cases bl sh aa #[]:=by
 have e1:Acg ⟨f,t,.inRegion ops (i::rest)::k,D,.run,kd,none⟩=aS t:=tf;simp only[Abv,Ad3,ho,Agt,hg,Akg,if_true,Aj8,Ajy,Ad2,e1,hr];simp[hk,Aci,seen]
def BN{ops:Array Ajs}{i:Nat}{rest:List Nat}{o:Ajs}(ho:ops[i]?=some o)(hg:Aj1 o (Ajt ops t)=true)(hk:(kd==.early)=false)
 (h:∀aa,bN M w aa->∃v aq es,((execOp (aS t) o).runT P aa #[]=(.ok (.value v) aq,es)\/v=Aeq/\(execOp (aS t) o).runT P aa #[]=(.ok .skip aq,es))/\eO M aa aq es/\
   Walk P main Stop (M.grow aa aq) (rg f (ay t o.dst v) (.inRegion ops rest::k) D kd cs) aq):
 Walk P main Stop M (rg f t (.inRegion ops (i::rest)::k) D kd cs) w:=by
 have key:∀aa,∃y:Abo×Abc×Array Abd,bN M w aa->Abv P main (rg f t (.inRegion ops (i::rest)::k) D kd cs) aa=.go y.1 y.2.1 y.2.2/\eO M aa y.2.1 y.2.2/\Walk P main Stop (M.grow aa y.2.1) y.1 y.2.1:=by
  intro aa;by_cases hw:bN M w aa
  ·obtain⟨v,aq,es,hr,hd,hW⟩:=h aa hw
   have fJ:eO M aa aq (seen P f es):=⟨hd.size,hd.kept,hd.tape,hd.os,hd.out,λe he=>hd.ev e (mem_seen he)⟩
   rcases hr with hr| ⟨rfl,hr⟩
   ·exact⟨(_,aq,seen P f es),λ_=>⟨Jd ho hg hk hr,fJ,hW⟩⟩
   ·exact⟨(_,aq,seen P f es),λ_=>⟨Xy ho hg hk hr,fJ,hW⟩⟩
  ·exact⟨(rg f t k D kd cs,w,#[]),λh=>absurd h hw⟩
 refine .step rfl (λaa=>Aa2 (key aa)) (λaa hw=>?_) λaa hw=>?_
 ·exact⟨(Aa3 (key aa) hw).1,(Aa3 (key aa) hw).2.1⟩
 ·exact(Aa3 (key aa) hw).2.2
def du{ops:Array Ajs}{i:Nat}{rest:List Nat}{o:Ajs}{v:Value}(ho:ops[i]?=some o)(hg:Aj1 o (Ajt ops t)=true)(hk:(kd==.early)=false)
 (hr:∀aa,bN M w aa->∃es,(execOp (aS t) o).runT P aa #[]=(.ok (.value v) aa,es)/\∀e∈es,wK M e)
 (h:Walk P main Stop M (rg f (ay t o.dst v) (.inRegion ops rest::k) D kd cs) w):Walk P main Stop M (rg f t (.inRegion ops (i::rest)::k) D kd cs) w:=
 BN ho hg hk λaa hw=>by
  obtain⟨es,h1,h2⟩:=hr aa hw;refine⟨v,aa,es,.inl h1,⟨Ad4 _,λ_ _ _=>rfl,rfl,rfl,rfl,λe he=>by rw[zV];exact h2 e he⟩,?_⟩
  rw[zV];exact h.rely hw
def amZ{ops:Array Ajs}{i:Nat}{rest:List Nat}{o:Ajs}{d:Abb}(ho:ops[i]?=some o)(hg:Aj1 o (Ajt ops t)=true)(hk:(kd==.early)=false)
 (hr:∀aa,(execOp (aS t) o).runT P aa #[]=(.ok (.defer d) aa,#[]))
 (h:Walk P main Stop M (rg f (ay t o.dst Aeq) (.inRegion ops rest::k) (d::D) kd cs) w):Walk P main Stop M (rg f t (.inRegion ops (i::rest)::k) D kd cs) w:=
 kM rfl (λaa=>alR ho hg hk (hr aa)) h
end
end Go.Jn
namespace Go.Jn
open Go Go.Sim
section
variable {P:Abe}{main:Bool}{Stop:aaa->Abo->Abc->Prop}
variable {f:Aa6}{k:List Ajq}{D:List Abb}{kd:Ajr}{cs:List Abn}
end
end Go.Jn
namespace Go.Jn
open Go Go.Sim Go.Conc
open Go.ConcN (sumTo upd sumTo_upd upd_ne upd_same)
def Cp(N:Nat)(es:Array Abd):Prop:=∀e∈es,∀b,N<=b->e.loc≠ .obj b
inductive WalkE(P:Abe)(main:Bool)(N:Nat)(Stop:aaa->Abo->Abc->Prop):aaa->Abo->Abc->Prop
 |stop {M:aaa} {g:Abo} {w:Abc} (h:∀aa,bN M w aa->Stop M g aa):WalkE P main N Stop M g w
 |step {M:aaa} {g:Abo} {w:Abc} (run:g.status=.running) (nx:Abc->Abo×Abc×Array Abd)
   (h:∀aa,bN M w aa->Abv P main g aa=.go (nx aa).1 (nx aa).2.1 (nx aa).2.2/\eO M aa (nx aa).2.1 (nx aa).2.2/\Cp N (nx aa).2.2)
   (hs:∀aa,bN M w aa->WalkE P main N Stop (M.grow aa (nx aa).2.1) (nx aa).1 (nx aa).2.1):WalkE P main N Stop M g w
section
variable {P:Abe}{main:Bool}{N:Nat}{Stop:aaa->Abo->Abc->Prop}
def WalkE.rely{M:aaa}{g:Abo}{w aa:Abc}(h:WalkE P main N Stop M g w)(k:bN M w aa):WalkE P main N Stop M g aa:=by
 cases h with
 |stop h=>exact .stop λaq k2=>h aq (k.trans k2)
 |step run nx h hs=>exact .step run nx (λaq k2=>h aq (k.trans k2)) λaq k2=>hs aq (k.trans k2)
def X8{M:aaa}{w:Abc}{g g':Abo}(hr:g.status=.running)(h:∀aa,Abv P main g aa=.go g' aa #[])(k:WalkE P main N Stop M g' w):WalkE P main N Stop M g w:=
 .step hr (λaa=>(g',aa,#[])) (λaa _=>⟨h aa,eO.idle M aa,λe he=>absurd he (by simp)⟩) λaa hk=>by
  show WalkE P main N Stop (M.grow aa aa) g' aa;rw[zV];exact k.rely hk
variable {f:Aa6}{k:List Ajq}{D:List Abb}{kd:Ajr}{cs:List Abn}
def X9{M:aaa}{w:Abc}{t:Array Value}{ops:Array Ajs}(h:WalkE P main N Stop M (rg f t k D kd cs) w):WalkE P main N Stop M (rg f t (.inRegion ops []::k) D kd cs) w:=
 X8 rfl (λaa=>by simp[Abv,Ad3]) h
def amW{M:aaa}{w:Abc}{t:Array Value}{ops:Array Ajs}{i:Nat}{rest:List Nat}{o:Ajs}(ho:ops[i]?=some o)(hg:Aj1 o (Ajt ops t)=true)(hk:(kd==.early)=false)
 (h:∀aa,bN M w aa->∃v aq es,((execOp (aS t) o).runT P aa #[]=(.ok (.value v) aq,es)\/v=Aeq/\(execOp (aS t) o).runT P aa #[]=(.ok .skip aq,es))/\eO M aa aq es/\(∀e∈es,∀b,e.loc≠ .obj b)/\
   WalkE P main N Stop (M.grow aa aq) (rg f (ay t o.dst v) (.inRegion ops rest::k) D kd cs) aq):
 WalkE P main N Stop M (rg f t (.inRegion ops (i::rest)::k) D kd cs) w:=by
 have key:∀aa,∃y:Abo×Abc×Array Abd,bN M w aa->(Abv P main (rg f t (.inRegion ops (i::rest)::k) D kd cs) aa=.go y.1 y.2.1 y.2.2/\eO M aa y.2.1 y.2.2/\Cp N y.2.2)/\WalkE P main N Stop (M.grow aa y.2.1) y.1 y.2.1:=by
  intro aa;by_cases hw:bN M w aa
  ·obtain⟨v,aq,es,hr,hd,aw,hW⟩:=h aa hw
   have fJ:eO M aa aq (seen P f es):=⟨hd.size,hd.kept,hd.tape,hd.os,hd.out,λe he=>hd.ev e (Sim.mem_seen he)⟩
   have dM:Cp N (seen P f es):=λe he b _=>aw e (Sim.mem_seen he) b
   rcases hr with hr| ⟨rfl,hr⟩
   ·exact⟨(_,aq,seen P f es),λ_=>⟨⟨Jd ho hg hk hr,fJ,dM⟩,hW⟩⟩
   ·exact⟨(_,aq,seen P f es),λ_=>⟨⟨Xy ho hg hk hr,fJ,dM⟩,hW⟩⟩
  ·exact⟨(rg f t k D kd cs,w,#[]),λh=>absurd h hw⟩
 refine .step rfl (λaa=>Aa2 (key aa)) (λaa hw=>?_) λaa hw=>?_
 ·exact(Aa3 (key aa) hw).1
 ·exact(Aa3 (key aa) hw).2
def amV{ops:Array Ajs}(hk:(kd==.early)=false)(I:Nat->Array Bool->Array Value->aaa->Abc->Prop)
 (Nu:∀n l t M w aa,I n l t M w->bN M w aa->I n l t M aa)
 (dq:∀n l t M w i,I n l t M w->i∈Aj2 .any ops l->∃o v aq es,ops[i]?=some o/\Aj1 o (Ajt ops t)=true/\
   ((execOp (aS t) o).runT P w #[]=(.ok (.value v) aq,es)\/v=Aeq/\(execOp (aS t) o).runT P w #[]=(.ok .skip aq,es))/\eO M w aq es/\(∀e∈es,∀b,e.loc≠ .obj b)/\I (n+1) (l.setIfInBounds i true) (ay t o.dst v) (M.grow w aq) aq)
 (qk:∀n l t M w,I n l t M w->(Aj2 .any ops l=[]\/n=ops.size)->WalkE P main N Stop M (rg f t k D kd cs) w):
 ∀(fuel n s:Nat) (l:Array Bool) (t:Array Value) (M:aaa) (w:Abc),n+fuel=ops.size->I n l t M w->
  WalkE P main N Stop M (rg f t (.inRegion ops (Aj4 .any ops fuel s l [])::k) D kd cs) w:=by
 intro fuel;induction fuel with
 |zero=>
  intro n s l t M w hn hI;have:Aj4 .any ops 0 s l []=[]:=by simp[Aj4]
  rw[this];exact X9 (qk n l t M w hI (.inr (by omega)))
 |succ fuel ih=>
  intro n s l t M w hn hI;simp only[Aj4];change WalkE P main N Stop M (rg f t (.inRegion ops (match(Aj2 .any ops l)[s % (Aj2 .any ops l).length]? with
   |some i=>Aj4 .any ops fuel (s / (Aj2 .any ops l).length) (l.setIfInBounds i true) [i]
   |none=> [].reverse)::k) D kd cs) w
  cases hi:(Aj2 .any ops l)[s % (Aj2 .any ops l).length]? with
  |none=>
   have NJ:Aj2 .any ops l=[]:=by
    cases hr:Aj2 .any ops l with
    |nil=>rfl
    |cons x xs=>
     rw[hr] at hi;have al:s % (x::xs).length<(x::xs).length:=Nat.mod_lt _ (by simp)
     simp at hi;simp at al;omega
   exact X9 (qk n l t M w hI (.inl NJ))
  |some i=>
   simp only[];rw[linearise_go_acc,List.reverse_singleton,List.singleton_append];have mB:= Agd hi;obtain⟨o0,-,-,-,UZ,Hi,-,-,-,-⟩:=dq n l t M w i hI mB;refine amW UZ Hi hk λaa hw=>?_
   obtain⟨o,v,aq,es,ho,hg,hr,hd,aw,xz⟩:=dq n l t M aa i (Nu _ _ _ _ _ _ hI hw) mB;rw[UZ] at ho;cases ho
   exact⟨v,aq,es,hr,hd,aw,ih (n+1) _ _ _ _ _ (by omega) xz⟩
def amU(hm:P.follows .mixedOrders=true){id:Nat}{ops:Array Ajs}(hk:(kd==.early)=false)(I:Nat->Array Bool->Array Value->aaa->Abc->Prop)
 (Nu:∀n l t M w aa,I n l t M w->bN M w aa->I n l t M aa)
 (dq:∀n l t M w i,I n l t M w->i∈Aj2 .any ops l->∃o v aq es,ops[i]?=some o/\Aj1 o (Ajt ops t)=true/\
   ((execOp (aS t) o).runT P w #[]=(.ok (.value v) aq,es)\/v=Aeq/\(execOp (aS t) o).runT P w #[]=(.ok .skip aq,es))/\eO M w aq es/\(∀e∈es,∀b,e.loc≠ .obj b)/\I (n+1) (l.setIfInBounds i true) (ay t o.dst v) (M.grow w aq) aq)
 (qk:∀n l t M w,I n l t M w->(Aj2 .any ops l=[]\/n=ops.size)->WalkE P main N Stop M (rg f t k D kd cs) w)
 {t:Array Value}{M:aaa}{w:Abc}(h0:I 0 (Ajh ops.size false) t M w):
 WalkE P main N Stop M (rg f t (.code (.region id ops true)::k) D kd cs) w:=by
 have key:=amV (P:=P) (main:=main) (N:=N) (Stop:=Stop) (f:=f) (k:=k) (D:=D) (cs:=cs) hk I Nu dq qk;refine .step rfl (λaa=>(rg f t (.inRegion ops (Aj3 true ops ((Question.order f id).cut (aa.tape aa.drawn (.order f id))))::k) D kd cs,aa.at (aa.drawn+1),#[])) (λaa hw=>⟨?_,?_,λe he=>absurd he (by simp)⟩) λaa hw=>?_
 ·simp[Abv,Ad3,choose,Sem.run,Question.forced,hm]
  rfl
 ·exact⟨Ad4 _,λ_ _ _=>rfl,rfl,rfl,rfl,λe he=>absurd he (by simp)⟩
 ·have hg:M.grow aa (aa.at (aa.drawn+1))=M:=zV M aa
  show WalkE P main N Stop (M.grow aa (aa.at (aa.drawn+1))) _ _;rw[hg];have:WalkE P main N Stop M (rg f t (.inRegion ops (Aj3 true ops ((Question.order f id).cut (aa.tape aa.drawn (.order f id))))::k) D kd cs) w:=by
   simp only[Aj3,Bool.true_or,if_true];exact key ops.size 0 _ _ _ _ _ (by simp) h0
  exact this.rely (hw.trans (bN.of_heap rfl rfl rfl rfl))
def lK(N:Nat)(t:Aeo):Prop:=∀op∈t,∀a,op.act.touch? =some a->∀b,N<=b->a.loc≠ .obj b
def lK.app{t u:Aeo}(h:lK N t)(k:lK N u):lK N (t++u):=λop ab=>(Array.mem_append.1 ab).elim (h op) (k op)
def lK.events{g:Nat}{fn:Aa6}{pos:String}{es:Array Abd}(h:Cp N es):lK N (MemOp.ofEvents g fn pos es):=by
 intro op ab a ha b hb;obtain⟨e,he,rfl⟩:=Go.Conc.mem_ofEvents ab;have:=h e he b hb;simp only at ha;obtain⟨loc,wr,sy⟩:=e;cases loc with
 |mark m=>cases m<;>cases wr<;>cases sy<;>simp[MemAct.ofEvent,MemAct.touch?] at ha<;>(subst ha;intro hx;cases hx)
 |_=>cases wr<;>cases sy<;>simp[MemAct.ofEvent,MemAct.touch?] at ha<;>subst ha<;>first|exact this| (intro hx;cases hx)
def lK.of_low{t:Aeo}(h:∀op∈t,op.act.low N):lK N t:=by
 intro op ab a ha b hb e;obtain⟨k,hk⟩:=Aji ab
 have:touchAt t k=some a:=by rw[touchAt_of hk];exact ha
 have:=Qa h this (.inl e);omega
def Tn{gs:Array Abo}{w aa:Abc}{sl:Option (Nat×Nat)}{t:Aeo}{q:Nat->Nat}{g dG:Abo}{es:Array Abd}{M:aaa}(h:Fr P gs w t q g)(hs:Abv P true g w=.go dG aa es)(hd:eO M w aa es)(hM:∀b,M.has b->b<w.heap.size)
 (aw:Cp N es)(ht:lK N t):∃aT ops,runT P (crowd gs w sl) 0=(.next (crowd aT aa sl),ops)/\aT.size=gs.size/\Fr P aT aa (t++ops) q dG/\lK N (t++ops):=by
 obtain⟨h0,hL,hP,hN,hG⟩:=h;have tJ:=runT_crowd_go (P:=P) (sl:=sl) (i:=0) h0 (show Abv P (0==0) g w=_ from hs)
 have al:0<gs.size:=(Aaf.1 h0).1
 refine⟨_,_,tJ,by simp,⟨by simp[al],λj x hj hx=>?_,(hP.mono hd.size).own λe he=>L9 (hd.ev e he) λb hb=>?_,hN.app (O4 hd.ev),λop ab=>?_⟩,ht.app (.events aw)⟩
 ·have aw:0≠j:=by omega
  rw[Aeh aw,Aei] at hx
  obtain⟨y,hy,rfl⟩:=Ags.1 hx;have hq:=hL j y hj hy;rw[Sim.woken_quits hq];exact hq
 ·exact zU hd hM b hb
 ·rw[Aej,Array.size_map]
  rcases Array.mem_append.1 ab with ab|ab
  ·exact hG op ab
  ·obtain⟨e,_,rfl⟩:=Go.Conc.mem_ofEvents ab
   exact al
def Tp{gs:Array Abo}{w:Abc}{sl:Option (Nat×Nat)}{t:Aeo}{q:Nat->Nat}{g:Abo}(h:Fr P gs w t q g)(bz:g.status=.running):
 (∃d bm,stepT P (crowd gs w sl)=runT P (crowd gs (w.at d) bm) 0)\/
 ∃aT d bm q',stepT P (crowd gs w sl)=(.next (crowd aT (w.at d) bm),#[])/\aT.size=gs.size/\sumTo aT.size q'<sumTo gs.size q/\Fr P aT (w.at d) t q' g:=by
 obtain⟨h0,hL,hP,hN,hG⟩:=h;have tz:∀g∈gs,awake g:=by
  intro x hx;obtain⟨i,hi,rfl⟩:=Aef.1 hx;rcases Agk i with rfl|rP
  ·have:gs[0]=g:=by simpa [Aeg hi] using h0
   rw[this];exact awake_of (.inl bz)
  ·exact awake_of ((hL i _ rP (Aeg hi)).status.elim .inl λx=>.inr (.inr x))
 obtain⟨i,x,d,bm,hi,hg,aQ⟩:=crowd_pick (P:=P) (w:=w) (sl:=sl) tz ⟨0,g,h0,bz⟩;rcases Agk i with rfl|rP
 ·exact .inl ⟨d,bm,aQ⟩
 ·right
  have hq:=hL i x rP hi;have cR:(i==0)=false:=by simp;omega
  have al:i<gs.size:=(Aaf.1 hi).1
  cases pe:q i with
  |zero=>rw[pe] at hq;rw[show x.status=.finished from hq] at hg;cases hg
  |succ k=>
   rw[pe] at hq;rcases hq with hf| ⟨_,g',D3,mD⟩
   ·rw[hf] at hg;cases hg
   have tJ:=runT_crowd_go (P:=P) (sl:=bm) (i:=i) hi (by rw[cR];exact D3 (w.at d))
   rw[nM] at tJ;have aI:((gs.map (woken P x g' (w.at d))).setIfInBounds i g').size=gs.size:=by simp
   have Zb:sumTo gs.size (upd q i k)+(k+1)=sumTo gs.size q+k:=by
    have:=sumTo_upd q k id al;simpa [pe] using this
   refine⟨(gs.map (woken P x g' (w.at d))).setIfInBounds i g',d,bm,upd q i k,aQ.trans tJ,aI,by rw[aI];omega,?_,λj y hj hy=>?_,hP,hN,λop ab=>by rw[aI];exact hG op ab⟩
   ·have aw:i≠0:=by omega
    rw[Aeh aw,Aei,h0]
    simp[woken_run bz]
   ·by_cases pa:i=j
    ·subst pa
     rw[Ajj (by simpa using al)] at hy
     obtain rfl:=Aea hy;rw[upd_same];exact mD
    ·rw[Aeh pa,Aei] at hy
     obtain⟨z,hz,rfl⟩:=Ags.1 hy;have yd:=hL j z hj hz;rw[Sim.woken_quits yd,upd_ne q k (Ne.symm pa)];exact yd
def Zw{M:aaa}{g:Abo}{w:Abc}(h:WalkE P true N Stop M g w):
 ∀(gs:Array Abo) (sl:Option (Nat×Nat)) (t:Aeo) (q:Nat->Nat),Fr P gs w t q g->(∀b,M.has b->b<w.heap.size)->lK N t->
  ∃(n:Nat) (aT:Array Abo) (M':aaa) (g':Abo) (w':Abc) (bm:Option (Nat×Nat)) (t':Aeo) (q':Nat->Nat),
    Ajv P n (crowd gs w sl) t=(.next (crowd aT w' bm),t')/\aT.size=gs.size/\Stop M' g' w'/\Fr P aT w' t' q' g'/\lK N t':=by
 induction h with
 | @stop M g w h=>exactλgs sl t q hF hM hT=>⟨0,gs,M,g,w,sl,t,q,rfl,rfl,h w (bN.refl M w),hF,hT⟩
 | @step M g w run nx h hs ih=>
   have key:∀(n:Nat) (gs:Array Abo) (sl:Option (Nat×Nat)) (t:Aeo) (q:Nat->Nat) (aq:Abc),sumTo gs.size q<=n->bN M w aq->Fr P gs aq t q g->(∀b,M.has b->b<aq.heap.size)->lK N t->
    ∃(n:Nat) (aT:Array Abo) (M':aaa) (g':Abo) (w':Abc) (bm:Option (Nat×Nat)) (t':Aeo) (q':Nat->Nat),
     Ajv P n (crowd gs aq sl) t=(.next (crowd aT w' bm),t')/\aT.size=gs.size/\Stop M' g' w'/\Fr P aT w' t' q' g'/\lK N t':=by
    intro n;induction n with
    |zero=>
     intro gs sl t q aq hn k hF hM hT;rcases Tp (sl:=sl) hF run with⟨d,bm,aQ⟩ | ⟨aT,d,bm,q',_,_,al,_⟩
     ·have k2:=k.trans (yy M aq d)
      obtain⟨h1,h2,h3⟩:=h _ k2;obtain⟨iK,ops,hr,aI,lN,xC⟩:=Tn (sl:=bm) (w:=aq.at d) (M:=M) ⟨hF.zero,hF.lv,hF.gD,hF.nd,hF.gb⟩ h1 h2 hM h3 hT;obtain⟨N',aT,M',g',w',mQ,t',q',r1,r2,r3,r4⟩:=ih _ k2 iK bm _ q lN (zU h2 hM) xC;exact⟨N'+1,aT,M',g',w',mQ,t',q',by simp only[Ajv,aQ,hr];exact r1,r2.trans aI,r3,r4⟩
     ·omega
    |succ n En=>
     intro gs sl t q aq hn k hF hM hT;rcases Tp (sl:=sl) hF run with⟨d,bm,aQ⟩ | ⟨aT,d,bm,q',aQ,aI,al,lN⟩
     ·have k2:=k.trans (yy M aq d)
      obtain⟨h1,h2,h3⟩:=h _ k2;obtain⟨iK,ops,hr,aI,lN,xC⟩:=Tn (sl:=bm) (w:=aq.at d) (M:=M) ⟨hF.zero,hF.lv,hF.gD,hF.nd,hF.gb⟩ h1 h2 hM h3 hT;obtain⟨N',aT,M',g',w',mQ,t',q',r1,r2,r3,r4⟩:=ih _ k2 iK bm _ q lN (zU h2 hM) xC;exact⟨N'+1,aT,M',g',w',mQ,t',q',by simp only[Ajv,aQ,hr];exact r1,r2.trans aI,r3,r4⟩
     ·obtain⟨N',xu,M',g',w',mQ,t',Pf,r1,r2,r3,r4⟩:=En aT bm t q' (aq.at d) (by omega) (k.trans (yy M aq d)) lN hM hT
      exact⟨N'+1,xu,M',g',w',mQ,t',Pf,by simp only[Ajv,aQ,Aag];exact r1,r2.trans aI,r3,r4⟩
   exactλgs sl t q hF hM hT=>key _ gs sl t q w (Ad4 _) (bN.refl M w) hF hM hT
end
end Go.Jn
namespace Go.Jn
open Go Go.Sim Go.Conc
def Gr(w:Abc):Base w w:=⟨Ad4 _,rfl,rfl,rfl⟩
def rn{a b c:Abc}(h:Base a b)(k:Base b c):Base a c:=⟨Ad5 h.size k.size,k.tape.trans h.tape,k.os.trans h.os,k.out.trans h.out⟩
def Gq{M:Sim.aaa}{a b:Abc}(k:bN M a b):Base a b:=⟨k.size,k.tape,k.os,k.out⟩
def RH{M:Sim.aaa}{a b:Abc}{es:Array Abd}(k:eO M a b es):Base a b:=⟨k.size,k.tape,k.os,k.out⟩
def FM{P:Abe}{main:Bool}{Stop:Sim.aaa->Abo->Abc->Prop}{M:Sim.aaa}{g:Abo}{w:Abc}(h:Walk P main Stop M g w):∀ {w0:Abc},Base w0 w->Walk P main (λM g w'=>Stop M g w'/\Base w0 w') M g w:=by
 induction h with
 |stop h=>exactλhb=>.stop λaa k=>⟨h aa k,rn hb (Gq k)⟩
 |step run nx h hs ih=>exactλhb=>.step run nx h λaa k=>ih aa k (rn (rn hb (Gq k)) (RH (h aa k).2))
def amR{P:Abe}{main:Bool}{N:Nat}{Stop:Sim.aaa->Abo->Abc->Prop}{M:Sim.aaa}{g:Abo}{w:Abc}(h:WalkE P main N Stop M g w):∀ {w0:Abc},Base w0 w->WalkE P main N (λM g w'=>Stop M g w'/\Base w0 w') M g w:=by
 induction h with
 |stop h=>exactλhb=>.stop λaa k=>⟨h aa k,rn hb (Gq k)⟩
 |step run nx h hs ih=>exactλhb=>.step run nx h λaa k=>ih aa k (rn (rn hb (Gq k)) (RH (h aa k).2.1))
def uc{P:Abe}{b:Nat}{m':Machine}{t':Aeo}{r:Stepped×Aeo}:∀(a:Nat) (m:Machine) (t:Aeo),Ajv P a m t=(.next m',t')->Ajv P b m' t'=r->Ajv P (a+b) m t=r:=by
 intro a;induction a with
 |zero=>intro m t h k;simp only[Ajv,Prod.mk.injEq,Stepped.next.injEq] at h;obtain⟨rfl,rfl⟩:=h;rw[Nat.zero_add];exact k
 |succ a ih=>
  intro m t h k;rw[Nat.succ_add];simp only[Ajv] at h |-
  cases hs:Go.stepT P m with
  |mk e ops=>
   rw[hs] at h;cases e with
   |next m1=>exact ih _ _ h k
   |ended o w=>simp at h
end Go.Jn
namespace Go.Jn
open Go Go.Sim Go.Conc
def dp(P:Abe):Abn:={ (default:Abn) with fn:=P.funcs.size,defers:=[],mode:=.panicking [Aju]}
def born(P:Abe)(d:Abb):Abo:={frame:={ (default:Abn) with fn:=P.funcs.size,defers:=[d],mode:=.panicking [Aju]},callers:=[],status:=.running,dying:=none}
def ud(P:Abe)(f:Aa6):seen P f #[]=#[]:=by simp[seen]
section
variable {P:Abe}{main:Bool}{Stop:aaa->Abo->Abc->Prop}{M:aaa}{w:Abc}
def alP{f:Aa6}{eQ args:Array Value}{aa:Abc}(hr:(callFunc f (args++eQ)).runT P aa #[]=(.ok (.enter f (args++eQ)) aa,#[])):
 Abv P main (born P {target:=.fn (.func f) eQ,args}) aa=.go (aO (Ace P f (args++eQ) .deferred) [dp P]) aa #[]:=by
 have hi:invoke (.fn (.func f) eQ) args=callFunc f (args++eQ):=rfl;have e:Abt P (dp P) [] none {target:=.fn (.func f) eQ,args} aa=.go (aO (Ace P f (args++eQ) .deferred) [dp P]) aa #[]:=by
  unfold Abt;simp only[hi,hr,ud,Aci,Bool.false_and,Aay,if_false];rfl
 exact e
def zQ{f:Aa6}{fn:Abf}{c:Aa9}(hf:P.funcs[f]?=some fn)(hb:fn.body=some c)(x:Array Value)(kd:Ajr):
 Ace P f x kd=⟨f,x++Ajh (fn.ntmps - x.size) Aeq,[.code c],[],.run,kd,none⟩:=by
 simp[Ace,hf,hb]
def Ya{f:Aa6}{eQ args:Array Value}{fn:Abf}{c:Aa9}(hf:P.funcs[f]?=some fn)(hb:fn.body=some c)(hr:∀aa,(callFunc f (args++eQ)).runT P aa #[]=(.ok (.enter f (args++eQ)) aa,#[]))
 (h:Walk P main Stop M (rg f ((args++eQ)++Ajh (fn.ntmps - (args++eQ).size) Aeq) [.code c] [] .deferred [dp P]) w):Walk P main Stop M (born P {target:=.fn (.func f) eQ,args}) w:=
 kM rfl (λaa=>(alP (hr aa)).trans (by rw[zQ hf hb])) h
def CK{f:Aa6}{fn:Abf}{c:Aa9}(hf:P.funcs[f]?=some fn)(hb:fn.body=some c)(hn:(fn.name== "runtime.NumGoroutine")=false)(args:Array Value)(aa:Abc):(callFunc f args).runT P aa #[]=(.ok (.enter f args) aa,#[]):=by
 simp only[callFunc,Go.program,bind,Adt,Ads,hf,hb,hn,Option.isNone_some,Aay,if_false];rfl
def results_none{fn:Abf}(hr:fn.results=#[])(t:Array Value)(aa:Abc):(results fn t).runT P aa #[]=(.ok (.tuple #[]) aa,#[]):=by
 have e:results fn t=Aj6 (.tuple #[]):=by
  unfold results;rw[hr];simp only[Aak,Aj9];rfl
 rw[e];rfl
def alV{f:Aa6}{t:Array Value}{k:List Ajq}{fn:Abf}(hf:P.funcs[f]?=some fn)(hr:fn.results=#[])(aa:Abc):
 Abv P false (aO ⟨f,t,k,[],.returning,.deferred,none⟩ [dp P]) aa=.go (aO (dp P) []) aa #[]:=by
 have e:Abu P false ⟨f,t,k,[],.returning,.deferred,none⟩ [dp P] none aa=.go (aO (dp P) []) aa #[]:=by
  unfold Abu;simp only[hf,results_none hr,ud,Aci,doReturn];rfl
 exact e
def alT(aa:Abc)(hc:(dp P).catches P=false):Abv P false (aO (dp P) []) aa=.go {frame:=dp P,callers:=[],status:=.finished,dying:=none} aa #[]:=by
 have e:Abu P false (dp P) [] none aa=.go {frame:=dp P,callers:=[],status:=.finished,dying:=none} aa #[]:=by
  have e1:(dp P).defers=[]:=rfl;have e2:(dp P).mode=.panicking [Aju]:=rfl;unfold Abu;simp only[e1,e2,hc,Aay,if_false];rfl
 exact e
def acQ(P:Abe):(dp P).catches P=false:=by
 have e:(dp P).todo=[]:=rfl;have e2:P.funcs[(dp P).fn]?=none:=by show P.funcs[P.funcs.size]?=none;simp
 unfold Frame.catches;rw[e,e2]
def WD{f:Aa6}{t:Array Value}{k:List Ajq}{fn:Abf}(hf:P.funcs[f]?=some fn)(hr:fn.results=#[]):QuitsIn P 2 (aO ⟨f,t,k,[],.returning,.deferred,none⟩ [dp P]):=
 .inr ⟨rfl,_,λaa=>alV hf hr aa,.inr ⟨rfl,_,λaa=>alT aa (acQ P),rfl⟩⟩
end
end Go.Jn
namespace Go.Jn
open Go Go.Proofs Go.Sim
def bO:Aa9->Aa9
 | .seq a _=>a
 |c=>c
def a8:Aa9->Aa9
 | .seq _ b=>b
 |c=>c
def opsOf:Aa9->Array Ajs
 | .region _ ops _=>ops
 |_=>#[]
def zJ:Aa9:=(Tryz.f38.body).getD .skip
def iP:Array Ajs:=opsOf (bO (a8 (a8 zJ)))
def bn(b:Bool):Nat:=if b then 1 else 0
def uO(i:Nat)(a0 a1 a2 a3 a4 a5:Bool):Bool:=match i with
 |0=> !a0
 |1=> !a1
 |2=> !a2
 |3=> !a3
 |4=> !a4 && a0 && a2
 |5=> !a5 && a1 && a3
 |_=>false
def uJ:List Bool:=[false,true]
def Gj(p:Bool->Bool->Bool->Bool->Bool->Bool->Bool):Bool:=uJ.all λa0=>uJ.all λa1=>uJ.all λa2=>uJ.all λa3=>uJ.all λa4=>uJ.all λa5=>p a0 a1 a2 a3 a4 a5
def Ru{p:Bool->Bool->Bool->Bool->Bool->Bool->Bool}(h:Gj p=true)(a0 a1 a2 a3 a4 a5:Bool):p a0 a1 a2 a3 a4 a5=true:=by
 unfold Gj at h;simp only[Aka] at h;have hb:∀b:Bool,b∈uJ:=by intro b;cases b<;>simp[uJ]
 exact h a0 (hb _) a1 (hb _) a2 (hb _) a3 (hb _) a4 (hb _) a5 (hb _)
def ajO:Gj (λa0 a1 a2 a3 a4 a5=>(Aj2 .any iP #[a0,a1,a2,a3,a4,a5]).all λi=>uO i a0 a1 a2 a3 a4 a5)=true:=by decide+kernel
def abf:Gj (λa0 a1 a2 a3 a4 a5=> !(Aj2 .any iP #[a0,a1,a2,a3,a4,a5]).isEmpty|| (a0 && a1 && a2 && a3 && a4 && a5))=true:=by decide+kernel
def ajd:∃o,iP[0]?=some o/\o.op=.makeChan 154 (.const (.int .i64 0))/\o.dst=some 19/\o.guard=none:=⟨_,rfl,rfl,rfl,rfl⟩
def aje:∃o,iP[1]?=some o/\o.op=.makeChan 155 (.const (.int .i64 0))/\o.dst=some 20/\o.guard=none:=⟨_,rfl,rfl,rfl,rfl⟩
def ajf:∃o,iP[2]?=some o/\o.op=.alloc 154/\o.dst=some 6/\o.guard=none:=⟨_,rfl,rfl,rfl,rfl⟩
def ajg:∃o,iP[3]?=some o/\o.op=.alloc 155/\o.dst=some 7/\o.guard=none:=⟨_,rfl,rfl,rfl,rfl⟩
def ajh:∃o,iP[4]?=some o/\o.op=.store 154 (.tmp 6) (.tmp 19)/\o.dst=none/\o.guard=none:=⟨_,rfl,rfl,rfl,rfl⟩
def aji:∃o,iP[5]?=some o/\o.op=.store 155 (.tmp 7) (.tmp 20)/\o.dst=none/\o.guard=none:=⟨_,rfl,rfl,rfl,rfl⟩
def alu:iP.size=6:=rfl
def cf{o:Ajs}{y:Nat->Option Bool}(h:o.guard=none):Aj1 o y=true:=by unfold Aj1;rw[h]
def WU{P:Abe}(t:Array Value){ty e:Aa8}{dir:ChanDir}{o:Ajs}(ho:o.op=.makeChan ty (.const (.int .i64 0)))(hu:P.underlying ty=some (.chan dir e))(w:Abc)
 (hi:∃i,P.info? e=some i):(execOp (aS t) o).runT P w #[]=(.ok (.value (.chan (some w.heap.size))) (w.alloc (.chan 0 #[] false 0 0 false)),#[]):=by
 obtain⟨i,hi⟩:=hi;have h1:¬ ((0:Int)<0\/(0:Int)>Adf.max\/(i.bytes:Int) * 0>2 ^ 48 - 112):=by
  rintro(h|h|h)
  ·omega
  ·exact absurd h (by decide)
  ·omega
 unfold execOp;rw[ho];simp only[Instr.makeChan,aS,Act.eval,asInt,asIntOf,Go.underlying,Go.typeInfo,Go.program,bind,Adt,Ads,hu,hi,pure,newObj,World.alloc];rw[if_neg h1];rfl
def Py{P:Abe}(t:Array Value){ty:Aa8}{o:Ajs}(ho:o.op=.alloc ty){i:Ajw}(hi: P.info? ty=some i){v:Value}(hz:i.zero=some v)(hv:v.cells=#[v])(w:Abc):
 (execOp (aS t) o).runT P w #[]=(.ok (.value (.pointer (some ⟨w.heap.size,0,none⟩))) (w.alloc (.cells #[v] ty)),#[]):=by
 unfold execOp;rw[ho];simp only[Instr.alloc,Go.zeroValue,Go.typeInfo,Go.program,bind,Adt,Ads,hi,hz,pure,newVar,newRow,newObj,World.alloc,hv]
def Pd:TypeDesc->Bool
 | .struct _| .array _ _=>false
 |_=>true
def agk{P:Abe}{ty:Aa8}{d:TypeDesc}(hu:P.underlying ty=some d)(hd:Pd d=true)(w:Abc)(es:Array Abd):(Go.isAgg ty).runT P w es=(.ok false w,es):=by
 simp only[Go.isAgg,Go.underlying,Go.program,bind,Adt,Ads,hu,pure];cases d<;>first|rfl|exact absurd hd (by simp[Pd])
def PC{P:Abe}(t:Array Value){ty:Aa8}{n m:Nat}{o:Ajs}(ho:o.op=.store ty (.tmp n) (.tmp m)){b:Nat}(ht:t.getD n Aeq=.pointer (some ⟨b,0,none⟩)){v:Value}(hm:t.getD m Aeq=v)(hv:v.cells=#[v])(h1:EI v=true)
 {i:Ajw}(hi: P.info? ty=some i)(hs:i.size=1)
 (w:Abc){v0:Value}{e:Aa8}(hw:w.heap[b]?=some (.cells #[v0] e (0,0))):
 (execOp (aS t) o).runT P w #[]=(.ok .skip {w with heap:=w.heap.setIfInBounds b (.cells #[v] e (0,0))},#[⟨.cell ⟨b,0,none⟩,true,false⟩]):=by
 have hc: w.cell? ⟨b,0,none⟩=some v0:=lL hw rfl rfl;have hf: w.frozen? ⟨b,0,none⟩=false:=by rw[xm hw];rfl
 have e1:aS t (.tmp n)=.pointer (some ⟨b,0,none⟩):=ht;have e3:aS t (.tmp m)=v:=hm;have jy:w.setCell ⟨b,0,none⟩ v={w with heap:=w.heap.setIfInBounds b (.cells #[v] e (0,0))}:=by
  have hh:(w.setCell ⟨b,0,none⟩ v).heap=w.heap.setIfInBounds b (.cells #[v] e (0,0)):=by
   apply Ajk;intro i;rw[Bx hw rfl i,Aai]
   by_cases hi:i=b
   ·subst hi
    have al:=(Aaf.1 hw).1
    simp only[if_true,al];rfl
   ·simp only[hi,Ne.symm hi,if_false]
  rw[<-hh];rfl
 have e2:execOp (aS t) o=(storeVar ty ⟨b,0,none⟩ v>>=λ_=>pure .skip):=by
  unfold execOp;rw[ho];simp only[Instr.storeAt,e1,e3,Instr.sureAddr,bind,Adt,pure]
 rw[e2];have aQ:∀es,(Go.store ⟨b,0,none⟩ v).runT P w es=(.ok () (w.setCell ⟨b,0,none⟩ v),es.push ⟨.cell ⟨b,0,none⟩,true,false⟩):=by
  intro es;cases v<;>first| (unfold Go.store;simp only[Ads,hc,hf,Aay,if_false];rfl) |cases h1
 rw[<-jy];have aw:¬ (#[v].size≠1):=by simp
 simp only[storeVar,hv,storeCells,sizeOf,Go.typeInfo,Go.program,bind,Adt,Ads,hi,hs,pure];rw[if_neg aw];have ha:(⟨b,0,none⟩:Addr).add 0=⟨b,0,none⟩:=rfl;rw[ha];show(((Go.store ⟨b,0,none⟩ v).bind λ_=>Aj6 ()).bind λ_=>Aj6 Next.skip).runT P w #[]=_
 rw[pA,pA,aQ];rfl
end Go.Jn
namespace Go.Jn
open Go Go.Sim Go.Conc
section
variable {P:Abe}(t:Array Value){o:Ajs}(w:Abc)
def run_move{x:Abm}(ho:o.op=.move x):(execOp (aS t) o).runT P w #[]=(.ok (.value (aS t x)) w,#[]):=by
 unfold execOp;rw[ho];rfl
def run_assign{x:Abm}(ho:o.op=.assign x):(execOp (aS t) o).runT P w #[]=(.ok (.value (aS t x)) w,#[]):=by
 unfold execOp;rw[ho];rfl
def Pz{f:Aa6}{cp:Array Abm}(ho:o.op=.makeFunc (.func f) #[] cp):(execOp (aS t) o).runT P w #[]=(.ok (.value (.func (.func f) #[] (cp.map (aS t)))) w,#[]):=by
 unfold execOp;rw[ho]
 simp only[Ajl,Instr.makeFunc];rfl
def WO{n:Nat}{ts:Array Aa8}{f:Aa6}{eQ:Array Value}(ho:o.op=.go {callee:=.value (.tmp n),args:=#[],argTypes:=ts})(hn:t.getD n Aeq=.func (.func f) #[] eQ):
 (execOp (aS t) o).runT P w #[]=(.ok (.spawn {target:=.fn (.func f) eQ,args:=#[]}) w,#[]):=by
 have e1:aS t (.tmp n)=.func (.func f) #[] eQ:=hn;unfold execOp;rw[ho];simp only[resolve,e1,Deferred.ofValue,Ajl,Aag];rfl
def akt{n:Nat}{ts:Array Aa8}{f:Aa6}{eQ:Array Value}(ho:o.op=.defer {callee:=.value (.tmp n),args:=#[],argTypes:=ts})(hn:t.getD n Aeq=.func (.func f) #[] eQ):
 (execOp (aS t) o).runT P w #[]=(.ok (.defer {target:=.fn (.func f) eQ,args:=#[]}) w,#[]):=by
 have e1:aS t (.tmp n)=.func (.func f) #[] eQ:=hn;unfold execOp;rw[ho];simp only[resolve,e1,Deferred.ofValue,Ajl,Aag];rfl
def WV{n:Nat}{x:Abm}{c:Nat}(ho:o.op=.send (.tmp n) x)(hn:t.getD n Aeq=.chan (some c)):
 (execOp (aS t) o).runT P w #[]=(.ok (.comm #[scase c (aS t x) (.tuple #[])] true .send) w,#[]):=by
 have e1:aS t (.tmp n)=.chan (some c):=hn;unfold execOp;rw[ho];simp only[e1];rfl
def PB{n:Nat}{ty e:Aa8}{dir:ChanDir}{ok:Bool}{c:Nat}(ho:o.op=.recv ty (.tmp n) ok)(hn:t.getD n Aeq=.chan (some c))(hu:P.underlying ty=some (.chan dir e)){i:Ajw}(hi: P.info? e=some i){z:Value}(hz:i.zero=some z):
 (execOp (aS t) o).runT P w #[]=(.ok (.comm #[rcase c z] true (.recv ok)) w,#[]):=by
 have e1:aS t (.tmp n)=.chan (some c):=hn;unfold execOp;rw[ho]
 simp only[e1,Go.underlying,Go.zeroValue,Go.typeInfo,Go.program,bind,Adt,Ads,hu,hi,hz,pure];rfl
def Ft{n i:Nat}{x:Array Value}{v:Value}(ho:o.op=.extract (.tmp n) i)(hn:t.getD n Aeq=.tuple x)(hx:x[i]?=some v):
 (execOp (aS t) o).runT P w #[]=(.ok (.value v) w,#[]):=by
 have e1:aS t (.tmp n)=.tuple x:=hn;unfold execOp;rw[ho]
 simp only[e1,Instr.extract,hx];rfl
def I3{x y:Abm}{ty Qj:Aa8}{a b:Int}(ho:o.op=.binOp .lss ty x y Qj)(hx:aS t x=.int .i64 a)(hy:aS t y=.int .i64 b):
 (execOp (aS t) o).runT P w #[]=(.ok (.value (.bool (decide (a<b)))) w,#[]):=by
 unfold execOp;rw[ho]
 simp only[hx,hy];rfl
def WL{x y:Abm}{ty Qj:Aa8}{a b:Int}(ho:o.op=.binOp .add ty x y Qj)(hx:aS t x=.int .i64 a)(hy:aS t y=.int .i64 b):
 (execOp (aS t) o).runT P w #[]=(.ok (.value (.int .i64 (Adf.wrap (a+b)))) w,#[]):=by
 unfold execOp;rw[ho]
 simp only[hx,hy];rfl
def WQ{n:Nat}{ty e:Aa8}{b:Option Addr}{l c:Nat}(ho:o.op=.call {callee:=.builtin .len,args:=#[.tmp n],argTypes:=#[ty]})(hn:t.getD n Aeq=.slice b l c)(hu:P.underlying ty=some (.slice e)):
 (execOp (aS t) o).runT P w #[]=(.ok (.value (goInt l)) w,#[]):=by
 have e1:aS t (.tmp n)=.slice b l c:=hn;unfold execOp;rw[ho]
 simp only[resolve,Akb,Akc,Akd,e1];show((Builtin.len_ #[ty] o.type #[.slice b l c]).bind λv=>Aj6 (Next.value v)).runT P w #[]=_
 have e2:(Builtin.len_ #[ty] o.type #[.slice b l c]).runT P w #[]=(.ok (goInt l) w,#[]):=by
  unfold Builtin.len_;simp only[Go.underlying,Go.program,bind,Adt,Ads,pure,List.getElem?_toArray,List.getElem?_cons_zero,hu]
 rw[pA,e2];rfl
def WN{n f:Nat}{ty:Aa8}(ho:o.op=.fieldAddr ty (.tmp n) f){a:Addr}(hn:t.getD n Aeq=.pointer (some a)){fs:Array Field}(hu:P.underlying ty=some (.struct fs)){fd:Field}(hf:fs[f]?=some fd){i:Ajw}(hi: P.info? fd.type=some i)(hs:i.size≠0):
 (execOp (aS t) o).runT P w #[]=(.ok (.value (.pointer (some (a.add fd.offset)))) w,#[]):=by
 have e1:aS t (.tmp n)=.pointer (some a):=hn;unfold execOp;rw[ho]
 simp only[e1,Instr.fieldAt,Instr.sureAddr,fieldPlace,sizeOf,Go.underlying,Go.typeInfo,Go.program,bind,Adt,Ads,pure,hu,hf,hi,if_neg hs]
def sx{ty:Aa8}{n:Nat}(ho:o.op=.load ty (.tmp n)){a:Addr}(hn:t.getD n Aeq=.pointer (some a)){d:TypeDesc}(hu:P.underlying ty=some d)(hd:Pd d=true){v:Value}(hc: w.cell? a=some v):
 (execOp (aS t) o).runT P w #[]=(.ok (.value v) w,#[⟨.cell a,false,false⟩]):=by
 have e1:aS t (.tmp n)=.pointer (some a):=hn;have e2:execOp (aS t) o=(do let x <-(do if <-Go.isAgg ty then pure (.agg (<-loadCells a (<-sizeOf ty))) else Go.load a);pure (.value x)):=by
  unfold execOp;rw[ho];simp only[Instr.loadAt,e1,Instr.sureAddr,loadVar,bind,Adt,pure]
 rw[e2];simp only[bind,Go.load];rw[pA,pA,agk hu hd];simp only[Aay,if_false,Ads,hc,Aae];rfl
def aks{n:Nat}{ty:Aa8}{c s r:Nat}(ho:o.op=.call {callee:=.builtin .close,args:=#[.tmp n],argTypes:=#[ty]})(hn:t.getD n Aeq=.chan (some c))(hw:w.heap[c]?=some (.chan 0 #[] false s r false)):
 (execOp (aS t) o).runT P w #[]=(.ok (.value (.tuple #[])) (w.shut c s r false),#[⟨.obj c,false,true⟩,⟨.obj c,true,true⟩]):=by
 have e1:aS t (.tmp n)=.chan (some c):=hn;unfold execOp;rw[ho]
 simp only[resolve,Akb,Akc,Akd,e1];show((Builtin.close_ #[ty] o.type #[.chan (some c)]).bind λv=>Aj6 (Next.value v)).runT P w #[]=_
 have e2:(Builtin.close_ #[ty] o.type #[.chan (some c)]).runT P w #[]=(.ok (.tuple #[]) (w.shut c s r false),#[⟨.obj c,false,true⟩,⟨.obj c,true,true⟩]):=by
  have e3:Builtin.close_ #[ty] o.type #[.chan (some c)]=(do
   let .chan room buf closed alj ajQ timer <-Go.getObj c|Go.stuck "close: no channel in this block"
   if closed then runtimePanic (.plain "close of closed channel")
   Go.setObj c (.chan room buf true alj ajQ timer)
   pure (.tuple #[])):=rfl
  rw[e3];simp only[Go.getObj,Go.setObj,bind,Adt,Ads,hw,Aay,if_false,pure,Aae];rfl
 rw[pA,e2];rfl
end
end Go.Jn
namespace Go.Jn
open Go Go.Proofs Go.Sim
def ChanAt(t:Array Value)(M:aaa)(w0 w:Abc)(s c:Nat):Prop:=t[s]?=some (.chan (some c))/\M.O c/\w0.heap.size<=c/\w.heap[c]?=some (.chan 0 #[] false 0 0 false)
def nU(t:Array Value)(M:aaa)(w0 w:Abc)(s p:Nat)(v:Value)(ty:Aa8):Prop:=t[s]?=some (.pointer (some ⟨p,0,none⟩))/\M.O p/\w0.heap.size<=p/\w.heap[p]?=some (.cells #[v] ty (0,0))
def kB{w:Abc}{o:Obj}{b:Nat}(h:b<w.heap.size):(w.alloc o).heap[b]?=w.heap[b]?:=by
 show(w.heap.push o)[b]?=_;rw[Aah,if_neg (by omega)]
def jO{w:Abc}{o:Obj}:(w.alloc o).heap[w.heap.size]?=some o:=by
 show(w.heap.push o)[w.heap.size]?=_;rw[Aah,if_pos rfl]
def fa{w:Abc}{o:Obj}:(w.alloc o).heap.size=w.heap.size+1:=by
 show(w.heap.push o).size=_;rw[Array.size_push]
def xe{M:aaa}{w:Abc}{o:Obj}:eO M w (w.alloc o) #[]:=
 ⟨by rw[fa];omega,λb hb _=>kB hb,rfl,rfl,rfl,λe he=>absurd he (by simp)⟩
def jh(w:Abc)(p:Nat)(o:Obj):Abc:={w with heap:=w.heap.setIfInBounds p o}
def qS{w:Abc}{p:Nat}{o:Obj}:(jh w p o).heap.size=w.heap.size:=Aej
def wa{w:Abc}{p b:Nat}{o:Obj}(h:p≠b):(jh w p o).heap[b]?=w.heap[b]?:=by
 show(w.heap.setIfInBounds p o)[b]?=_;rw[Aai,if_neg h]
def PM{w:Abc}{p:Nat}{o:Obj}(h:p<w.heap.size):(jh w p o).heap[p]?=some o:=by
 show(w.heap.setIfInBounds p o)[p]?=_;rw[Aai,if_pos rfl,if_pos h]
def LZ{M:aaa}{w:Abc}{p:Nat}{o:Obj}(hO:M.O p):eO M w (jh w p o) #[⟨.cell ⟨p,0,none⟩,true,false⟩]:=
 ⟨by rw[qS];exact Ad4 _,λb _ hb=>wa (by rintro rfl;exact hb hO),rfl,rfl,rfl,λe he=>by
   simp only[Af0,Af1] at he;subst he;exact .inl ⟨p,.inr ⟨⟨p,0,none⟩,rfl,rfl⟩,rfl,.inl (.inl hO),λ_=>.inl hO⟩⟩
def GQ{M:aaa}{w:Abc}{p:Nat}{o:Obj}:M.grow w (jh w p o)=M:=by
 have:=zV M w;unfold aaa.grow at this |-
 rw[qS];exact this
section
variable {t:Array Value}{M:aaa}{w0 w:Abc}{s c:Nat}
def ChanAt.alloc(h:ChanAt t M w0 w s c)(hl:∀b,M.has b->b<w.heap.size){d:Nat}(hd:d≠s){v:Value}{o:Obj}:ChanAt (t.setIfInBounds d v) (M.grow w (w.alloc o)) w0 (w.alloc o) s c:=
 ⟨by rw[Aai,if_neg hd];exact h.1,.inl h.2.1,h.2.2.1,(kB (hl _ (.inl h.2.1))).trans h.2.2.2⟩
def nU.alloc{v0:Value}{ty:Aa8}(h:nU t M w0 w s c v0 ty)(hl:∀b,M.has b->b<w.heap.size){d:Nat}(hd:d≠s){v:Value}{o:Obj}:nU (t.setIfInBounds d v) (M.grow w (w.alloc o)) w0 (w.alloc o) s c v0 ty:=
 ⟨by rw[Aai,if_neg hd];exact h.1,.inl h.2.1,h.2.2.1,(kB (hl _ (.inl h.2.1))).trans h.2.2.2⟩
def ChanAt.set(h:ChanAt t M w0 w s c){p:Nat}{v:Value}{ty:Aa8}(hp:w.heap[p]?=some (.cells #[v] ty (0,0))){o:Obj}:ChanAt t M w0 (jh w p o) s c:=
 ⟨h.1,h.2.1,h.2.2.1,(wa (by rintro rfl;rw[h.2.2.2] at hp;exact absurd hp (by simp))).trans h.2.2.2⟩
def nU.set{v0:Value}{ty:Aa8}(h:nU t M w0 w s c v0 ty){p:Nat}(hp:p≠c){o:Obj}:nU t M w0 (jh w p o) s c v0 ty:=
 ⟨h.1,h.2.1,h.2.2.1,(wa hp).trans h.2.2.2⟩
def ChanAt.keep(h:ChanAt t M w0 w s c){aa:Abc}(k:bN M w aa):ChanAt t M w0 aa s c:=⟨h.1,h.2.1,h.2.2.1,(k.kept _ (.inl h.2.1)).trans h.2.2.2⟩
def nU.keep{v0:Value}{ty:Aa8}(h:nU t M w0 w s c v0 ty){aa:Abc}(k:bN M w aa):nU t M w0 aa s c v0 ty:=⟨h.1,h.2.1,h.2.2.1,(k.kept _ (.inl h.2.1)).trans h.2.2.2⟩
end
structure I4(t0:Array Value)(M0:aaa)(w0:Abc)(n:Nat)(l:Array Bool)(t:Array Value)(M:aaa)(w:Abc):Prop where
 ex:∃a0 a1 a2 a3 a4 a5:Bool,∃cN cL p6 p7:Nat,l=#[a0,a1,a2,a3,a4,a5]/\n=bn a0+bn a1+bn a2+bn a3+bn a4+bn a5/\
  (a0=true->ChanAt t M w0 w 19 cN)/\(a1=true->ChanAt t M w0 w 20 cL)/\
  (a2=true->nU t M w0 w 6 p6 (if a4 then .chan (some cN) else .chan none) 154)/\(a3=true->nU t M w0 w 7 p7 (if a5 then .chan (some cL) else .chan none) 155)/\
  (a4=true->a0=true/\a2=true)/\(a5=true->a1=true/\a3=true)/\(a0=true->a1=true->cN≠cL)/\(a2=true->a3=true->p6≠p7)
 nR:t.size=41
 same:∀j,j≠19->j≠20->j≠6->j≠7->t[j]?=t0[j]?
 O:∀b,M0.O b->M.O b
 On:∀b,M.O b->M0.O b\/w0.heap.size<=b
 R:M.R=M0.R
 kept:∀b,M0.has b->w.heap[b]?=w0.heap[b]?
 size:w0.heap.size<=w.heap.size
 oF:∀b,M0.has b->b<w0.heap.size
 low:∀b,M.has b->b<w.heap.size
 tape:w.tape=w0.tape
 os:w.os=w0.os
 out:w.output=w0.output
section
variable {t0 t:Array Value}{M0 M:aaa}{w0 w:Abc}{n:Nat}{l:Array Bool}
def I4.keep(h:I4 t0 M0 w0 n l t M w){aa:Abc}(k:bN M w aa):I4 t0 M0 w0 n l t M aa:=by
 obtain⟨⟨a0,a1,a2,a3,a4,a5,cN,cL,p6,p7,e1,e2,f0,f1,f2,f3,f4,f5,f6,f7⟩,nR,same,O,On,R,kept,size,oF,low,tape,os,out⟩:=h;exact⟨⟨a0,a1,a2,a3,a4,a5,cN,cL,p6,p7,e1,e2,λh=>(f0 h).keep k,λh=>(f1 h).keep k,λh=>(f2 h).keep k,λh=>(f3 h).keep k,f4,f5,f6,f7⟩,nR,same,O,On,R,
  λb hb=>(k.kept b (hb.imp (O b) λx=>by rw[R];exact x)).trans (kept b hb),Ad5 size k.size,oF,λb hb=>Ad6 (low b hb) k.size,k.tape.trans tape,k.os.trans os,k.out.trans out⟩
end
end Go.Jn
namespace Go.Jn
open Go Go.Proofs Go.Sim
def BG:∃dir,Afr.underlying 154=some (.chan dir 3):=⟨_,rfl⟩
def Qi:∃dir,Afr.underlying 155=some (.chan dir 4):=⟨_,rfl⟩
def in3:∃i,Afr.info? 3=some i:=⟨_,rfl⟩
def in4:∃i,Afr.info? 4=some i:=⟨_,rfl⟩
def Vx:∃i,Afr.info? 154=some i/\i.zero=some (.chan none)/\i.size=1:=⟨_,rfl,rfl,rfl⟩
def Vy:∃i,Afr.info? 155=some i/\i.zero=some (.chan none)/\i.size=1:=⟨_,rfl,rfl,rfl⟩
section
variable {t0 t:Array Value}{M0 M:aaa}{w0 w:Abc}{n:Nat}{l:Array Bool}
def I4.step(h:I4 t0 M0 w0 n l t M w){i:Nat}(hi:i∈Aj2 .any iP l):
 ∃o v aq es,iP[i]?=some o/\Aj1 o (Ajt iP t)=true/\
  ((execOp (aS t) o).runT Afr w #[]=(.ok (.value v) aq,es)\/v=Aeq/\(execOp (aS t) o).runT Afr w #[]=(.ok .skip aq,es))/\eO M w aq es/\(∀e∈es,∀b,e.loc≠ .obj b)/\I4 t0 M0 w0 (n+1) (l.setIfInBounds i true) (ay t o.dst v) (M.grow w aq) aq:=by
 obtain⟨⟨a0,a1,a2,a3,a4,a5,cN,cL,p6,p7,rfl,e2,f0,f1,f2,f3,f4,f5,f6,f7⟩,nR,same,O,On,R,kept,size,oF,low,tape,os,out⟩:=h;have hr:=Ru ajO a0 a1 a2 a3 a4 a5;rw[Aka] at hr;have hc:=hr i hi;have Iy:∀(o:Obj) b,(M.grow w (w.alloc o)).has b->b<(w.alloc o).heap.size:=by
  intro o b hb;rw[fa];rcases hb with(hb|hb) |hb
  ·have:=low b (.inl hb);omega
  ·rw[fa] at hb;omega
  ·have:=low b (.inr hb);omega
 have Iw:∀(o:Obj) b,(M.grow w (w.alloc o)).O b->M0.O b\/w0.heap.size<=b:=by
  rintro o b (hb|hb)
  ·exact On b hb
  ·right;omega
 have Iv:∀(o:Obj) b,M0.has b->(w.alloc o).heap[b]?=w0.heap[b]?:=λo b hb=>(kB (by have:=oF b hb;omega)).trans (kept b hb)
 have Ix:∀o:Obj,w0.heap.size<=(w.alloc o).heap.size:=λo=>by rw[fa];omega
 have own:∀o:Obj,(M.grow w (w.alloc o)).O w.heap.size:=λo=>.inr ⟨Ad4 _,by rw[fa];omega⟩
 have sm:∀(d:Nat) (v:Value),(d=19\/d=20\/d=6\/d=7)->∀j,j≠19->j≠20->j≠6->j≠7->(t.setIfInBounds d v)[j]?=t0[j]?:=by
  intro d v hd j h1 h2 h3 h4;rw[Aai,if_neg (by rcases hd with rfl|rfl|rfl|rfl<;>omega)]
  exact same j h1 h2 h3 h4
 have at_:∀(d:Nat) (v:Value),d<41->(t.setIfInBounds d v)[d]?=some v:=by
  intro d v hd;rw[Aai,if_pos rfl,if_pos (by omega)]
 have cJ:∀ {s:Nat} {v:Value},t[s]?=some v->t.getD s Aeq=v:=by
  intro s v h;rw[Aaa,h];rfl
 match i,hc with
 |0,hc=>
  have ha:a0=false:=by simpa [uO] using hc
  subst ha;obtain⟨o,ho,ab,hd,hg⟩:=ajd;obtain⟨dir,hu⟩:=BG;have h4:a4=false:=by cases a4;rfl;exact absurd (f4 rfl).1 (by simp)
  subst h4;refine⟨o,_,_,_,ho,cf hg,.inl (WU t ab hu w in3),xe,by simp,?_⟩
  rw[hd];refine⟨⟨true,a1,a2,a3,false,a5,w.heap.size,cL,p6,p7,rfl,by simp only[bn] at *;simp at *;omega,λ_=>⟨at_ 19 _ (by omega),own _,size,jO⟩,λh=>(f1 h).alloc low (by omega),λh=>?_,λh=>(f3 h).alloc low (by omega),by simp,f5,λ_ h=>?_,f7⟩,
   by simp[ay,nR],sm 19 _ (by simp),λb hb=>.inl (O b hb),Iw _,R,Iv _,Ix _,oF,Iy _,tape,os,out⟩
  ·have:=(f2 h).alloc low (d:=19) (v:=.chan (some w.heap.size)) (o:=.chan 0 #[] false 0 0 false) (by omega)
   simpa [ay] using this
  ·have:=low cL (.inl (f1 h).2.1);omega
 |1,hc=>
  have ha:a1=false:=by simpa [uO] using hc
  subst ha;obtain⟨o,ho,ab,hd,hg⟩:=aje;obtain⟨dir,hu⟩:=Qi;have h5:a5=false:=by cases a5;rfl;exact absurd (f5 rfl).1 (by simp)
  subst h5;refine⟨o,_,_,_,ho,cf hg,.inl (WU t ab hu w in4),xe,by simp,?_⟩
  rw[hd];refine⟨⟨a0,true,a2,a3,a4,false,cN,w.heap.size,p6,p7,rfl,by simp only[bn] at *;simp at *;omega,λh=>(f0 h).alloc low (by omega),λ_=>⟨at_ 20 _ (by omega),own _,size,jO⟩,λh=>(f2 h).alloc low (by omega),λh=>?_,f4,by simp,λh _=>?_,f7⟩,
   by simp[ay,nR],sm 20 _ (by simp),λb hb=>.inl (O b hb),Iw _,R,Iv _,Ix _,oF,Iy _,tape,os,out⟩
  ·have:=(f3 h).alloc low (d:=20) (v:=.chan (some w.heap.size)) (o:=.chan 0 #[] false 0 0 false) (by omega)
   simpa [ay] using this
  ·have:=low cN (.inl (f0 h).2.1);omega
 |2,hc=>
  have ha:a2=false:=by simpa [uO] using hc
  subst ha;obtain⟨o,ho,ab,hd,hg⟩:=ajf;obtain⟨ti,lU,hz,_⟩:=Vx;have h4:a4=false:=by cases a4;rfl;exact absurd (f4 rfl).2 (by simp)
  subst h4;refine⟨o,_,_,_,ho,cf hg,.inl (Py t ab lU hz rfl w),xe,by simp,?_⟩
  rw[hd];refine⟨⟨a0,a1,true,a3,false,a5,cN,cL,w.heap.size,p7,rfl,by simp only[bn] at *;simp at *;omega,λh=>(f0 h).alloc low (by omega),λh=>(f1 h).alloc low (by omega),λ_=>⟨at_ 6 _ (by omega),own _,size,jO⟩,λh=>(f3 h).alloc low (by omega),by simp,f5,f6,λ_ h=>?_⟩,
   by simp[ay,nR],sm 6 _ (by simp),λb hb=>.inl (O b hb),Iw _,R,Iv _,Ix _,oF,Iy _,tape,os,out⟩
  have:=low p7 (.inl (f3 h).2.1);omega
 |3,hc=>
  have ha:a3=false:=by simpa [uO] using hc
  subst ha;obtain⟨o,ho,ab,hd,hg⟩:=ajg;obtain⟨ti,lU,hz,_⟩:=Vy;have h5:a5=false:=by cases a5;rfl;exact absurd (f5 rfl).2 (by simp)
  subst h5;refine⟨o,_,_,_,ho,cf hg,.inl (Py t ab lU hz rfl w),xe,by simp,?_⟩
  rw[hd];refine⟨⟨a0,a1,a2,true,a4,false,cN,cL,p6,w.heap.size,rfl,by simp only[bn] at *;simp at *;omega,λh=>(f0 h).alloc low (by omega),λh=>(f1 h).alloc low (by omega),λh=>(f2 h).alloc low (by omega),λ_=>⟨at_ 7 _ (by omega),own _,size,jO⟩,f4,by simp,f6,λh _=>?_⟩,
   by simp[ay,nR],sm 7 _ (by simp),λb hb=>.inl (O b hb),Iw _,R,Iv _,Ix _,oF,Iy _,tape,os,out⟩
  have:=low p6 (.inl (f2 h).2.1);omega
 |4,hc=>
  have ha:(a4=false/\a0=true)/\a2=true:=by simpa [uO] using hc
  obtain⟨⟨rfl,rfl⟩,rfl⟩:=ha;obtain⟨o,ho,ab,hd,hg⟩:=ajh;obtain⟨ti,lU,_,hs⟩:=Vx;have g0:=f0 rfl;have g2:=f2 rfl;refine⟨o,Aeq,jh w p6 (.cells #[.chan (some cN)] 154 (0,0)),_,ho,cf hg,.inr ⟨rfl,PC t ab (cJ g2.1) (cJ g0.1) rfl rfl lU hs w g2.2.2.2⟩,LZ g2.2.1,by simp,?_⟩
  rw[hd,GQ];refine⟨⟨true,a1,true,a3,true,a5,cN,cL,p6,p7,rfl,by simp only[bn] at *;simp at *;omega,λ_=>g0.set g2.2.2.2,λh=>(f1 h).set g2.2.2.2,λ_=>⟨g2.1,g2.2.1,g2.2.2.1,PM (low _ (.inl g2.2.1))⟩,λh=>(f3 h).set (f7 rfl h),λ_=>⟨rfl,rfl⟩,f5,f6,f7⟩,
   nR,same,O,On,R,λb hb=>(wa (by have:=oF b hb;have:=g2.2.2.1;omega)).trans (kept b hb),by rw[qS];exact size,oF,λb hb=>by rw[qS];exact low b hb,tape,os,out⟩
 |5,hc=>
  have ha:(a5=false/\a1=true)/\a3=true:=by simpa [uO] using hc
  obtain⟨⟨rfl,rfl⟩,rfl⟩:=ha;obtain⟨o,ho,ab,hd,hg⟩:=aji;obtain⟨ti,lU,_,hs⟩:=Vy;have g1:=f1 rfl;have g3:=f3 rfl;refine⟨o,Aeq,jh w p7 (.cells #[.chan (some cL)] 155 (0,0)),_,ho,cf hg,.inr ⟨rfl,PC t ab (cJ g3.1) (cJ g1.1) rfl rfl lU hs w g3.2.2.2⟩,LZ g3.2.1,by simp,?_⟩
  rw[hd,GQ];refine⟨⟨a0,true,a2,true,a4,true,cN,cL,p6,p7,rfl,by simp only[bn] at *;simp at *;omega,λh=>(f0 h).set g3.2.2.2,λ_=>g1.set g3.2.2.2,λh=>(f2 h).set (Ne.symm (f7 h rfl)),λ_=>⟨g3.1,g3.2.1,g3.2.2.1,PM (low _ (.inl g3.2.1))⟩,f4,λ_=>⟨rfl,rfl⟩,f6,f7⟩,
   nR,same,O,On,R,λb hb=>(wa (by have:=oF b hb;have:=g3.2.2.1;omega)).trans (kept b hb),by rw[qS];exact size,oF,λb hb=>by rw[qS];exact low b hb,tape,os,out⟩
 |n+6,hc=>exact absurd hc (by simp[uO])
structure R4(t0:Array Value)(M0:aaa)(w0:Abc)(cN cL p6 p7:Nat)(t:Array Value)(M:aaa)(w:Abc):Prop where
 n:ChanAt t M w0 w 19 cN
 l:ChanAt t M w0 w 20 cL
 vn:nU t M w0 w 6 p6 (.chan (some cN)) 154
 vl:nU t M w0 w 7 p7 (.chan (some cL)) 155
 nl:cN≠cL
 np:p6≠p7
 nR:t.size=41
 same:∀j,j≠19->j≠20->j≠6->j≠7->t[j]?=t0[j]?
 O:∀b,M0.O b->M.O b
 On:∀b,M.O b->M0.O b\/w0.heap.size<=b
 R:M.R=M0.R
 kept:∀b,M0.has b->w.heap[b]?=w0.heap[b]?
 size:w0.heap.size<=w.heap.size
 low:∀b,M.has b->b<w.heap.size
 tape:w.tape=w0.tape
 os:w.os=w0.os
 out:w.output=w0.output
def I4.done(h:I4 t0 M0 w0 n l t M w)(hd:Aj2 .any iP l=[]\/n=iP.size):∃cN cL p6 p7,R4 t0 M0 w0 cN cL p6 p7 t M w:=by
 obtain⟨⟨a0,a1,a2,a3,a4,a5,cN,cL,p6,p7,rfl,e2,f0,f1,f2,f3,f4,f5,f6,f7⟩,nR,same,O,On,R,kept,size,oF,low,tape,os,out⟩:=h;have nO:a0=true/\a1=true/\a2=true/\a3=true/\a4=true/\a5=true:=by
  rcases hd with hd|hd
  ·have:=Ru abf a0 a1 a2 a3 a4 a5
   rw[hd] at this;simpa [and_assoc] using this
  ·rw[alu] at hd
   rw[e2] at hd;cases a0<;>cases a1<;>cases a2<;>cases a3<;>cases a4<;>cases a5<;>simp_all [bn]
 obtain⟨rfl,rfl,rfl,rfl,rfl,rfl⟩:=nO;exact⟨cN,cL,p6,p7,f0 rfl,f1 rfl,f2 rfl,f3 rfl,f6 rfl rfl,f7 rfl rfl,nR,same,O,On,R,kept,size,low,tape,os,out⟩
def mixed:Afr.follows .mixedOrders=true:=by decide+kernel
def am1{main:Bool}{N:Nat}{Stop:aaa->Abo->Abc->Prop}{f:Aa6}{k:List Ajq}{D:List Abb}{kd:Ajr}{cs:List Abn}(hk:(kd==.early)=false)
 (hs:t0.size=41)(gN:∀b,M0.has b->b<w0.heap.size)
 (h:∀cN cL p6 p7 t M w,R4 t0 M0 w0 cN cL p6 p7 t M w->WalkE Afr main N Stop M (rg f t k D kd cs) w):
 WalkE Afr main N Stop M0 (rg f t0 (.code (.region 4 iP true)::k) D kd cs) w0:=by
 refine amU mixed hk (I4 t0 M0 w0) (λn l t M w aa hI kp=>hI.keep kp) (λn l t M w i hI hi=>hI.step hi) (λn l t M w hI hd=>?_) ?_
 ·obtain⟨cN,cL,p6,p7,hR⟩:=hI.done hd
  exact h _ _ _ _ _ _ _ hR
 ·refine⟨⟨false,false,false,false,false,false,0,0,0,0,rfl,rfl,by simp,by simp,by simp,by simp,by simp,by simp,by simp,by simp⟩,hs,λ_ _ _ _ _=>rfl,λ_ h=>h,λ_ h=>.inl h,rfl,λ_ _=>rfl,Ad4 _,gN,gN,rfl,rfl,rfl⟩
end
end Go.Jn
namespace Go.Jn
open Go Go.Proofs Go.Sim Go.Conc
def qV:Aa9->Aa9
 | .block _ c=>c
 | .loop c=>c
 |c=>c
def Lx:Aa9:=(Tryz.f124.body).getD .skip
def pS:Aa9:=qV (qV (a8 (bO Lx)))
def qA:Array Ajs:=opsOf (bO (bO Lx))
def qB:Array Ajs:=opsOf (bO pS)
def qC:Array Ajs:=opsOf (qV (bO (a8 (a8 pS))))
def qD:Array Ajs:=opsOf (a8 (a8 (a8 pS)))
def qE:Array Ajs:=opsOf (a8 Lx)
def Sa:Tryz.f124.body=some (.seq (.seq (.region 0 qA false) (.block 0 (.loop pS))) (.region 4 qE false)):=rfl
def Rj:pS=.seq (.region 1 qB false) (.seq (.cond (.tmp 7) .skip (.exit 0)) (.seq (.block 1 (.region 2 qC false)) (.region 3 qD false))):=rfl
def cA0:∃o,qA[0]?=some o/\o.op=.fieldAddr 26 (.tmp 0) 2/\o.dst=some 3/\o.guard=none:=⟨_,rfl,rfl,rfl,rfl⟩
def EU:∃o,qA[1]?=some o/\o.op=.load 23 (.tmp 3)/\o.dst=some 4/\o.guard=none:=⟨_,rfl,rfl,rfl,rfl⟩
def EV:∃o,qA[2]?=some o/\o.op=.call {callee:=.builtin .len,args:=#[.tmp 4],argTypes:=#[23]}/\o.dst=some 5/\o.guard=none:=⟨_,rfl,rfl,rfl,rfl⟩
def cA3:∃o,qA[3]?=some o/\o.op=.move (.const (.int .i64 0))/\o.dst=some 6/\o.guard=none:=⟨_,rfl,rfl,rfl,rfl⟩
def Si:∃o,qB[0]?=some o/\o.op=.binOp .lss 3 (.tmp 6) (.tmp 5) 3/\o.dst=some 7/\o.guard=none:=⟨_,rfl,rfl,rfl,rfl⟩
def Z4:∃o,qC[0]?=some o/\o.op=.load 155 (.tmp 1)/\o.dst=some 8/\o.guard=none:=⟨_,rfl,rfl,rfl,rfl⟩
def Z5:∃o,qC[1]?=some o/\o.op=.recv 155 (.tmp 8) false/\o.dst=some 9/\o.guard=none:=⟨_,rfl,rfl,rfl,rfl⟩
def Z6:∃o,qD[0]?=some o/\o.op=.binOp .add 3 (.tmp 6) (.const (.int .i64 1)) 3/\o.dst=some 10/\o.guard=none:=⟨_,rfl,rfl,rfl,rfl⟩
def Z7:∃o,qD[1]?=some o/\o.op=.move (.tmp 10)/\o.dst=some 6/\o.guard=none:=⟨_,rfl,rfl,rfl,rfl⟩
def Z8:∃o,qE[0]?=some o/\o.op=.load 154 (.tmp 2)/\o.dst=some 11/\o.guard=none:=⟨_,rfl,rfl,rfl,rfl⟩
def Sj:∃o,qE[1]?=some o/\o.op=.call {callee:=.builtin .close,args:=#[.tmp 11],argTypes:=#[154]}/\o.dst=none/\o.guard=none:=⟨_,rfl,rfl,rfl,rfl⟩
def zA:qA.size=4:=rfl
def zB:qB.size=1:=rfl
def zC:qC.size=2:=rfl
def zD:qD.size=2:=rfl
def zE:qE.size=2:=rfl
def agb:∃i,Afr.info? 4=some i/\i.zero=some (.bool false):=⟨_,rfl,rfl⟩
def XU:∃fs fd i,Afr.underlying 26=some (.struct fs)/\fs[2]?=some fd/\fd.offset=2/\ Afr.info? fd.type=some i/\i.size≠0:=⟨_,_,_,rfl,rfl,rfl,rfl,by decide⟩
def XT:∃e,Afr.underlying 23=some (.slice e):=⟨_,rfl⟩
def vY{M:aaa}{b:Nat}(h:M.has b)(a:Addr)(ha:a.block=b):∀e∈(#[⟨.cell a,false,false⟩]:Array Abd),wK M e:=λe he=>by
 simp only[Af0,Af1] at he;subst he;exact .inl ⟨b,.inr ⟨a,rfl,ha⟩,rfl,h,λh=>absurd h (by simp)⟩
def cS{M:aaa}:∀e∈(#[]:Array Abd),wK M e:=λe he=>absurd he (by simp)
end Go.Jn
namespace Go.Jn
open Go Go.Proofs Go.Sim Go.Conc
def cJ{t:Array Value}{s:Nat}{v:Value}(h:t[s]?=some v):t.getD s Aeq=v:=by
 rw[Aaa,h];rfl
def tY{t:Array Value}{d:Nat}{v:Value}(h:d<t.size):(t.setIfInBounds d v)[d]?=some v:=by
 rw[Aai,if_pos rfl,if_pos h]
def bL{t:Array Value}{d s:Nat}{v:Value}(h:d≠s):(t.setIfInBounds d v)[s]?=t[s]?:=by
 rw[Aai,if_neg h]
section
variable {n N0 cL cN:Nat}{eU:Nat->Bool}{val:Nat->Value}{End:List Nat->aaa->Abo->Abc->Prop}
def aaQ{M:aaa}{w:Abc}{t:Array Value}(ht:t.getD 11 Aeq=.chan (some cN)):
 AtClose (Pm.mk Afr n N0 cL cN eU val End) M (rg 124 t [.inRegion qE [1]] [] .deferred [dp Afr]) w:=by
 refine⟨rfl,?_,λs r hw=>?_⟩
 ·obtain⟨o,ho,ab,hd,hg⟩:=Sj
  show mayWake Afr (rg 124 t [.inRegion qE [1]] [] .deferred [dp Afr])=true;simp[mayWake,Ajy,ho,ab]
 ·obtain⟨o,ho,ab,hd,hg⟩:=Sj
  have aQ:=Jd (P:=Afr) (main:=false) (f:=124) (k:=[]) (D:=[]) (kd:=.deferred) (cs:=[dp Afr]) (rest:=[]) ho (cf hg) rfl (aks t w ab ht hw);rw[hd] at aQ;refine⟨rg 124 t [.inRegion qE []] [] .deferred [dp Afr],4,aQ.trans ?_,?_⟩
  ·have e:seen Afr 124 #[⟨.obj cN,false,true⟩,⟨.obj cN,true,true⟩]=#[⟨.obj cN,false,true⟩,⟨.obj cN,true,true⟩]:=by simp[seen]
   rw[e];rfl
  ·refine .inr ⟨rfl,rg 124 t [] [] .deferred [dp Afr],λaa=>by simp[Abv,Ad3,ay],.inr ⟨rfl,aO ⟨124,t,[],[],.returning,.deferred,none⟩ [dp Afr],λaa=>by simp[Abv,Ad3],WD Tryz.func124 rfl⟩⟩
def ib{t:Array Value}{d:Nat}{v:Value}(h:d<t.size):(ay t (some d) v).getD d Aeq=v:=cJ (tY h)
def wrap_small{x:Int}(h0:0<=x)(h1:x<2 ^ 62):Adf.wrap x=x:=by
 rw[IntWalk.i64_left];exact IntWalk.wrap64_in x (by omega)
def aaR{M:aaa}{w:Abc}{p6 p7:Nat}{e6 e7:Aa8}{f6 f7:Nat×Nat}(m6:M.has p6)(m7:M.has p7)(h6:w.heap[p6]?=some (.cells #[.chan (some cN)] e6 f6))(h7:w.heap[p7]?=some (.cells #[.chan (some cL)] e7 f7))(hn:n<2 ^ 61):
 ∀(r:Nat) (t:Array Value),r<=n->t.size=12->t[1]?=some (.pointer (some ⟨p7,0,none⟩))->t[2]?=some (.pointer (some ⟨p6,0,none⟩))->t[5]?=some (.int .i64 n)->t[6]?=some (.int .i64 ((n:Int) - r))->
  Walk Afr false (pW (Pm.mk Afr n N0 cL cN eU val End) r) M (rg 124 t [.code pS,.inLoop pS,.inBlock 0,.code (.region 4 qE false)] [] .deferred [dp Afr]) w:=by
 intro r;induction r with
 |zero=>
  intro t hr hs t1 t2 t5 t6;rw[Rj];refine fF (gH ?_)
  rw[zB];obtain⟨o,ho,ab,hd,hg⟩:=Si;refine du ho (cf hg) rfl (λaa _=>⟨_,I3 t aa ab (cJ t6) (cJ t5),cS⟩) ?_
  rw[hd];refine iA (fF (BM (q:=false) ?_ ?_))
  ·have:¬ ((n:Int) - ((0:Nat):Int)<n):=by omega
   exact(ib (by omega)).trans (congrArg Value.bool (by simp only[this,decide_true,decide_false]))
  ·refine Qm (k':=[.code (.region 4 qE false)]) rfl (gH ?_)
   rw[zE];obtain⟨o,ho,ab,hd,hg⟩:=Z8;obtain⟨dir,hu⟩:=BG;refine du ho (cf hg) rfl (λaa hk=>⟨_,sx _ aa ab (cJ ((bL (by omega)).trans t2)) hu rfl (lL ((hk.kept _ m6).trans h6) rfl rfl),vY m6 _ rfl⟩) ?_
   rw[hd];exact .stop λaa _=>aaQ (cJ (tY (by simp[ay];omega)))
 |succ r ih=>
  intro t hr hs t1 t2 t5 t6;rw[Rj];refine fF (gH ?_)
  rw[zB];obtain⟨o,ho,ab,hd,hg⟩:=Si;refine du ho (cf hg) rfl (λaa _=>⟨_,I3 t aa ab (cJ t6) (cJ t5),cS⟩) ?_
  rw[hd];refine iA (fF (BM (q:=true) ?_ ?_))
  ·have:(n:Int) - ((r+1:Nat):Int)<n:=by omega
   exact(ib (by omega)).trans (congrArg Value.bool (by simp only[this,decide_true,decide_false]))
  ·refine Qq (fF (BL (gH ?_)))
   rw[zC];obtain⟨o,ho,ab,hd,hg⟩:=Z4;obtain⟨dir,hu⟩:=Qi;refine du ho (cf hg) rfl (λaa hk=>⟨_,sx _ aa ab (cJ ((bL (by omega)).trans t1)) hu rfl (lL ((hk.kept _ m7).trans h7) rfl rfl),vY m7 _ rfl⟩) ?_
   rw[hd];suffices rest:∀T:Array Value,T.size=12->T[8]?=some (.chan (some cL))->(∀j,j≠7->j≠8->T[j]?=t[j]?)->
    Walk Afr false (pW (Pm.mk Afr n N0 cL cN eU val End) (r+1)) M (rg 124 T (.inRegion qC [1]:: .inBlock 1:: .code (.region 3 qD false):: .inLoop pS:: .inBlock 0:: [.code (.region 4 qE false)]) [] .deferred [dp Afr]) w from
    rest _ (by simp[ay,hs]) (tY (by simp[ay];omega)) (λj h1 h2=>(bL (Ne.symm h2)).trans (bL (Ne.symm h1)))
   intro T MI WC xQ;obtain⟨o,ho,ab,hd,hg⟩:=Z5;obtain⟨i,hi,hz⟩:=agb;refine .stop λaa hk=>⟨rfl,rfl,⟨.bool false,FG ho (cf hg) rfl (PB T aa ab (cJ WC) hu hi hz)⟩,?_⟩
   have D1:Ae2 (rg 124 T (.inRegion qC [1]:: .inBlock 1:: .code (.region 3 qD false):: .inLoop pS:: .inBlock 0:: [.code (.region 4 qE false)]) [] .deferred [dp Afr]) (recvd false (.bool true) true)=
    rg 124 (T.setIfInBounds 9 (.bool true)) (.inRegion qC []:: .inBlock 1:: .code (.region 3 qD false):: .inLoop pS:: .inBlock 0:: [.code (.region 4 qE false)]) [] .deferred [dp Afr]:=by
    simp[Ae2,Acf,ho,hd,recvd]
   show Walk Afr false (pW (Pm.mk Afr n N0 cL cN eU val End) r) M (Ae2 (rg 124 T (.inRegion qC [1]:: .inBlock 1:: .code (.region 3 qD false):: .inLoop pS:: .inBlock 0:: [.code (.region 4 qE false)]) [] .deferred [dp Afr]) (recvd false (.bool true) true)) aa;rw[D1];refine Walk.rely ?_ hk
   refine iA (Qn (gH ?_))
   rw[zD];obtain⟨o,ho,ab,hd,hg⟩:=Z6;have hU:∀j,j≠7->j≠8->j≠9->(T.setIfInBounds 9 (.bool true))[j]?=t[j]?:=λj h1 h2 h3=>(bL (Ne.symm h3)).trans (xQ j h1 h2)
   refine du ho (cf hg) rfl (λaa _=>⟨_,WL _ aa ab (cJ ((hU 6 (by omega) (by omega) (by omega)).trans t6)) rfl,cS⟩) ?_
   rw[hd];obtain⟨o,ho,ab,hd,hg⟩:=Z7;refine du ho (cf hg) rfl (λaa _=>⟨_,run_move _ aa ab,cS⟩) ?_
   rw[hd];refine iA (Qo ?_)
   have hw:Adf.wrap ((n:Int) - ((r+1:Nat):Int)+1)=(n:Int) - r:=by rw[wrap_small (by omega) (by omega)];omega
   rw[hw];have N7:(T.setIfInBounds 9 (.bool true)).size=12:=by simp[MI]
   refine ih _ (by omega) (by simp[ay,MI]) ?_ ?_ ?_ ?_
   ·exact(bL (by omega)).trans ((bL (by omega)).trans ((hU 1 (by omega) (by omega) (by omega)).trans t1))
   ·exact(bL (by omega)).trans ((bL (by omega)).trans ((hU 2 (by omega) (by omega) (by omega)).trans t2))
   ·exact(bL (by omega)).trans ((bL (by omega)).trans ((hU 5 (by omega) (by omega) (by omega)).trans t5))
   ·refine(tY (by simp[ay,MI])).trans ?_
    exact congrArg some (cJ (tY (by omega)))
def aiM:(Tryz.f124.name== "runtime.NumGoroutine")=false:=by decide+kernel
def closer{M:aaa}{w:Abc}{bk p6 p7:Nat}{e6 e7 eb:Aa8}{f6 f7 fb:Nat×Nat}{bc:Array Value}{A:Option Addr}{c:Nat}(mb:M.has bk)(m6:M.has p6)(m7:M.has p7)(hb:w.heap[bk]?=some (.cells bc eb fb))(hc:bc[2]?=some (.slice A n c))
 (h6:w.heap[p6]?=some (.cells #[.chan (some cN)] e6 f6))(h7:w.heap[p7]?=some (.cells #[.chan (some cL)] e7 f7))(hn:n<2 ^ 61):
 Walk Afr false (pW (Pm.mk Afr n N0 cL cN eU val End) n) M (born Afr {target:=.fn (.func 124) #[.pointer (some ⟨bk,0,none⟩),.pointer (some ⟨p7,0,none⟩),.pointer (some ⟨p6,0,none⟩)],args:=#[]}) w:=by
 refine Ya Tryz.func124 Sa (λaa=>CK Tryz.func124 Sa aiM _ aa) ?_
 have ht:((#[]++#[.pointer (some ⟨bk,0,none⟩),.pointer (some ⟨p7,0,none⟩),.pointer (some ⟨p6,0,none⟩)])++Ajh (Tryz.f124.ntmps - (#[]++#[.pointer (some ⟨bk,0,none⟩),.pointer (some ⟨p7,0,none⟩),.pointer (some ⟨p6,0,none⟩)]:Array Value).size) Aeq:Array Value)=
  #[.pointer (some ⟨bk,0,none⟩),.pointer (some ⟨p7,0,none⟩),.pointer (some ⟨p6,0,none⟩),Aeq,Aeq,Aeq,Aeq,Aeq,Aeq,Aeq,Aeq,Aeq]:=rfl
 rw[ht];generalize hT:(#[.pointer (some ⟨bk,0,none⟩),.pointer (some ⟨p7,0,none⟩),.pointer (some ⟨p6,0,none⟩),Aeq,Aeq,Aeq,Aeq,Aeq,Aeq,Aeq,Aeq,Aeq]:Array Value)=t;have hs:t.size=12:=by rw[<-hT];rfl
 have t0:t[0]?=some (.pointer (some ⟨bk,0,none⟩)):=by rw[<-hT];rfl
 have t1:t[1]?=some (.pointer (some ⟨p7,0,none⟩)):=by rw[<-hT];rfl
 have t2:t[2]?=some (.pointer (some ⟨p6,0,none⟩)):=by rw[<-hT];rfl
 clear hT ht;refine fF (fF (gH ?_))
 rw[zA];obtain⟨o,ho,ab,hd,hg⟩:=cA0;obtain⟨fs,fd,fi,hu,hf,NT,hi,aI⟩:=XU;refine du ho (cf hg) rfl (λaa _=>⟨_,WN t aa ab (cJ t0) hu hf hi aI,cS⟩) ?_
 rw[hd,NT];obtain⟨o,ho,ab,hd,hg⟩:=EU;obtain⟨e,D7⟩:=XT;refine du ho (cf hg) rfl (λaa hk=>⟨_,sx _ aa ab (cJ (tY (by omega))) D7 rfl (lL ((hk.kept _ mb).trans hb) rfl hc),vY mb _ rfl⟩) ?_
 rw[hd];obtain⟨o,ho,ab,hd,hg⟩:=EV;refine du ho (cf hg) rfl (λaa _=>⟨_,WQ _ aa ab (cJ (tY (by simp[ay];omega))) D7,cS⟩) ?_
 rw[hd];obtain⟨o,ho,ab,hd,hg⟩:=cA3;refine du ho (cf hg) rfl (λaa _=>⟨_,run_move _ aa ab,cS⟩) ?_
 rw[hd];refine iA (BL (Qp ?_))
 refine aaR m6 m7 h6 h7 hn n _ (Ad4 _) (by simp[ay,hs]) ?_ ?_ ?_ ?_
 ·exact(bL (by omega)).trans ((bL (by omega)).trans ((bL (by omega)).trans ((bL (by omega)).trans t1)))
 ·exact(bL (by omega)).trans ((bL (by omega)).trans ((bL (by omega)).trans ((bL (by omega)).trans t2)))
 ·exact(bL (by omega)).trans ((tY (by simp[ay];omega)).trans rfl)
 ·refine(tY (by simp[ay];omega)).trans ?_
  have:(n:Int) - n=0:=by omega
  rw[this];rfl
end
end Go.Jn
namespace Go.Jn
open Go Go.Proofs Go.Sim Go.Conc
def yN:Array Ajs:=opsOf ((Tryz.f121.body).getD .skip)
def R9:Tryz.f121.body=some (.region 0 yN false):=rfl
def ZV:∃o,yN[0]?=some o/\o.op=.load 155 (.tmp 0)/\o.dst=some 1/\o.guard=none:=⟨_,rfl,rfl,rfl,rfl⟩
def ZW:∃o,yN[1]?=some o/\o.op=.send (.tmp 1) (.const (.bool true))/\o.dst=none/\o.guard=none:=⟨_,rfl,rfl,rfl,rfl⟩
def ann:yN.size=2:=rfl
def aiL:(Tryz.f121.name== "runtime.NumGoroutine")=false:=by decide+kernel
def alS{P:Abe}{main:Bool}{g f:Aa6}{t eQ:Array Value}{k:List Ajq}{D:List Abb}{kd:Ajr}{cs:List Abn}{fn:Abf}{c:Aa9}(hf:P.funcs[f]?=some fn)(hb:fn.body=some c){aa:Abc}(hr:(callFunc f (#[]++eQ)).runT P aa #[]=(.ok (.enter f (#[]++eQ)) aa,#[])):
 Abv P main (aO ⟨g,t,k,{target:=.fn (.func f) eQ,args:=#[]}::D,.returning,kd,none⟩ cs) aa=.go (rg f ((#[]++eQ)++Ajh (fn.ntmps - (#[]++eQ:Array Value).size) Aeq) [.code c] [] .deferred (⟨g,t,k,D,.returning,kd,none⟩::cs)) aa #[]:=by
 have hi:invoke (.fn (.func f) eQ) #[]=callFunc f (#[]++eQ):=rfl;have e:Abt P ⟨g,t,k,D,.returning,kd,none⟩ cs none {target:=.fn (.func f) eQ,args:=#[]} aa=.go (aO (Ace P f (#[]++eQ) .deferred) (⟨g,t,k,D,.returning,kd,none⟩::cs)) aa #[]:=by
  unfold Abt;simp only[hi,hr,ud,Aci,Bool.false_and,Aay,if_false];rfl
 exact e.trans (by rw[zQ hf hb])
def alO{P:Abe}{f g:Aa6}{t t':Array Value}{k k':List Ajq}{kd:Ajr}{cs:List Abn}{fn:Abf}(hf:P.funcs[f]?=some fn)(hr:fn.results=#[])(aa:Abc):
 Abv P false (aO ⟨f,t,k,[],.returning,.deferred,none⟩ (⟨g,t',k',[],.returning,kd,none⟩::cs)) aa=.go (aO ⟨g,t',k',[],.returning,kd,none⟩ cs) aa #[]:=by
 have e:Abu P false ⟨f,t,k,[],.returning,.deferred,none⟩ (⟨g,t',k',[],.returning,kd,none⟩::cs) none aa=.go (aO ⟨g,t',k',[],.returning,kd,none⟩ cs) aa #[]:=by
  unfold Abu;simp only[hf,results_none hr,ud,Aci,doReturn];rfl
 exact e
section
variable {n N0 cL cN:Nat}{eU:Nat->Bool}{val:Nat->Value}{End:List Nat->aaa->Abo->Abc->Prop}
def am8{M:aaa}{w:Abc}{p7:Nat}{e7:Aa8}{f7:Nat×Nat}(m7:M.has p7)(h7:w.heap[p7]?=some (.cells #[.chan (some cL)] e7 f7)){t:Array Value}{k:List Ajq}(aft:Tryz.f120.results=#[]):
 Walk Afr false (W2 (Pm.mk Afr n N0 cL cN eU val End)) M (aO ⟨120,t,k,[{target:=.fn (.func 121) #[.pointer (some ⟨p7,0,none⟩)],args:=#[]}],.returning,.deferred,none⟩ [dp Afr]) w:=by
 refine kM rfl (λaa=>alS Tryz.func121 R9 (CK Tryz.func121 R9 aiL _ aa)) ?_
 have ht:((#[]++#[.pointer (some ⟨p7,0,none⟩)])++Ajh (Tryz.f121.ntmps - (#[]++#[.pointer (some ⟨p7,0,none⟩)]:Array Value).size) Aeq:Array Value)=#[.pointer (some ⟨p7,0,none⟩),Aeq]:=rfl;rw[ht];refine gH ?_
 rw[ann];obtain⟨o,ho,ab,hd,hg⟩:=ZV;obtain⟨dir,hu⟩:=Qi;refine du ho (cf hg) rfl (λaa hk=>⟨_,sx _ aa ab (v:=.chan (some cL)) (a:=⟨p7,0,none⟩) rfl hu rfl (lL ((hk.kept _ m7).trans h7) rfl rfl),vY m7 _ rfl⟩) ?_
 rw[hd];obtain⟨o,ho,ab,hd,hg⟩:=ZW;refine .stop λaa _=>⟨rfl,rfl,⟨.tuple #[],FG ho (cf hg) rfl (WV _ aa ab rfl)⟩,5,?_⟩
 have D1:Ae2 (rg 121 #[.pointer (some ⟨p7,0,none⟩),.chan (some cL)] [.inRegion yN [1]] [] .deferred [⟨120,t,k,[],.returning,.deferred,none⟩,dp Afr]) Aeq=
  rg 121 #[.pointer (some ⟨p7,0,none⟩),.chan (some cL)] [.inRegion yN []] [] .deferred [⟨120,t,k,[],.returning,.deferred,none⟩,dp Afr]:=by
  simp[Ae2,Acf,ho,hd]
 show QuitsIn Afr 5 (Ae2 (rg 121 #[.pointer (some ⟨p7,0,none⟩),.chan (some cL)] [.inRegion yN [1]] [] .deferred [⟨120,t,k,[],.returning,.deferred,none⟩,dp Afr]) Aeq);rw[D1];refine .inr ⟨rfl,rg 121 #[.pointer (some ⟨p7,0,none⟩),.chan (some cL)] [] [] .deferred [⟨120,t,k,[],.returning,.deferred,none⟩,dp Afr],λaa=>by simp[Abv,Ad3],?_⟩
 refine .inr ⟨rfl,aO ⟨121,#[.pointer (some ⟨p7,0,none⟩),.chan (some cL)],[],[],.returning,.deferred,none⟩ [⟨120,t,k,[],.returning,.deferred,none⟩,dp Afr],λaa=>by simp[Abv,Ad3],?_⟩
 exact .inr ⟨rfl,_,λaa=>alO Tryz.func121 rfl aa,WD Tryz.func120 aft⟩
def Cy:Aa9:=(Tryz.f120.body).getD .skip
def IN:Array Ajs:=opsOf (bO Cy)
def pz:Array Ajs:=opsOf (a8 (a8 (a8 Cy)))
def ur:Aa9:=bO (a8 Cy)
def sL:Aa9:=bO (a8 (a8 Cy))
def R8:Tryz.f120.body=some (.seq (.region 0 IN false) (.seq ur (.seq sL (.region 3 pz false)))):=rfl
def ZQ:∃o,IN[0]?=some o/\o.op=.makeFunc (.func 121) #[] #[.tmp 0]/\o.dst=some 6/\o.guard=none:=⟨_,rfl,rfl,rfl,rfl⟩
def ZR:∃o,IN[1]?=some o/\o.op=.defer {callee:=.value (.tmp 6),args:=#[],argTypes:=#[]}/\o.dst=none/\o.guard=none:=⟨_,rfl,rfl,rfl,rfl⟩
def ZS:∃o,pz[0]?=some o/\o.op=.load 154 (.tmp 3)/\o.dst=some 16/\o.guard=none:=⟨_,rfl,rfl,rfl,rfl⟩
def ZT:∃o,pz[1]?=some o/\o.op=.load 3 (.tmp 2)/\o.dst=some 17/\o.guard=none:=⟨_,rfl,rfl,rfl,rfl⟩
def ZU:∃o,pz[2]?=some o/\o.op=.send (.tmp 16) (.tmp 17)/\o.dst=none/\o.guard=none:=⟨_,rfl,rfl,rfl,rfl⟩
def ano:IN.size=2:=rfl
def anp:pz.size=3:=rfl
def ty3:Afr.underlying 3=some (.int .i64):=rfl
def aiK:(Tryz.f120.name== "runtime.NumGoroutine")=false:=by decide+kernel
def am9{Stop:aaa->Abo->Abc->Prop}{M:aaa}{w:Abc}{bk p6 p7 pk:Nat}
 (h:∀t:Array Value,t.size=18->t[0]?=some (.pointer (some ⟨p7,0,none⟩))->t[1]?=some (.pointer (some ⟨bk,0,none⟩))->t[2]?=some (.pointer (some ⟨pk,0,none⟩))->t[3]?=some (.pointer (some ⟨p6,0,none⟩))->
   t[6]?=some (.func (.func 121) #[] #[.pointer (some ⟨p7,0,none⟩)])->(∀j,4<=j->j<18->j≠6->t[j]?=some Aeq)->
   Walk Afr false Stop M (rg 120 t [.code (.seq ur (.seq sL (.region 3 pz false)))] [{target:=.fn (.func 121) #[.pointer (some ⟨p7,0,none⟩)],args:=#[]}] .deferred [dp Afr]) w):
 Walk Afr false Stop M (born Afr {target:=.fn (.func 120) #[.pointer (some ⟨p7,0,none⟩),.pointer (some ⟨bk,0,none⟩),.pointer (some ⟨pk,0,none⟩),.pointer (some ⟨p6,0,none⟩)],args:=#[]}) w:=by
 refine Ya Tryz.func120 R8 (λaa=>CK Tryz.func120 R8 aiK _ aa) ?_
 have hn:Tryz.f120.ntmps=18:=rfl;have ht:∀a b c d:Value,((#[]++#[a,b,c,d])++Ajh (18 - (#[]++#[a,b,c,d]:Array Value).size) Aeq:Array Value)=#[a,b,c,d,Aeq,Aeq,Aeq,Aeq,Aeq,Aeq,Aeq,Aeq,Aeq,Aeq,Aeq,Aeq,Aeq,Aeq]:=λ_ _ _ _=>by simp[Ajh]
 rw[hn];rw[ht];generalize hT:(#[.pointer (some ⟨p7,0,none⟩),.pointer (some ⟨bk,0,none⟩),.pointer (some ⟨pk,0,none⟩),.pointer (some ⟨p6,0,none⟩),Aeq,Aeq,Aeq,Aeq,Aeq,Aeq,Aeq,Aeq,Aeq,Aeq,Aeq,Aeq,Aeq,Aeq]:Array Value)=T;have hs:T.size=18:=by rw[<-hT];rfl
 have t0:T[0]?=some (.pointer (some ⟨p7,0,none⟩)):=by rw[<-hT];rfl
 have t1:T[1]?=some (.pointer (some ⟨bk,0,none⟩)):=by rw[<-hT];rfl
 have t2:T[2]?=some (.pointer (some ⟨pk,0,none⟩)):=by rw[<-hT];rfl
 have t3:T[3]?=some (.pointer (some ⟨p6,0,none⟩)):=by rw[<-hT];rfl
 have tu:∀j,4<=j->j<18->T[j]?=some Aeq:=by
  intro j h4 GV;have:j=4\/j=5\/j=6\/j=7\/j=8\/j=9\/j=10\/j=11\/j=12\/j=13\/j=14\/j=15\/j=16\/j=17:=by omega
  rw[<-hT];rcases this with rfl|rfl|rfl|rfl|rfl|rfl|rfl|rfl|rfl|rfl|rfl|rfl|rfl|rfl<;>rfl
 clear hT ht;refine fF (gH ?_)
 rw[ano];obtain⟨o,ho,ab,hd,hg⟩:=ZQ;have hv:(#[Operand.tmp 0].map (aS T))=#[.pointer (some ⟨p7,0,none⟩)]:=by
  have:aS T (.tmp 0)=.pointer (some ⟨p7,0,none⟩):=cJ t0;simp only[Akb,Akc,Akd,this]
 refine du ho (cf hg) rfl (λaa _=>⟨_,(Pz T aa ab).trans (by rw[hv]),cS⟩) ?_
 rw[hd];obtain⟨o,ho,ab,hd,hg⟩:=ZR;refine amZ ho (cf hg) rfl (d:={target:=.fn (.func 121) #[.pointer (some ⟨p7,0,none⟩)],args:=#[]}) (λaa=>akt _ aa ab (ib (by omega))) ?_
 rw[hd];refine iA (h _ ?_ ?_ ?_ ?_ ?_ ?_ ?_)
 ·simp[ay,hs]
 ·exact(bL (by omega)).trans t0
 ·exact(bL (by omega)).trans t1
 ·exact(bL (by omega)).trans t2
 ·exact(bL (by omega)).trans t3
 ·exact tY (by omega)
 ·exactλj h4 GV h6=>(bL (Ne.symm h6)).trans (tu j h4 GV)
end
end Go.Jn
namespace Go.Sim
open Go
def Th{α σ:Type}{f:α->σ->Option (ForInStep σ)}(I:σ->Prop)(hf:∀x s r,I s->f x s=some r->I r.value):∀(l:List α) (s s':σ),I s->forIn l s f=some s'->I s'
 | [],s,s',hs,h=>by
   simp only[List.forIn_nil] at h;cases h;exact hs
 |x::l,s,s',hs,h=>by
  rw[List.forIn_cons] at h;simp only[bind,Akh] at h;obtain⟨r,h1,h2⟩:=h;have hr:=hf x s r hs h1;cases r with
  |done b=>cases h2;exact hr
  |yield b=>exact Th I hf l b s' hr h2
def Rr(z:Option (Array Value)):Prop:=∀c,z=some c->aP (λ_ _=>False) c c
def ajR{info:Aa8->Option Ajw}(hi:∀t i v,info t=some i->i.zero=some v->Flat v){fs:Array Field}{i:Ajw}(h:Made.reckonStruct info fs=some i){v:Value}(hv:i.zero=some v):Flat v:=by
 unfold Made.reckonStruct at h;simp only[bind,Akh] at h;obtain⟨r,h1,h2⟩:=h;have inv:Rr r.2.2.2.2.2.2.2.1:=by
  rw[<-Array.forIn_toList] at h1;refine Th (λs=>Rr s.2.2.2.2.2.2.2.1) ?_ _ _ _ ?_ h1
  ·intro x s r hs h
   simp only[Akh] at h;obtain⟨j,hj,h⟩:=h;have key:r.value.2.2.2.2.2.2.2.1=(if s.2.1+j.size>Made.mostCells then none else s.2.2.2.2.2.2.2.1.bind λa=>j.zero.bind λb=>some (a++b.cells)):=by
    by_cases e1:j.str.isEmpty=true
    ·simp[e1] at h
    by_cases e2:x.embedded=true
    ·simp[e1,e2] at h
    by_cases e3:x.tag.isEmpty=true<;>by_cases e4:j.bytes=0<;>simp only[e1,e2,e3,e4,if_true,if_false,Akh,pure,Aeb,Aay] at h<;>obtain⟨tag,ht,rfl⟩:=h<;>rfl
   intro c hc;rw[key] at hc;split at hc
   ·exact absurd hc (by simp)
   ·simp only[Akh] at hc
    obtain⟨a,ha,b,hb,hc⟩:=hc;cases hc;exact(hs a ha).append (ah.cells (hi _ _ _ hj hb))
  ·intro c hc;cases hc;exact .empty
 have hz:i.zero=Option.map Value.agg r.2.2.2.2.2.2.2.1:=by
  split at h2<;>cases h2<;>rfl
 rw[hz] at hv;cases hr:r.2.2.2.2.2.2.2.1 with
 |none=>rw[hr] at hv;exact absurd hv (by simp)
 |some c=>rw[hr] at hv;cases hv;exact .uF (inv c hr)
def aj8{c:Array Value}(h:aP (λ_ _=>False) c c):∀n:Nat,aP (λ_ _=>False) (Ajh n c).flatten (Ajh n c).flatten:=by
 intro n;refine bU.refl λa ha=>?_
 simp only[Array.mem_flatten,Aav] at ha;obtain⟨x,⟨_,rfl⟩,hx⟩:=ha;obtain⟨i,hi,rfl⟩:=Aef.1 hx;exact h.2 i hi hi
def ajS{info:Aa8->Option Ajw}(hi:∀t i v,info t=some i->i.zero=some v->Flat v){d:TypeDesc}{i:Ajw}(h:Made.reckon info d=some i){v:Value}(hv:i.zero=some v):Flat v:=by
 unfold Made.reckon at h;split at h
 ·simp only[bind,Akh] at h
  obtain⟨j,h1,h2⟩:=h;split at h2
  ·exact absurd h2 (by simp)
  ·split at h2
   ·exact absurd h2 (by simp)
   ·simp only[Akh,pure,Aeb] at h2
    obtain⟨_,_,rfl⟩:=h2;cases hv;exact .ptrNone
  ·simp only[Akh,pure,Aeb] at h2
   obtain⟨_,_,rfl⟩:=h2;cases hv;exact .ptrNone
 ·simp only[bind,Akh,pure,Aeb] at h
  obtain⟨_,_,_,_,rfl⟩:=h;cases hv;exact .sliceNone _ _
 ·simp only[bind,Akh,pure,Aeb] at h
  obtain⟨_,_,_,_,_,_,_,_,rfl⟩:=h;cases hv;exact .mapNone
 ·simp only[bind,Akh,pure,Aeb] at h
  obtain⟨_,_,_,_,rfl⟩:=h;cases hv;exact .chanNone
 ·simp only[bind,Akh,pure,Aeb] at h
  obtain⟨_,_,rfl⟩:=h;cases hv;exact .nilFunc
 ·simp only[bind,Akh,pure,Aeb] at h
  obtain⟨j,hj,_,_,rfl⟩:=h;simp only at hv;split at hv
  ·exact absurd hv (by simp)
  ·split at hv
   ·cases hv;exact .uF .empty
   ·cases hz:j.zero with
    |none=>rw[hz] at hv;exact absurd hv (by simp)
    |some z=>rw[hz] at hv;cases hv;exact .uF (aj8 (ah.cells (hi _ _ _ hj hz)) _)
 ·exact ajR hi h hv
 ·exact absurd h (by simp)
def VF{T:Tables}(h0:∀(t:Nat) (i:Ajw) (v:Value),T.types[t]?=some i->i.zero=some v->Flat v):∀(f:Nat) (t:Aa8) (i:Ajw) (v:Value),Made.infoAt T f t=some i->i.zero=some v->Flat v
 |0,_,_,_,h,_=>absurd h (by simp[Made.infoAt])
 |f+1,t,i,v,h,hv=>by
  unfold Made.infoAt at h;split at h
  ·exact h0 _ _ _ h hv
  ·simp only[Akh] at h
   obtain⟨d,_,h2⟩:=h;exact ajS (VF h0 f) h2 hv
def agf{P:Abe}(h0:∀(t:Nat) (i:Ajw) (v:Value),P.types[t]?=some i->i.zero=some v->Flat v):oe P where
 zero t i v h hv:=by
  have h':(if t<P.types.size then P.types[t]? else Made.infoAt P.toTables Made.depth t)=some i:=h
  split at h'
  ·exact h0 _ _ _ h' hv
  ·exact VF (T:=P.toTables) h0 _ _ _ _ h' hv
end Go.Sim
namespace Go.Jn
open Go Go.Proofs Go.Sim
def G0:Nat->Bool:=λg=>g==0
def Sb(P:Abe)(fn:Abf):Bool:=match fn.body with
 |some c=>cr P G0 c && !(fn.name== "runtime.NumGoroutine") && (readies c).isEmpty
 |none=>false
def okB(P:Abe)(i:Nat):Bool:=Tw.vH i||match P.funcs[i]? with
 |some fn=>Sb P fn
 |none=>false
def nF:Nat:=241
def ajb:(List.range nF).all (okB Afr)=true:=by decide+kernel
def E8:Afr.funcs.size=nF:=by decide+kernel
def QA(i:Ajw):Bool:=match i.zero with
 |some v=>kF 10 v
 |none=>true
def anr:Afr.types.all QA=true:=by decide+kernel
def Mg:Afr.follows .staticDataAhead=true:=by decide+kernel
def GG:QS Tw.dead where
 name:=by decide+kernel
 body:=rfl
 next:=by decide+kernel
 row:=by decide+kernel
 init:=by decide+kernel
end Go.Jn
namespace Go.Jn
open Go Go.Proofs Go.Sim
def Qf(P:Abe)(F:Array Abf):∀(d:Nat) (t:Aa8),gK (tw P F) d t=gK P d t
 |0,_=>rfl
 |d+1,t=>by
  unfold gK;have e:gK (tw P F) d=gK P d:=funext λt=>Qf P F d t
  rw[ly,jH,e]
def XN(P:Abe)(F:Array Abf)(G:Nat->Bool):∀c:Aa9,cr (tw P F) G c=cr P G c:=by
 have e0:CR (tw P F)=CR P:=funext λt=>by unfold CR;rw[Qf,Jk,BF]
 have e1:zK (tw P F)=zK P:=funext λt=>by unfold zK;rw[jH]
 have e2:zO (tw P F)=zO P:=funext λs=>funext λd=>by unfold zO;rw[jH,jH,e1]
 have e3:CV (tw P F)=CV P:=funext λs=>funext λi=>by
  unfold CV;rw[jH]
  have:(tw P F).info? = P.info? :=funext λt=>ly P F t
  simp only[this]
 have e4:yG (tw P F)=yG P:=funext λt=>by
  unfold yG;rw[jH]
  have:gK (tw P F) 20=gK P 20:=funext λt=>Qf P F _ t
  simp only[this]
 have e5:EH (tw P F)=EH P:=funext λt=>by
  unfold EH;have:(tw P F).underlying=P.underlying:=funext λt=>jH P F t
  simp only[this]
 have e6:uL (tw P F)=uL P:=funext λts=>funext λn=>funext λb=>by unfold uL;rw[e5]
 have e7:iO (tw P F)=iO P:=funext λo=>by unfold iO;rw[e0,e2,e3,e4,e6]
 have e8:j7 (tw P F) G=j7 P G:=funext λo=>by unfold j7;rw[e7]
 intro c;induction c with
 |region id ops d=>simp only[cr,e8]
 |seq a b El Em=>simp only[cr,El,Em]
 |cond c a b El Em=>simp only[cr,El,Em]
 |block n b ih=>simp only[cr,ih]
 |loop b ih=>simp only[cr,ih]
 |scope b ih=>simp only[cr,ih]
 |rangeFunc f ps a b El Em=>simp only[cr,El,Em]
 |_=>simp only[cr]
def okF(f:Nat):Bool:=decide (f<nF) && !Tw.vH f
def self(P:Abe)(F:Array Abf):Abe:={P with funcs:=F}
def Qh(P:Abe)(F:Array Abf):tw (self P F) F=tw P F:=rfl
def Xf(P:Abe)(F:Array Abf):(self P F).funcs=F:=rfl
def Xe(P:Abe)(F:Array Abf)(G:Nat->Bool)(c:Aa9):cr (self P F) G c=cr P G c:=by
 rw[<-XN (self P F) F G c,Qh,XN]
def ale(P:Abe)(F:Array Abf)(t:Aa8):(self P F).info? t= P.info? t:=by
 rw[<-ly (self P F) F t,Qh,ly]
def Qg(P:Abe)(F:Array Abf):(tw P F).follows .staticDataAhead=P.follows .staticDataAhead:=rfl
def sG:oe Afr:=agf λt i v h hv=>by
 have hz:QA i=true:=by
  have:=anr;rw[Aal] at this;exact this i (Aax h)
 unfold QA at hz;rw[hv] at hz
 exact Tb 10 hz
@[reducible] def iQ:Tw.aR:=⟨Tw.dead⟩
def kg:Array Ajs:=#[⟨some 1,.assign (.const (.bool true)),4,"",#[],none⟩,⟨none,.extract (.const (.bool true)) 0,4,"",#[],some (0,true)⟩,⟨some 0,.assign (.const (.bool true)),4,"",#[],none⟩]
def stub:Abf:={Tryz.f21 with body:=some (.seq (.region 0 kg false) .ret),ntmps:=1,results:=#[.tmp 0]}
@[reducible] def jg:Tw.aR:=⟨stub⟩
section
variable [Tw.aR]
def IC{f:Nat}(h:okF f=true):∃fn c,Afr.funcs[f]?=some fn/\Tw.F[f]?=some fn/\fn.body=some c/\cr Afr G0 c=true/\(fn.name== "runtime.NumGoroutine")=false/\readies c=[]:=by
 unfold okF at h;simp only[Aaz,decide_eq_true_eq,Ajp] at h;have h1:=ajb;rw[Aka] at h1;have h2:=h1 f (List.mem_range.2 h.1);unfold okB at h2;rw[h.2,Bool.false_or] at h2;cases e:Afr.funcs[f]? with
 |none=>rw[e] at h2;exact absurd h2 (by simp)
 |some fn=>
  rw[e] at h2;simp only[Sb] at h2;cases eb:fn.body with
  |none=>rw[eb] at h2;exact absurd h2 (by simp)
  |some c=>
   rw[eb] at h2;simp only[Aaz,Ajp,List.isEmpty_iff] at h2;exact⟨fn,c,rfl,(Tw.QU f h.2).trans e,eb,h2.1.1,h2.1.2,h2.2⟩
def Yt:Tw.F.size=nF:=by
 unfold Tw.F;rw[Aej,Array.size_mapIdx,E8]
def Cd(f:Nat):okF f=true\/f=21\/Tw.F[f]?=none\/Tw.F[f]?=some Tw.dead:=by
 by_cases h:okF f=true
 ·exact .inl h
 by_cases rC:f=21
 ·exact .inr (.inl rC)
 right;right
 by_cases hn:f<nF
 ·have:Tw.vH f=true:=by
   unfold okF at h;simp only[Aaz,decide_eq_true_eq,Ajp,not_and,Bool.not_eq_false] at h;exact h hn
  exact Tw.Ys f this (Ne.symm rC)
 ·left;exact Aan (by rw[Yt];omega)
def Wi(hs:∀c,Tw.aR.I7.body=some c->readies c=[])(g:Nat):Tw.prog.stepOf g=none:=by
 unfold Program.stepOf;rw[Tw.Pe,Array.findIdx?_eq_none_iff]
 intro fn Du;obtain⟨f,hf⟩:=Aji Du
 rcases Cd f with h|rfl|h|h
 ·obtain⟨fn',c,_,h1,h2,_,_,h3⟩:=IC h
  rw[hf] at h1;cases h1
  rw[h2];simp[h3]
 ·rw[Tw.zh] at hf;cases hf
  cases e:Tw.aR.I7.body with
  |none=>rfl
  |some c=>simp[hs c e]
 ·rw[hf] at h;exact absurd h (by simp)
 ·rw[hf] at h;cases h;rfl
end
def C0:bQ:=⟨okF,λ_=>false,λc=>cr Afr G0 c=true⟩
def GJ:Env Afr (@Tw.F iQ) C0 G0 where
 sG:=sG
 clean _:=Iff.rfl
 get f h:=by letI:=iQ;obtain⟨fn,c,h1,h2,h3,h4,h5,_⟩:=IC h;exact⟨fn,c,h2,h1,h3,h4,h5⟩
 dead f h _:=by
  letI:=iQ
  rcases Cd f with k|rfl|k|k
  ·rw[show okF f=false from h] at k;exact absurd k (by simp)
  ·exact .inr ⟨_,Tw.zh,GG⟩
  ·exact .inl k
  ·exact .inr ⟨_,k,GG⟩
 DT f h:=absurd h (by simp[C0])
 ahead:=(Qg _ _).trans Mg
 steps:=by letI:=iQ;exact Wi λc h=>absurd h (by show Tw.dead.body≠_;simp[Tw.dead])
def C1:bQ:=⟨okF,λf=>f==21,λc=>cr Afr G0 c=true⟩
def CA:bQ:=⟨λf=>okF f||f==21,λ_=>false,λc=>cr Afr G0 c=true⟩
def PA:Abe:=self Afr (@Tw.F jg)
def Ji:tw PA (@Tw.F jg)= @Tw.prog jg:=by unfold PA Tw.prog;exact Qh _ _
def Je:∃c,stub.body=some c/\cr Afr G0 c=true/\readies c=[]:=⟨_,rfl,by decide+kernel,rfl⟩
def P4:(stub.name== "runtime.NumGoroutine")=false:=by decide+kernel
def ak2:∃c,Tryz.f21.body=some c:=⟨_,rfl⟩
def ak5:(Tryz.f21.name== "runtime.NumGoroutine")=false:=by decide+kernel
def stepT(g:Nat):(@Tw.prog jg).stepOf g=none:=by
 letI:=jg
 refine Wi (λc h=>?_) g
 obtain⟨c',h1,_,h2⟩:=Je;have:stub.body=some c:=h;rw[h1] at this;cases this;exact h2
def abO:Env Afr (@Tw.F jg) C1 G0 where
 sG:=sG
 clean _:=Iff.rfl
 get f h:=by letI:=jg;obtain⟨fn,c,h1,h2,h3,h4,h5,_⟩:=IC h;exact⟨fn,c,h2,h1,h3,h4,h5⟩
 dead f h h':=by
  letI:=jg
  rcases Cd f with k|rfl|k|k
  ·rw[show okF f=false from h] at k;exact absurd k (by simp)
  ·exact absurd h' (by decide)
  ·exact .inl k
  ·exact .inr ⟨_,k,GG⟩
 DT f h:=by
  have h:f=21:=by simpa [C1] using h
  subst h;obtain⟨c,h1,_⟩:=Je;obtain⟨c',h2⟩:=ak2;exact⟨stub,_,c,c',@Tw.zh jg,Tryz.func21,h1,h2,P4,ak5⟩
 ahead:=(Qg _ _).trans Mg
 steps:=stepT
def abN:Env PA (@Tw.F jg) CA G0 where
 sG:=⟨λt i v h hv=>sG.zero t i v ((ale Afr _ t).symm.trans h) hv⟩
 clean c:=by show cr Afr G0 c=true↔cr PA G0 c=true;rw[show cr PA G0 c=cr Afr G0 c from Xe _ _ _ _]
 get f h:=by
  letI:=jg
  have hc:∀c,cr PA G0 c=cr Afr G0 c:=λc=>Xe _ _ _ _
  have h:okF f=true\/f=21:=by simpa [CA] using h
  rcases h with h|rfl
  ·obtain⟨fn,c,h1,h2,h3,h4,h5,_⟩:=IC h;exact⟨fn,c,h2,(congrArg (·[f]?) (Xf _ _)).trans h2,h3,by rw[hc];exact h4,h5⟩
  ·obtain⟨c,h1,h2,_⟩:=Je
   exact⟨stub,c,Tw.zh,(congrArg (·[21]?) (Xf _ _)).trans Tw.zh,h1,by rw[hc];exact h2,P4⟩
 dead f h _:=by
  letI:=jg
  rcases Cd f with k|rfl|k|k
  ·simp[CA,k] at h
  ·exact absurd h (by decide)
  ·exact .inl k
  ·exact .inr ⟨_,k,GG⟩
 DT f h:=absurd h (by simp[CA])
 ahead:=by rw[Ji];exact(Qg _ _).trans Mg
 steps g:=by rw[Ji];exact stepT g
end Go.Jn
namespace Go.Jn
open Go Go.Proofs Go.Sim Go.Conc
def aaw:C0.clean ur:=by show cr Afr G0 ur=true;decide+kernel
def aax:C0.clean sL:=by show cr Afr G0 sL=true;decide+kernel
def Qd:tw Afr (@Tw.F iQ)= @Tw.prog iQ:=rfl
def piece{main:Bool}(S:Tl){M:aaa}{ρ:Ren}{f:Aa6}{c:Aa9}(hc:C0.clean c){a:Act}{t':Array Value}{w w':Abc}(hk:(S.kind==.early)=false)
 (hd:a.defers=[cQ]){QL:Exit->Act->Abc->Prop}
 (hl:∀T,c.wp (@Tw.prog iQ) (λe bB aa=>(e=.normal/\bB.defers=[cQ]\/e=.ret)/\QL e bB aa) a (aZ w T))
 (hw:bV C0 ρ w w')(hg:ρ 0 0)(hf:Fits M ρ w)(gN:∀b,M.has b->b<w'.heap.size)(hn:bJ w.heap)(ht:aP ρ a.tmps t')
 {Stop:aaa->Abo->Abc->Prop}
 (post:∀e bB aa bS aE eV aA,QL e bB aa->gX M ρ w w' bS aE aa aA->bV C0 aE aa aA->Fits bS aE aa->(∀b,bS.has b->b<aA.heap.size)->(∀g,G0 g=true->aE g g)->bJ aa.heap->aP aE bB.tmps eV->
   (e=.normal->bB.defers=[cQ]->Walk Afr main Stop bS (aO ⟨f,eV,S.items,S.defers,.run,S.kind,none⟩ S.callers) aA)/\
   (e=.ret->∀sH D',jJ S aE true bB.defers D'->Walk Afr main Stop bS (aO ⟨f,eV,sH,D',.returning,S.kind,none⟩ S.callers) aA)):
 Walk Afr main Stop M (aO ⟨f,t',.code c::S.items,S.defers,.run,S.kind,none⟩ S.callers) w':=by
 refine Walk.bind (amT GJ (λ_=>rfl) S hc hk hd (λT=>by rw[Qd];exact hl T) hw (λg oy=>?_) hf gN hn ht post) λ_ _ _ h=>h
 have:g=0:=by simpa [G0] using oy
 subst this;exact hg
def akw{P:Abe}{r:Nat}{w:Abc}(h:w.heap[r]?=some (.deferred (some []))):(Instr.takeDeferred r).runT P w #[]=(.ok [] (jh w r (.deferred none)),#[⟨.obj r,false,false⟩,⟨.obj r,true,false⟩]):=by
 unfold Instr.takeDeferred;simp only[Go.getObj,Go.setObj,bind,Adt,Ads,h,pure,Aae];rfl
def abd{M:aaa}{w:Abc}{r:Nat}{o:Obj}(hO:M.O r){es:Array Abd}(rF:∀e∈es,e=⟨.obj r,false,false⟩\/e=⟨.obj r,true,false⟩):eO M w (jh w r o) es:=
 ⟨by rw[qS];exact Ad4 _,λb _ hb=>wa (by rintro rfl;exact hb hO),rfl,rfl,rfl,λe he=>by
   rcases rF e he with rfl|rfl
   ·exact .inl ⟨r,.inl rfl,rfl,.inl (.inl hO),λh=>absurd h (by simp)⟩
   ·exact .inl ⟨r,.inl rfl,rfl,.inl (.inl hO),λ_=>.inl hO⟩⟩
def amY{P:Abe}{main:Bool}{Stop:aaa->Abo->Abc->Prop}{M:aaa}{w:Abc}{f:Aa6}{t:Array Value}{k:List Ajq}{D:List Abb}{x:Array Value}{kd:Ajr}{cs:List Abn}{r:Nat}(hO:M.O r)(hr:w.heap[r]?=some (.deferred (some [])))
 (h:∀aa,bN M w aa->Walk P main Stop M (aO ⟨f,t,k,D,.returning,kd,none⟩ cs) (jh aa r (.deferred none))):
 Walk P main Stop M (aO ⟨f,t,k,⟨.collected r,x⟩::D,.returning,kd,none⟩ cs) w:=by
 have aQ:∀aa,bN M w aa->Abv P main (aO ⟨f,t,k,⟨.collected r,x⟩::D,.returning,kd,none⟩ cs) aa=.go (aO ⟨f,t,k,D,.returning,kd,none⟩ cs) (jh aa r (.deferred none)) (seen P f #[⟨.obj r,false,false⟩,⟨.obj r,true,false⟩]):=by
  intro aa hk;have e:Abu P main ⟨f,t,k,⟨.collected r,x⟩::D,.returning,kd,none⟩ cs none aa=.go (aO ⟨f,t,k,D,.returning,kd,none⟩ cs) (jh aa r (.deferred none)) (seen P f #[⟨.obj r,false,false⟩,⟨.obj r,true,false⟩]):=by
   unfold Abu;simp only[akw ((hk.kept r (.inl hO)).trans hr),Aci,List.nil_append];simp
  exact e
 refine .step rfl (λaa=>(aO ⟨f,t,k,D,.returning,kd,none⟩ cs,jh aa r (.deferred none),seen P f #[⟨.obj r,false,false⟩,⟨.obj r,true,false⟩])) (λaa hk=>⟨aQ aa hk,abd hO λe he=>?_⟩) λaa hk=>?_
 ·have:=Sim.mem_seen he
  simp only[Af0,Af2,Af3,or_false] at this;exact this
 ·show Walk P main Stop (M.grow aa (jh aa r (.deferred none))) _ _
  rw[GQ];exact h aa hk
end Go.Jn
namespace Go.Jn
open Go Go.Proofs Go.Sim Go.Conc
def chain:List Aa9->Aa9->Aa9
 | [],z=>z
 |c::cs,z=>.seq c (chain cs z)
def eX(P:Abe):List Aa9->(Exit->Act->Abc->Prop)->Act->Abc->Prop
 | [],Q=>Q .normal
 |c::cs,Q=>c.wp P (Exit.then (eX P cs Q) Q)
def akr{P:Abe}{z:Aa9}{Q:Exit->Act->Abc->Prop}(hQ:∀e a w,Q e a w->e=.normal\/e=.ret)(b:Abn)(k:List Ajq)(fs:List Abn):
 ∀(cs:List Aa9) {a:Act} {w:Abc},eX P cs Q a w->∃e bB aa,Q e bB aa/\
  (e=.normal/\Steps P (lone (b.at a (.code (chain cs z)::k)) fs w) (lone (b.at bB (.code z::k)) fs aa)\/
   e=.ret/\∃todo,Steps P (lone (b.at a (.code (chain cs z)::k)) fs w) (lone {b.at bB todo with mode:=.returning} fs aa)):=by
 intro cs;induction cs with
 |nil=>exactλ{a w} h=>⟨.normal,a,w,h,.inl ⟨rfl,⟨0,rfl⟩⟩⟩
 |cons c cs ih=>
  intro a w h;obtain⟨e,bB,aa,hq,Ag⟩:=h b (.code (chain cs z)::k) fs;have aQ:Steps P (lone (b.at a (.code (chain (c::cs) z)::k)) fs w) (lone (b.at a (.code c:: .code (chain cs z)::k)) fs w):=.one step_seq;cases e with
  |normal=>
   obtain⟨e2,a2,w2,tI,h2⟩:=ih hq;refine⟨e2,a2,w2,tI,?_⟩
   rcases h2 with⟨rfl,h2⟩ | ⟨rfl,todo,h2⟩
   ·exact .inl ⟨rfl,aQ.trans (Steps.trans Ag h2)⟩
   ·exact .inr ⟨rfl,todo,aQ.trans (Steps.trans Ag h2)⟩
  |ret=>
   obtain⟨todo,h2⟩:=Ag;exact⟨.ret,bB,aa,hq,.inr ⟨rfl,todo,aQ.trans h2⟩⟩
  |exit id=>rcases hQ _ _ _ hq with h|h<;>cases h
  |goto l=>rcases hQ _ _ _ hq with h|h<;>cases h
  |panic ch=>rcases hQ _ _ _ hq with h|h<;>cases h
  |outgrown=>rcases hQ _ _ _ hq with h|h<;>cases h
def SH{C:bQ}{S:Tl}:∀(cs:List Aa9),(∀c∈cs,C.clean c)->Cut C S (chain cs di) (chain cs S.code)
 | [],_=>.stop
 |c::cs,h=>.seq (h c (by simp)) (SH cs λd hd=>h d (by simp[hd]))
section
variable {P:Abe}{F:Array Abf}{C:bQ}{G:Nat->Bool}
def aa8{S:Tl}{c':Aa9}(h:Cut C S di c'):c'=S.code:=by
 generalize e:di=c at h;cases h with
 |stop=>rfl
 |seq _ _=>cases e
def agz(hcut:¬C.clean di){S:Tl}{ρ:Ren}{k':List Ajq}(h:oc C S ρ true [.code di,.code di] k'):k'=.code S.code::S.items:=by
 cases h with
 |cons hi t=>
  rw[VR t];cases hi with
  |code _ hc=>exact absurd hc hcut
  |cut hc=>rw[aa8 hc]
def amS(E:Env P F C G)(hcut:¬C.clean di)(hh:∀f,C.hole f=false){main:Bool}(S:Tl){M:aaa}{ρ:Ren}{f:Aa6}{cs:List Aa9}(hc:∀c∈cs,C.clean c){a:Act}{t':Array Value}{w w':Abc}(hk:(S.kind==.early)=false)
 (hd:a.defers=[cQ]){QL:Exit->Act->Abc->Prop}(hQ:∀e a w,QL e a w->e=.normal\/e=.ret)
 (hl:∀T,eX (tw P F) cs QL a (aZ w T))
 (hw:bV C ρ w w')(hg:∀g,G g=true->ρ g g)(hf:Fits M ρ w)(gN:∀b,M.has b->b<w'.heap.size)(hn:bJ w.heap)(ht:aP ρ a.tmps t')
 {Stop:aaa->Abo->Abc->Prop}
 (post:∀e bB aa bS aE eV aA D',QL e bB aa->gX M ρ w w' bS aE aa aA->bV C aE aa aA->Fits bS aE aa->(∀b,bS.has b->b<aA.heap.size)->(∀g,G g=true->aE g g)->bJ aa.heap->aP aE bB.tmps eV->jJ S aE true bB.defers D'->
   (e=.normal->Stop bS (aO ⟨f,eV,.code S.code::S.items,D',.run,S.kind,none⟩ S.callers) aA)/\
   (e=.ret->∀sH,Stop bS (aO ⟨f,eV,sH,D',.returning,S.kind,none⟩ S.callers) aA)):
 Walk P main Stop M (aO ⟨f,t',.code (chain cs S.code)::S.items,S.defers,.run,S.kind,none⟩ S.callers) w':=by
 let b:Abn:={ (default:Abn) with fn:=f,kind:=.normal}
 let c:=chain cs di
 let Q:Abo->Abc->Prop:=λg w=>∃T e bB todo m,QL e bB (aZ w T)/\g=aO ⟨f,bB.tmps,todo,bB.defers,m,.normal,none⟩ []/\
  (e=.normal/\todo=[.code di,.code di]/\m=.run\/e=.ret/\m=.returning)
 have b7:eS C S ρ true (b.at a [.code c,.code di]) ⟨f,t',.code (chain cs S.code)::S.items,S.defers,.run,S.kind,none⟩:=
  .mk f ht (.cons (.cut (SH cs hc)) .stop) (by rw[hd];exact .stop) .run .none ⟨λh=>by simp at h,λ_=>rfl,λh=>absurd rfl h,λh=>by simp at h,hk,λ_=>rfl⟩
 have eh:sP P (tw P F) C S ρ (aO (b.at a [.code c,.code di]) []) (aO ⟨f,t',.code (chain cs S.code)::S.items,S.defers,.run,S.kind,none⟩ S.callers):=.inside b7 .base;have hi:Inv C S G (aO (b.at a [.code c,.code di]) []) w:=⟨hn,ρ,true,_,_,_,_,w',rfl,hg,b7,.base,hw⟩;have N8:Sim.Safe (tw P F) Q (aO (b.at a [.code c,.code di]) []) w:=by
  refine PD (S:=S) E hh ?_ ?_ hi ?_
  ·rintro g w T ⟨T',e,bB,todo,m,h1,h2,h3⟩
   exact⟨T',e,bB,todo,m,h1,h2,h3⟩
  ·rintro g w ⟨T',e,bB,todo,m,h1,rfl,h3⟩ ch
   rcases h3 with⟨_,_,rfl⟩ | ⟨_,rfl⟩<;>simp
  ·intro T
   obtain⟨e,bB,aa,h1,h3⟩:=akr (z:=di) hQ b [.code di] [] cs (hl T);rcases h3 with⟨rfl,n,hr⟩ | ⟨rfl,todo,n,hr⟩
   ·exact⟨n,_,_,aa,hr,aa.tape,.normal,bB,[.code di,.code di],.run,h1,rfl,.inl ⟨rfl,rfl,rfl⟩⟩
   ·exact⟨n,_,_,aa,hr,aa.tape,.ret,bB,todo,.returning,h1,rfl,.inr ⟨rfl,rfl⟩⟩
 refine X7 E main (WY E hh N8 hi) ⟨eh,hw,hg,hf,gN⟩ ?_
 intro bS aE dG aa eZ aA hR bY _ _ hq;obtain⟨gr,core,gL,fits,low⟩:=hR;cases gr with
 |hole f hf=>rw[hh] at hf;simp at hf
 |inside vg Dc=>
  obtain⟨⟨T,e,bB,todo,m,h1,h2,h3⟩,qx⟩:=hq.resolve_right λh=>h ⟨_,_,_,_,_,rfl,rfl,vg,Dc⟩
  have e1:=congrArg Goroutine.frame h2;have e2:=congrArg Ajz h2;simp only at e1 e2;subst e1 e2;obtain⟨rfl,rfl⟩:=Lu Dc;have LU:bV C aE (aZ aa T) aA:=core.left rfl;cases vg with
  |mk _ ym dg jT rM ye gM=>
   cases ye;have PK:gX M ρ w w' bS aE (aZ aa T) aA:=⟨bY.le,bY.new,bY.mP,bY.fQ,bY.kE,bY.im,bY.R,bY.O,bY.On,bY.tape,bY.os,bY.out⟩;have qt:=gM.Cv rfl;subst qt;have:=post e bB (aZ aa T) bS aE _ aA _ h1 PK LU fits low gL qx ym jT;rcases h3 with⟨rfl,rfl,rfl⟩ | ⟨rfl,rfl⟩
   ·rw[agz hcut dg]
    exact this.1 rfl
   ·exact this.2 rfl _
end
def aa7:¬C0.clean di:=by
 intro h;have h:cr Afr G0 di=true:=h;exact absurd h (by decide)
def pieces{main:Bool}(S:Tl){M:aaa}{ρ:Ren}{f:Aa6}{cs:List Aa9}(hc:∀c∈cs,C0.clean c){a:Act}{t':Array Value}{w w':Abc}(hk:(S.kind==.early)=false)
 (hd:a.defers=[cQ]){QL:Exit->Act->Abc->Prop}(hQ:∀e a w,QL e a w->e=.normal\/e=.ret)
 (hl:∀T,eX (@Tw.prog iQ) cs QL a (aZ w T))
 (hw:bV C0 ρ w w')(hg:ρ 0 0)(hf:Fits M ρ w)(gN:∀b,M.has b->b<w'.heap.size)(hn:bJ w.heap)(ht:aP ρ a.tmps t')
 {Stop:aaa->Abo->Abc->Prop}
 (post:∀e bB aa bS aE eV aA D',QL e bB aa->gX M ρ w w' bS aE aa aA->bV C0 aE aa aA->Fits bS aE aa->(∀b,bS.has b->b<aA.heap.size)->aE 0 0->bJ aa.heap->aP aE bB.tmps eV->jJ S aE true bB.defers D'->
   (e=.normal->Walk Afr main Stop bS (aO ⟨f,eV,.code S.code::S.items,D',.run,S.kind,none⟩ S.callers) aA)/\
   (e=.ret->∀sH,Walk Afr main Stop bS (aO ⟨f,eV,sH,D',.returning,S.kind,none⟩ S.callers) aA)):
 Walk Afr main Stop M (aO ⟨f,t',.code (chain cs S.code)::S.items,S.defers,.run,S.kind,none⟩ S.callers) w':=by
 refine Walk.bind (amS GJ aa7 (λ_=>rfl) S hc hk hd hQ (λT=>by rw[Qd];exact hl T) hw (λg oy=>?_) hf gN hn ht λe bB aa bS aE eV aA D' h1 h2 h3 h4 h5 h6 h7 h8 h9=>post e bB aa bS aE eV aA D' h1 h2 h3 h4 h5 (h6 0 rfl) h7 h8 h9) λ_ _ _ h=>h
 have:g=0:=by simpa [G0] using oy
 subst this;exact hg
end Go.Jn
namespace Go.Jn
open Go Go.Sim Go.Tw
def Pv(S:Nat->Prop):Value->Prop
 | .bool _| .int _ _| .string _| .pointer none| .slice none _ _| .map none| .chan none| .nilFunc| .nilIface=>True
 | .pointer (some a)=>S a.block
 | .slice (some a) n c=>S a.block\/(n=0/\c=0)
 | .func (.func _) x y=>x=#[]/\y=#[]
 |_=>False
def vQ(ρ:Ren)(S:Nat->Prop):Ren:=λa b=>ρ a b/\S a
def Pv.rel{ρ:Ren}{S:Nat->Prop}{v v':Value}(h:ah ρ v v')(hp:Pv S v):ah (vQ ρ S) v v':=by
 cases h;case bool b=>exact .bool b
 case int k n=>exact .int k n
 case string s=>exact .string s
 case ptrNone=>exact .ptrNone
 case ptr ha=>exact .ptr ⟨⟨ha.1,hp⟩,ha.2⟩
 case sliceNone n c=>exact .sliceNone n c
 case slice n c ha=>
  rcases hp with hp| ⟨rfl,rfl⟩
  ·exact .slice n c ⟨⟨ha.1,hp⟩,ha.2⟩
  ·exact .sliceDead _ _
 case sliceDead=>exact .sliceDead _ _
 case mapNone=>exact .mapNone
 case map=>exact hp.elim
 case chanNone=>exact .chanNone
 case chan=>exact hp.elim
 case func hf hx h1 hy h2=>
  cases hf with
  |func f=>
   obtain⟨rfl,rfl⟩:=hp;exact .func (.func f) hx (λi hi _=>absurd hi (by simp)) hy (λi hi _=>absurd hi (by simp))
  |yield=>exact hp.elim
 case nilFunc=>exact .nilFunc
 case iface=>exact hp.elim
 case nilIface=>exact .nilIface
 case agg=>exact hp.elim
 case tuple=>exact hp.elim
 case junk=>exact hp.elim
 case fjunk=>exact hp.elim
def rB(σ:Ren):∀v':Value,∃u,ah σ u v'
 | .bool b=>⟨_,.bool b⟩
 | .int k n=>⟨_,.int k n⟩
 | .float k n=>⟨_,.junk rfl (by simp) (by simp)⟩
 | .complex k n m=>⟨_,.junk rfl (by simp) (by simp)⟩
 | .string s=>⟨_,.string s⟩
 | .pointer none=>⟨_,.ptrNone⟩
 | .pointer (some a)=>⟨_,.junk rfl (by simp) (by simp)⟩
 | .slice none n c=>⟨_,.sliceNone n c⟩
 | .slice (some a) n c=>⟨_,.junk rfl (by simp) (by simp)⟩
 | .map none=>⟨_,.mapNone⟩
 | .map (some a)=>⟨_,.junk rfl (by simp) (by simp)⟩
 | .chan none=>⟨_,.chanNone⟩
 | .chan (some a)=>⟨_,.junk rfl (by simp) (by simp)⟩
 | .func f x y=>⟨_,.fjunk f x y⟩
 | .nilFunc=>⟨_,.nilFunc⟩
 | .iface t v=>⟨_,.junk rfl (by simp) (by simp)⟩
 | .nilIface=>⟨_,.nilIface⟩
 | .tuple x=>⟨_,.junk rfl (by simp) (by simp)⟩
 | .agg x=>by
   have ih:∀i (h:i<x.size),∃u,ah σ u x[i]:=λi h=>rB σ x[i]
   refine⟨.agg (Ajm λi:Fin x.size=>Aa2 (ih i.1 i.2)),.agg (by simp) λi h1 h2=>?_⟩
   rw[Ajn];exact Aa3 (ih i h2)
def fO{ρ:Ren}(S:Nat->Prop){v v':Value}(h:ah ρ v v'):∃u,ah (vQ ρ S) u v'/\(Pv S v->u=v):=by
 by_cases hp:Pv S v
 ·exact⟨v,Pv.rel h hp,λ_=>rfl⟩
 ·obtain⟨u,hu⟩:=rB (vQ ρ S) v'
  exact⟨u,hu,λh=>absurd h hp⟩
def aa6{ρ:Ren}(S:Nat->Prop){c c':Array Value}(h:aP ρ c c'):∃u:Array Value,aP (vQ ρ S) u c'/\u.size=c.size/\∀(i:Nat) (v:Value),c[i]?=some v->Pv S v->u[i]?=some v:=by
 have key:∀i (h1:i<c.size),∃u,(∀h2:i<c'.size,ah (vQ ρ S) u c'[i])/\(Pv S c[i]->u=c[i]):=λi h1=>by
  obtain⟨u,a,b⟩:=fO S (h.2 i h1 (h.1▸h1));exact⟨u,λ_=>a,b⟩
 refine⟨Ajm λi:Fin c.size=>Aa2 (key i.1 i.2),⟨by simp[h.1],λi h1 h2=>?_⟩,by simp,λi v hi hp=>?_⟩
 ·rw[Ajn]
  exact(Aa3 (key i (by simpa using h1))).1 h2
 ·obtain⟨al,e⟩:=Aaf.1 hi
  rw[Ajo,dif_pos al]
  exact congrArg some (((Aa3 (key i al)).2 (by rw[e];exact hp)).trans e)
section
variable (ρ:Ren)(w w':Abc)
def gd(a:Nat):Prop:=∃b c c' e fr aV,ρ a b/\w.heap[a]?=some (.cells c e fr)/\w'.heap[b]?=some (.cells c' e aV)/\aP ρ c c'
def Kr(a:Nat)(o:Obj):Prop:=∃(b:Nat) (c c':Array Value) (e:Aa8) (fr aV:Nat×Nat) (u:Array Value),ρ a b/\w.heap[a]?=some (.cells c e fr)/\w'.heap[b]?=some (.cells c' e aV)/\aP (vQ ρ (gd ρ w w')) u c'/\u.size=c.size/\(∀(i:Nat) (v:Value),c[i]?=some v->Pv (gd ρ w w') v->u[i]?=some v)/\o=.cells u e (0,u.size)
def ac3{a:Nat}(h:gd ρ w w' a):∃o,Kr ρ w w' a o:=by
 obtain⟨b,c,c',e,fr,aV,h1,h2,h3,h4⟩:=h;obtain⟨u,k1,k2,k3⟩:=aa6 (gd ρ w w') h4;exact⟨_,b,c,c',e,fr,aV,u,h1,h2,h3,k1,k2,k3,rfl⟩
open Classical in
def GN(a:Nat):Obj:=if h:∃o,Kr ρ w w' a o then Aa2 h else .cells #[] 0 (0,0)
def qa:Abc:={w with heap:=w.heap.mapIdx λa _=>GN ρ w w' a}
end
section
variable {ρ:Ren}{w w':Abc}
def Tt:(qa ρ w w').heap.size=w.heap.size:=by simp[qa]
def Ml{a:Nat}(h:gd ρ w w' a):∃o,(qa ρ w w').heap[a]?=some o/\Kr ρ w w' a o:=by
 have hx:=ac3 ρ w w' h;obtain⟨b,c,c',e,fr,aV,h1,h2,h3,h4⟩:=h;refine⟨GN ρ w w' a,?_,?_⟩
 ·unfold qa
  simp only[Aen,h2,Agt]
 ·unfold GN
  rw[dif_pos hx];exact Aa3 hx
def ac6{C:bQ}(h:bV C ρ w w'):bV C (vQ ρ (gd ρ w w')) (qa ρ w w') w' where
 dA a b hab:=by rw[Tt];exact h.dA a b hab.1
 dc a b hab:=h.dc a b hab.1
 fn a b b' x y:=h.fn a b b' x.1 y.1
 inj a a' b x y:=h.inj a a' b x.1 y.1
 obj a b o hab ho:=by
  obtain⟨o1,k1,b1,c,c',e,fr,aV,u,h1,h2,h3,h4,h5,h6,rfl⟩:=Ml hab.2;rw[k1] at ho;cases ho;rw[h.fn a b b1 hab.1 h1];exact⟨_,h3,.cells e h4 (.inr ⟨rfl,Ad4 _⟩)⟩
def ac7:bJ (qa ρ w w').heap:=by
 intro o ho hb;obtain⟨a,ha⟩:=Aji ho
 unfold qa at ha;simp only[Aen] at ha
 obtain⟨o1,_,rfl⟩:=Ags.1 ha;unfold GN at hb;split at hb
 ·rename_i hx
  obtain⟨b1,c,c',e,fr,aV,u,_,_,_,_,_,_,e2⟩:=Aa3 hx;rw[e2] at hb;exact hb
 ·exact hb
def ac5{a:Addr}(ha:gd ρ w w' a.block){v:Value}(h: w.cell? a=some v)(hp:Pv (gd ρ w w') v):(qa ρ w w').cell? a=some v:=by
 obtain⟨o1,k1,b1,c,c',e,fr,aV,u,h1,h2,h3,h4,h5,h6,rfl⟩:=Ml ha;unfold World.cell? at h |-
 rw[h2] at h;rw[k1];simp only at h |-
 split at h
 ·cases h
 ·rename_i hs
  rw[if_neg hs];exact h6 _ _ h hp
def WK{C:bQ}(h:bV C ρ w w'){p:Addr}{u:Value}(hc: w.cell? p=some u){b:Nat}(hr:ρ p.block b):gd ρ w w' p.block:=by
 unfold World.cell? at hc;split at hc
 ·rename_i c e fr ho
  obtain⟨o',h1,h2⟩:=h.obj _ _ _ hr ho;cases h2 with
  |cells e hv hf=>exact⟨b,c,_,e,fr,_,hr,ho,h1,hv⟩
 ·cases hc
def WJ{p:Addr}{u:Value}(hr:gd ρ w w' p.block)(hc: w.cell? p=some u):∃u',ah ρ u u':=by
 obtain⟨b,c,c',e,fr,aV,h1,h2,h3,h4⟩:=hr;unfold World.cell? at hc;rw[h2] at hc;simp only at hc;split at hc
 ·cases hc
 ·obtain⟨al,e⟩:=Aaf.1 hc
  exact⟨_,by rw[<-e];exact h4.2 _ al (h4.1▸al)⟩
end
def Sv(S:Nat->Prop)(v:Value):Prop:=∀A n c,v=.slice (some A) n c->n=0->S A.block\/c=0
section
variable {α:Type}{ρ:Ren}{w w':Abc}{B sz:Nat}{R R':α->List Value->Prop}{v:Value}{xs:List α}
def Fs{C:bQ}(hW:bV C ρ w w')(aI:0<sz)(h:Row w B sz R v xs)(hv:∃v',ah ρ v v')(he:Sv (gd ρ w w') v):Pv (gd ρ w w') v:=by
 obtain⟨A,c,rfl,h1,h2,h3⟩:=h;cases A with
 |none=>exact trivial
 |some A=>
  by_cases hx:xs=[]
  ·subst hx;exact(he A _ c rfl rfl).imp id λh=>⟨rfl,h⟩
  ·obtain⟨ad,e,hb,h4⟩:=h3 hx
   cases e;cases xs with
   |nil=>exact absurd rfl hx
   |cons x xs=>
    obtain⟨cs,_,hl,hc⟩:=h4 0 x rfl;obtain⟨u,hu⟩:∃u,cs[0]?=some u:=⟨cs[0]'(by omega),Af6 _⟩
    have:=hc 0 u hu;obtain⟨v',hv⟩:=hv;cases hv with
    |slice _ _ ha=>
     have e:(A.add (0 * sz+0)).block=A.block:=cq _ _;have:=WK hW this (b:=_) (by rw[e];exact ha.1)
     rw[e] at this;exact .inl this
def C7(aI:0<sz)(h:Row w B sz R v xs)(hv:Pv (gd ρ w w') v)(hR:∀x cs,R x cs->(∀u∈cs,∃p:Addr,gd ρ w w' p.block/\ w.cell? p=some u)->R' x cs/\∀u∈cs,Pv (gd ρ w w') u):Row (qa ρ w w') B sz R' v xs:=by
 obtain⟨A,c,e,h1,h2,h3⟩:=h;refine⟨A,c,e,h1,h2,λhx=>?_⟩
 obtain⟨ad,hA,hb,h4⟩:=h3 hx;have hs:gd ρ w w' ad.block:=by
  rw[e,hA] at hv;rcases hv with hv| ⟨h0,_⟩
  ·exact hv
  ·exact absurd (List.length_eq_zero_iff.1 h0) hx
 refine⟨ad,hA,hb,λi x hi=>?_⟩
 obtain⟨cs,r,hl,au⟩:=h4 i x hi;have:=hR x cs r λu hu=>by
  obtain⟨j,hj⟩:=List.getElem?_of_mem hu
  exact⟨_,by rw[cq];exact hs,au j u hj⟩
 refine⟨cs,this.1,hl,λj u hu=>?_⟩
 exact ac5 (by rw[cq];exact hs) (au j u hu) (this.2 u (Agd hu))
end
structure FY(S:Nat->Prop)(w:Abc)(B:Nat)(b:ao)(pv bv tv:Value):Prop where
 pieces:Row w B 4 Piece.R pv b.pieces
 aF:Row w B 3 (λx cs=>bR.R w B x cs/\∀u∈cs,Sv S u) bv b.aF
 aJ:Row w B 3 (λx cs=>Tw.Tape.R w B x cs/\∀u∈cs,Sv S u) tv b.aJ
 sp:Sv S pv
 sb:Sv S bv
 st:Sv S tv
def ac4{C:bQ}{ρ:Ren}{w w':Abc}(hW:bV C ρ w w'){B:Nat}{b:ao}{pv bv tv:Value}(h:FY (gd ρ w w') w B b pv bv tv)(h1:∃v',ah ρ pv v')(h2:∃v',ah ρ bv v')(h3:∃v',ah ρ tv v'):
 bg (qa ρ w w') B b pv bv tv/\Pv (gd ρ w w') pv/\Pv (gd ρ w w') bv/\Pv (gd ρ w w') tv:=by
 have p1:=Fs hW (by omega) h.pieces h1 h.sp
 have p2:=Fs hW (by omega) h.aF h2 h.sb
 have p3:=Fs hW (by omega) h.aJ h3 h.st
 refine⟨⟨C7 (by omega) h.pieces p1 λx cs r _=>⟨r,λu hu=>?_⟩,C7 (by omega) h.aF p2 λx cs r hc=>?_,C7 (by omega) h.aJ p3 λx cs r hc=>?_⟩,p1,p2,p3⟩
 ·obtain⟨rfl,_⟩:=r
  simp only[Af2,Af3,or_false] at hu;rcases hu with rfl|rfl|rfl|rfl<;>exact trivial
 ·obtain⟨⟨kv,rfl,k1,k2⟩,k3⟩:=r
  have hp:Pv (gd ρ w w') kv:=Fs hW (by omega) k2 (by obtain⟨p,hp,hu⟩:=hc kv (by simp);exact WJ hp hu) (k3 kv (by simp))
  refine⟨⟨kv,rfl,k1,C7 (by omega) k2 hp λx cs r _=>⟨r,λu hu=>?_⟩⟩,λu hu=>?_⟩
  ·rw[show cs=_ from r] at hu
   simp only[Af2,Af3,or_false] at hu;rcases hu with rfl|rfl<;>exact trivial
  ·simp only[Af2,Af3,or_false] at hu
   rcases hu with rfl|rfl|rfl
   ·exact trivial
   ·exact trivial
   ·exact hp
 ·obtain⟨⟨kv,rfl,k2⟩,k3⟩:=r
  have hp:Pv (gd ρ w w') kv:=Fs hW (by omega) k2 (by obtain⟨p,hp,hu⟩:=hc kv (by simp);exact WJ hp hu) (k3 kv (by simp))
  refine⟨⟨kv,rfl,C7 (by omega) k2 hp λx cs r _=>⟨r,λu hu=>?_⟩⟩,λu hu=>?_⟩
  ·rw[show cs=_ from r] at hu
   simp only[Af2,Af3,or_false] at hu;rcases hu with rfl;exact trivial
  ·simp only[Af2,Af3,or_false] at hu
   rcases hu with rfl|rfl|rfl
   ·exact hp
   ·exact trivial
   ·exact trivial
end Go.Jn
namespace Go.Tw
variable [Go.Tw.aR]
open Go Go.Proofs Go.RowKit
def agl{w:Abc}{g k x:Nat}(g0: w.cell? ⟨g,0,none⟩=some (.int .i64 x))(h0:g<w.heap.size):
 Aet prog 123 (#[.int .i64 k]++#[.pointer (some ⟨g,0,none⟩)]) w λe w'=>e=.returned (.bool (decide (k=x)))/\Below w.heap.size w w':=by
 go_enter func123,Tryz.ntmps123;go_wp2;refine bodyPost_ret (v:=.bool (decide (k=x))) (by
  have he:((k:Int)==(x:Int))=decide (k=x):=by rw[Bool.eq_iff_iff];simp;omega
  simp[results,Tryz.results123,go_sem,he]) rfl ⟨rfl,Aft _ _⟩
end Go.Tw
namespace Go.Jn
open Go Go.Proofs Go.Sim Go.Conc Go.Tw Go.RowKit
attribute [local go_sem] ze K0 Oper.semAt_some
def then_self(Q:Exit->Act->Abc->Prop):Exit.then (Q .normal) Q=Q:=by
 funext e a w;cases e<;>rfl
section
variable [Go.Tw.aR]
def Gd(b:ao)(i:Nat)(v0 v1 v2 v3:Value)(e:Exit)(a:Act)(w:Abc):Prop:=
 (∃r x,a.defers=[⟨.collected r,x⟩,cQ]/\w.heap[r]?=some (.deferred (some [])))/\a.tmps.size=18/\a.tmps[0]?=some v0/\a.tmps[1]?=some v1/\a.tmps[2]?=some v2/\a.tmps[3]?=some v3/\
   ((search b (cz (aD b)) (λk=>decide (k=i)) b.pieces.length []=none/\e=.normal)\/((search b (cz (aD b)) (λk=>decide (k=i)) b.pieces.length []).isSome=true/\e=.ret))
def middle{w:Abc}{b:ao}{pv bv tv:Value}{B i bk pk:Nat}{v0 v3 v6:Value}(hB:B<=w.heap.size)(ai:bg w B b pv bv tv)(h:cj b 0=0)
 (c0: w.cell? ⟨bk,0,none⟩=some (.int .i64 b.ag))(c1: w.cell? ⟨bk,1,none⟩=some pv)(c2: w.cell? ⟨bk,2,none⟩=some bv)(c3: w.cell? ⟨bk,3,none⟩=some tv)(hk: w.cell? ⟨pk,0,none⟩=some (.int .i64 i))
 (ae:bk<w.heap.size)(ea:pk<w.heap.size):
 eX prog [ur,sL] (Gd b i v0 (.pointer (some ⟨bk,0,none⟩)) (.pointer (some ⟨pk,0,none⟩)) v3) ⟨#[v0,.pointer (some ⟨bk,0,none⟩),.pointer (some ⟨pk,0,none⟩),v3,Aeq,Aeq,v6,Aeq,Aeq,Aeq,Aeq,Aeq,Aeq,Aeq,Aeq,Aeq,Aeq,Aeq],[cQ]⟩ w:=by
 have aB:=Afl (PO hB ai h);have bT:=Afl ai;have hv:=Afl (iy (pq h).1);obtain⟨A1,n1,k1,rfl,-⟩:=ai.pieces.open_;obtain⟨A2,n2,k2,rfl,-⟩:=ai.aF.open_;obtain⟨A3,n3,k3,rfl,-⟩:=ai.aJ.open_;clear ai h;have HK:=Afl hk;clear hk;unfold eX eX eX;rw[then_self];refine(wpIn_wide (n:=0)).1 ?_
 refine wpIn_mono (Q:=Exit.then (sL.wpIn Fence.wide 0 prog (Gd b i v0 (.pointer (some ⟨bk,0,none⟩)) (.pointer (some ⟨pk,0,none⟩)) v3)) (Gd b i v0 (.pointer (some ⟨bk,0,none⟩)) (.pointer (some ⟨pk,0,none⟩)) v3)) ?_ (λe a w h=>by cases e<;>first|exact wpIn_wide.1 h|exact h)
 simp only[ur,sL,Cy,Tryz.f120,bO,a8,Akg]
 gi_wp2_with (first
  | (gi_at_call 119;refine(callsIn_wide.2 aB.out).mono ?_;rintro e w1 ⟨sv,g,rfl,aG,da,hg,ae⟩
     obtain⟨A9,m9,c9,rfl⟩:=j8 aG;have aN:w.heap.size<=w1.heap.size:=ae.size;have yo:w.heap.size<w1.heap.size+1:=by omega
     have FR:=Afl (Aee aG (Aee da (Aee hg ae)));have kG:g<w1.heap.size:=da.lt;have eI:Row (w1.alloc (.cells #[.int .i64 b.ag,.slice A1 n1 k1,.slice A2 n2 k2,.slice A3 n3 k3,.slice A9 m9 c9,.map (some g)] 151)) w1.heap.size 3 an.R (.slice A9 m9 c9) (aD b):=aG.row.still ((Still.refl w1).alloc (Ad4 _) _) λ_ _ h=>h
     clear ae aG da hg)
  | (gi_at_call 122;refine(callsIn_wide.2 (LY (B:=w1.heap.size) (ps:=aD b) eI (by simp) ⟨_,_,_,rfl⟩ ⟨_,_,_,rfl⟩ ⟨_,_,_,rfl⟩)).mono ?_;rintro e w2 ⟨gn,rfl,q0,q1,q2,qm,ak⟩))
 clear eI;have ba:w1.heap.size+1<=w2.heap.size:=by have:=ak.size;simpa using this
 have vk:w1.grownBy w2 (some g):=(Ahk w1 _ _).trans (je ak (Ad4 _) _);have Hi:w.grownBy w2 none:=(je FR.out.2.2.2 (Ad4 _) _).trans ((Ahk w1 _ _).trans (je ak (Ad4 _) _));have Hm:dK w2 g b:=FR.out.2.1.grown (row:=none) ((Ahk w1 _ _).trans (je ak (Ad4 _) _)) (by simp)
 have Mv:B<=g:=Ad5 hB FR.out.2.2.1;have afA:Still B w w2:=λp hp=>Aj7 (Hi.block p.block (by omega) (by simp))
 have afm: w2.cell? ⟨pk,0,none⟩=some (.int .i64 i):=(Aj7 (Hi.block pk (by omega) (by simp))).trans HK.out
 have AQ:=PJ (Wa:=w1.alloc (.cells #[.int .i64 b.ag,.slice A1 n1 k1,.slice A2 n2 k2,.slice A3 n3 k3,.slice A9 m9 c9,.map (some g)] 151)) (w2:=w2) (KO:=123) (jD:=#[.pointer (some ⟨pk,0,none⟩)]) (out:=λk=>decide (k=i)) (B:=B) (bT.out.still afA) hv.out (uG hv.out) ⟨_,_,_,rfl⟩ Mv (by simp;omega) q0 q1 q2 qm call123
  (λk W hk eh=>agl ((Aj7 (eh.block pk (by have:=FR.out.2.2.2.size;omega) (by simp;have:=FR.out.2.2.1;omega))).trans afm) (by have:=eh.size;omega))
 refine Pr (gf:=174) (pre:=#[]) (lb:=#[.pointer (some ⟨w1.heap.size+1,0,none⟩),.pointer (some ⟨w1.heap.size+1+1,0,none⟩),.pointer (some ⟨gn,0,none⟩)]) (by simp[Act.eval]) call174 λfn rc gP=>?_
 have AA:=((AQ.alloc (by show B<=w2.heap.size;omega) (.deferred (some []))).alloc (by simp[Bw];omega) (.loop rc)).RF (w2.heap.size+1)
 obtain⟨W1,eJ⟩:∃W1,W1=(w2.alloc (Obj.deferred (some []))).alloc (Obj.loop rc):=⟨_,rfl⟩
 obtain⟨X,hX⟩:∃X:ep,X={Bw w2 b (.slice A1 n1 k1) (.slice A2 n2 k2) (.slice A3 n3 k3) (.slice A9 m9 c9) (aD b) (w1.heap.size+1) gn g 123 #[.pointer (some ⟨pk,0,none⟩)] (λk=>decide (k=i)) with w:=W1,l:=w2.heap.size+1}:=⟨_,rfl⟩
 have dh:X.Ok B:=by rw[hX,eJ];simpa [Bw] using AA
 have xw:X.w=W1:=by rw[hX]
 have xl:X.l=w2.heap.size+1:=by rw[hX]
 have xb:X.b=b:=by rw[hX];rfl
 have xg:X.gm=g:=by rw[hX];rfl
 have cZ:W1.heap.size=w2.heap.size+2:=by rw[eJ];simp
 have xs:X.s=w2.heap.size+2:=by unfold ep.s;rw[xw,cZ]
 have xT:W1.heap[w2.heap.size+1]?=some (.loop rc):=by rw[eJ];exact uI (by simp)
 have jT:W1.heap[w2.heap.size]?=some (.deferred (some [])):=by rw[eJ];exact mm (uI (by simp))
 have dg:dK X.w X.gm X.b:=by
  rw[xw,xg,xb,eJ];exact Hm.grown (row:=none) ((Ahk _ _ _).trans (Ahk _ _ _)) (by simp)
 have hgg:g<w2.heap.size:=Hm.lt;have xn:X.n=cz (aD b):=by rw[hX];rfl
 have xo:X.out=λk=>decide (k=i):=by rw[hX];rfl
 have xp:X.np=b.pieces.length:=by unfold ep.np;rw[xb]
 have xgs:X.gs=w1.heap.size+1:=by rw[hX];rfl
 have xgo:X.go=w1.heap.size+1+1:=by rw[hX];rfl
 have xgn:X.gn=gn:=by rw[hX];rfl
 rw[<-eJ];clear hX eJ;have hZ:zx X (λ_ W=>W.heap[w2.heap.size]?=some (.deferred (some []))/\W.heap[w2.heap.size+1]?=some (.loop {rc with state:=.done,pending:=some .ret})/\∃i,Bk W (X.s+2) 27 #[.slice (some ⟨X.s+1,0,none⟩) i X.np]):=by
  refine⟨λfull W hz=>hz.2.2,λfull W i hz=>?_,λm full W hlen hD=>?_⟩
  ·obtain⟨z1,z2,j,z3⟩:=hz
   exact⟨(Ahc _ _ _ _ (by simp;omega)).trans z1,(Ahc _ _ _ _ (by simp;omega)).trans z2,i,z3.set 0 _⟩
  ·have eh:=hD.gr
   rw[xw,xg] at eh;have oz:W.heap[w2.heap.size+1]?=some (.loop rc):=(eh.block _ (by omega) (by simp;omega)).trans xT
   have fJ:W.heap[w2.heap.size]?=some (.deferred (some [])):=(eh.block _ (by omega) (by simp;omega)).trans jT
   have oA:=hD.lv;rw[xs,xp] at oA;have aI:=eh.size;rw[xl];refine Qy (n:=0) gP oz rfl ?_
   gi_wp2
   refine⟨_,abC gP oz,?_⟩
   gi_wp2
   have Au:(W.putObj (w2.heap.size+1) (.loop {rc with state:=.busy})).heap[w2.heap.size+1]?=some (.loop {rc with state:=.busy}):=Ahh (by omega)
   refine⟨_,_,SQ .ret Au,rfl,?_,Ahh (by simp;omega),full.length,?_⟩
   ·exact(Ahi (by omega)).trans ((Ahi (by omega)).trans fJ)
   ·exact(Ahi (by omega)).trans ((Ahi (by omega)).trans oA)
 have call:=SJ dh (by rw[xs];omega) hZ dg
 rw[xl,xgs,xgo,xgn,xw,xn,xo,xb,xp] at call;refine(callsIn_wide.2 call).mono ?_
 rintro e W2 ⟨⟨v,rfl⟩,(⟨full,tM,aN,ba,_⟩ | ⟨tM,hD⟩)⟩
 ·refine⟨some .ret,_,SW ba,?_⟩
  gi_wp2
  refine⟨⟨w2.heap.size,_,rfl,(Ahi (by omega)).trans aN⟩,rfl,rfl,rfl,rfl,rfl,.inr ⟨by rw[tM];rfl,rfl⟩⟩
 ·have eh:=hD.gr
  rw[xw,xg] at eh;have oz:W2.heap[w2.heap.size+1]?=some (.loop rc):=(eh.block _ (by omega) (by simp;omega)).trans xT
  have fJ:W2.heap[w2.heap.size]?=some (.deferred (some [])):=(eh.block _ (by omega) (by simp;omega)).trans jT
  refine⟨none,_,L7 gP oz,?_⟩
  exact⟨⟨w2.heap.size,_,rfl,(Ahi (by omega)).trans fJ⟩,rfl,rfl,rfl,rfl,rfl,.inl ⟨tM,rfl⟩⟩
end
end Go.Jn
namespace Go.Jn
open Go Go.Proofs Go.Sim Go.Conc Go.Tw
def aj4{C:bQ}{ρ:Ren}{w w':Abc}(hW:bV C ρ w w'){a b o:Nat}(hab:ρ a b){v':Value}(h:ah ρ (.pointer (some ⟨a,o,none⟩)) v'):v'=.pointer (some ⟨b,o,none⟩):=by
 cases h with
 |ptr ha=>
  rename_i q;obtain⟨q1,q2,q3⟩:=q;obtain⟨h1,h2,h3⟩:=ha;simp only at h1 h2 h3;subst h2 h3;rw[hW.fn _ _ _ h1 hab]
def IZ{ρ:Ren}{t t':Array Value}(h:aP ρ t t'){i:Nat}{v:Value}(hi:t[i]?=some v):∃v',t'[i]?=some v'/\ah ρ v v':=by
 rcases h.get? i with⟨h1,_⟩ | ⟨a,b,h1,h2,h3⟩
 ·rw[h1] at hi;cases hi
 ·rw[h1] at hi;cases hi;exact⟨b,h2,h3⟩
def PU{C:bQ}{ρ:Ren}{w w':Abc}(hW:bV C ρ w w'){t t':Array Value}(h:aP ρ t t'){i a b o:Nat}(hab:ρ a b)(hi:t[i]?=some (.pointer (some ⟨a,o,none⟩))):t'[i]?=some (.pointer (some ⟨b,o,none⟩)):=by
 obtain⟨v',h1,h2⟩:=IZ h hi;rw[h1,aj4 hW hab h2]
def aj3{C:bQ}{ρ:Ren}{w w':Abc}{M:Sim.aaa}(hW:bV C ρ w w')(hf:Fits M ρ w){r r':Nat}(hr:ρ r r')(h:w.heap[r]?=some (.deferred (some []))):M.O r'/\w'.heap[r']?=some (.deferred (some [])):=by
 obtain⟨o',h1,h2⟩:=hW.obj _ _ _ hr h;cases h2;refine⟨(hf _ _ hr).resolve_right ?_,h1⟩
 rintro⟨_,o,ho,fo⟩;rw[h] at ho;cases ho;exact fo
section
variable {n N0 cL cN:Nat}{eU:Nat->Bool}{val:Nat->Value}{End:List Nat->Sim.aaa->Abo->Abc->Prop}
def d121(p7:Nat):Abb:={target:=.fn (.func 121) #[.pointer (some ⟨p7,0,none⟩)],args:=#[]}
def Yc{M:Sim.aaa}{w:Abc}{p7 r:Nat}{x:Array Value}{e7:Aa8}{f7:Nat×Nat}(m7:M.has p7)(h7:w.heap[p7]?=some (.cells #[.chan (some cL)] e7 f7))(hO:M.O r)(hr:w.heap[r]?=some (.deferred (some []))){t:Array Value}{k:List Ajq}:
 Walk Afr false (W2 (Pm.mk Afr n N0 cL cN eU val End)) M (aO ⟨120,t,k,[⟨.collected r,x⟩,d121 p7],.returning,.deferred,none⟩ [dp Afr]) w:=
 amY hO hr λaa hk=>am8 m7 ((wa (by rintro rfl;rw[hr] at h7;cases h7)).trans ((hk.kept _ m7).trans h7)) rfl
def ana{M:Sim.aaa}{w:Abc}{p6 p7 pk r:Nat}{x:Array Value}{e6 e7 ek:Aa8}{f6 f7 fk:Nat×Nat}(m6:M.has p6)(m7:M.has p7)(mk:M.has pk)(h6:w.heap[p6]?=some (.cells #[.chan (some cN)] e6 f6))(h7:w.heap[p7]?=some (.cells #[.chan (some cL)] e7 f7))
 {i:Nat}(hk:w.heap[pk]?=some (.cells #[val i] ek fk))(UW:eU i=true)(hO:M.O r)(hr:w.heap[r]?=some (.deferred (some []))){t:Array Value}(hs:t.size=18)(t2:t[2]?=some (.pointer (some ⟨pk,0,none⟩)))(t3:t[3]?=some (.pointer (some ⟨p6,0,none⟩))):
 Walk Afr false (W1 (Pm.mk Afr n N0 cL cN eU val End) i) M (rg 120 t [.code (.region 3 pz false)] [⟨.collected r,x⟩,d121 p7] .deferred [dp Afr]) w:=by
 refine gH ?_
 rw[anp];obtain⟨o,ho,ab,hd,hg⟩:=ZS;obtain⟨dir,hu⟩:=BG;refine du ho (cf hg) rfl (λaa hk=>⟨_,sx _ aa ab (cJ t3) hu rfl (lL ((hk.kept _ m6).trans h6) rfl rfl),vY m6 _ rfl⟩) ?_
 rw[hd];obtain⟨o,ho,ab,hd,hg⟩:=ZT;refine du ho (cf hg) rfl (λaa Hn=>⟨_,sx _ aa ab (cJ ((bL (by omega)).trans t2)) ty3 rfl (lL ((Hn.kept _ mk).trans hk) rfl rfl),vY mk _ rfl⟩) ?_
 rw[hd];suffices rest:∀T:Array Value,T[16]?=some (.chan (some cN))->T[17]?=some (val i)->
  Walk Afr false (W1 (Pm.mk Afr n N0 cL cN eU val End) i) M (rg 120 T [.inRegion pz [2]] [⟨.collected r,x⟩,d121 p7] .deferred [dp Afr]) w from
  rest _ ((bL (by omega)).trans (tY (by omega))) (tY (by simp[ay];omega))
 intro T Fe Ff;obtain⟨o,ho,ab,hd,hg⟩:=ZU;have hx:aS T (.tmp 17)=val i:=cJ Ff;refine .stop λaa Hn=>.inl ⟨UW,rfl,rfl,⟨.tuple #[],FG ho (cf hg) rfl ((WV T aa ab (cJ Fe)).trans (by rw[hx]))⟩,?_⟩
 have D1:Ae2 (rg 120 T [.inRegion pz [2]] [⟨.collected r,x⟩,d121 p7] .deferred [dp Afr]) Aeq=
  rg 120 T [.inRegion pz []] [⟨.collected r,x⟩,d121 p7] .deferred [dp Afr]:=by
  simp[Ae2,Acf,ho,hd]
 show Walk Afr false (W2 (Pm.mk Afr n N0 cL cN eU val End)) M (Ae2 (rg 120 T [.inRegion pz [2]] [⟨.collected r,x⟩,d121 p7] .deferred [dp Afr]) Aeq) aa;rw[D1];exact(iA (am0 (Yc m7 h7 hO hr))).rely Hn
def worker{M:Sim.aaa}{ρ:Ren}{w w':Abc}{b:ao}{pv bv tv:Value}{B i lb lk l6 l7 bk pk p6 p7:Nat}{ek e6 e7:Aa8}{fk f6 f7:Nat×Nat}
 (hW:bV C0 ρ w w')(hg:ρ 0 0)(hf:Fits M ρ w)(hM:∀b,¬M.O b)(gN:∀b,M.has b->b<w'.heap.size)(hn:bJ w.heap)
 (rb:ρ lb bk)(rk:ρ lk pk)(r6:ρ l6 p6)(r7:ρ l7 p7)(m6:M.has p6)(m7:M.has p7)(mk:M.has pk)
 (hB:B<=w.heap.size)(ai:bg w B b pv bv tv)(ab:cj b 0=0)
 (c0: w.cell? ⟨lb,0,none⟩=some (.int .i64 b.ag))(c1: w.cell? ⟨lb,1,none⟩=some pv)(c2: w.cell? ⟨lb,2,none⟩=some bv)(c3: w.cell? ⟨lb,3,none⟩=some tv)(ck: w.cell? ⟨lk,0,none⟩=some (.int .i64 i))
 (h6:w'.heap[p6]?=some (.cells #[.chan (some cN)] e6 f6))(h7:w'.heap[p7]?=some (.cells #[.chan (some cL)] e7 f7))(hk:w'.heap[pk]?=some (.cells #[val i] ek fk))
 (vt:eU i=(search b (cz (aD b)) (λk=>decide (k=i)) b.pieces.length []).isNone):
 Walk Afr false (W1 (Pm.mk Afr n N0 cL cN eU val End) i) M (born Afr {target:=.fn (.func 120) #[.pointer (some ⟨p7,0,none⟩),.pointer (some ⟨bk,0,none⟩),.pointer (some ⟨pk,0,none⟩),.pointer (some ⟨p6,0,none⟩)],args:=#[]}) w':=by
 letI:=iQ
 refine am9 λt hs t0 t1 t2 t3 t6 tu=>?_
 obtain⟨v6,hv6⟩:=rB ρ (.func (.func 121) #[] #[.pointer (some ⟨p7,0,none⟩)]);have lb1:lb<w.heap.size:=hW.dA _ _ rb;have lk1:lk<w.heap.size:=hW.dA _ _ rk;have ptr:∀ {a b:Nat},ρ a b->ah ρ (.pointer (some ⟨a,0,none⟩)) (.pointer (some ⟨b,0,none⟩)):=λh=>.ptr ⟨h,rfl,rfl⟩
 have Eb:aP ρ #[.pointer (some ⟨l7,0,none⟩),.pointer (some ⟨lb,0,none⟩),.pointer (some ⟨lk,0,none⟩),.pointer (some ⟨l6,0,none⟩),Aeq,Aeq,v6,Aeq,Aeq,Aeq,Aeq,Aeq,Aeq,Aeq,Aeq,Aeq,Aeq,Aeq] t:=by
  refine⟨hs.symm,λj h1 h2=>?_⟩
  have hj:j<18:=by rw[<-hs];exact h2
  have hu:∀q,4<=q->q<18->q≠6->∀h:q<t.size,ah ρ Aeq t[q]:=by
   intro q h4 GV h6 h;have:=tu q h4 GV h6;rw[Aeg h] at this
   rw[Aea this];exact .undef
  have he:∀ {q:Nat} {v:Value} (h:q<t.size),t[q]?=some v->t[q]=v:=λh e=>by rw[Aeg h] at e;exact Aea e
  have:j=0\/j=1\/j=2\/j=3\/j=6\/(4<=j/\j≠6):=by omega
  rcases this with rfl|rfl|rfl|rfl|rfl| ⟨h4,h6⟩
  ·rw[he _ t0];exact ptr r7
  ·rw[he _ t1];exact ptr rb
  ·rw[he _ t2];exact ptr rk
  ·rw[he _ t3];exact ptr r6
  ·rw[he _ t6];exact hv6
  ·have:=hu j h4 hj h6 h2
   have:j=4\/j=5\/j=7\/j=8\/j=9\/j=10\/j=11\/j=12\/j=13\/j=14\/j=15\/j=16\/j=17:=by omega
   rcases this with rfl|rfl|rfl|rfl|rfl|rfl|rfl|rfl|rfl|rfl|rfl|rfl|rfl<;>assumption
 have hl:∀T,eX (@Tw.prog iQ) [ur,sL] (Gd b i (.pointer (some ⟨l7,0,none⟩)) (.pointer (some ⟨lb,0,none⟩)) (.pointer (some ⟨lk,0,none⟩)) (.pointer (some ⟨l6,0,none⟩))) ⟨#[.pointer (some ⟨l7,0,none⟩),.pointer (some ⟨lb,0,none⟩),.pointer (some ⟨lk,0,none⟩),.pointer (some ⟨l6,0,none⟩),Aeq,Aeq,v6,Aeq,Aeq,Aeq,Aeq,Aeq,Aeq,Aeq,Aeq,Aeq,Aeq,Aeq],[cQ]⟩ (aZ w T):=λT=>
  middle (B:=B) hB (ai.still λ_ _=>rfl) ab c0 c1 c2 c3 ck lb1 lk1
 refine pieces (S:=⟨.region 3 pz false,[],[d121 p7],[dp Afr],.deferred⟩) (cs:=[ur,sL]) ?_ rfl rfl ?_ hl hW hg hf gN hn Eb ?_
 ·intro c hc
  simp only[Af2,Af3,or_false] at hc;rcases hc with rfl|rfl
  ·exact aaw
  ·exact aax
 ·rintro e a w ⟨_,_,_,_,_,_,⟨_,rfl⟩ | ⟨_,rfl⟩⟩
  ·exact .inl rfl
  ·exact .inr rfl
 ·rintro e bB aa bS aE eV aA D' ⟨⟨r,x,hd,hr⟩,us,u0,u1,u2,u3,Aj⟩ bY eJ gM DM dB qx vC hD
  rw[hd] at hD;obtain⟨r',x',rr,rfl⟩:∃r' x',aE r r'/\D'=[⟨.collected r',x'⟩,d121 p7]:=by
   cases hD with
   |cons h1 h2=>
    cases h1 with
    |collected hr=>rw[xf h2];exact⟨_,_,hr,rfl⟩
  obtain⟨hO,DX⟩:=aj3 eJ gM rr hr;have kept:∀q,M.has q->aA.heap[q]?=w'.heap[q]?:=λq hq=>bY.im q hq λa ha=>((hf a q ha).resolve_left (hM q)).2
  have G7:∀q,M.has q->bS.has q:=λq hq=>aaa.tx bY.R bY.O hq
  refine⟨λhe=>?_,λhe sH=>?_⟩
  ·subst he
   obtain⟨xX,_⟩:=Aj.resolve_right (by rintro⟨_,h⟩;cases h)
   refine ana (G7 _ m6) (G7 _ m7) (G7 _ mk) ((kept _ m6).trans h6) ((kept _ m7).trans h7) ((kept _ mk).trans hk) (by rw[vt,xX];rfl) hO DX (vC.1.symm.trans us) (PU eJ vC (bY.le _ _ rk) u2) (PU eJ vC (bY.le _ _ r6) u3)
  ·subst he
   obtain⟨Vg,_⟩:=Aj.resolve_left (by rintro⟨_,h⟩;cases h)
   refine Walk.mono (Yc (G7 _ m7) ((kept _ m7).trans h7) hO DX) λM g w h=>.inr ⟨?_,h⟩
   show eU i=false;rw[vt];cases e:search b (cz (aD b)) (λk=>decide (k=i)) b.pieces.length [] with
   |none=>rw[e] at Vg;cases Vg
   |some _=>rfl
end
end Go.Jn
namespace Go.Jn
open Go Go.Sim Go.Conc
open Go.ConcN (sumTo upd sumTo_upd upd_ne upd_same)
def al3(n:Nat):sumTo n (λ_=>0)=0:=by
 induction n with
 |zero=>rfl
 |succ n ih=>simp only[sumTo,ih]
def acE{X:Pm}{gs:Array Abo}{w:Abc}{t:Aeo}{q:Nat->Nat}{g:Abo}{M:aaa}(hF:Fr X.P gs w t q g)(Pk:X.N0=gs.size)
 (gN:∀b,M.has b->b<w.heap.size/\b≠X.cL/\b≠X.cN)(bz:g.status=.running)(hW:Walk X.P true (StopA X X.n) M g w)
 (hL:w.heap[X.cL]?=some (.chan 0 #[] false 0 0 false))(hN:w.heap[X.cN]?=some (.chan 0 #[] false 0 0 false))(aw:X.cL≠X.cN){N:Nat}(hT:lK N t)(xJ:N<=X.cN):
 ∃G,FI X w gs w t G:=by
 obtain⟨T,lO⟩:=hW.tree;have h0:0<gs.size:=(Aaf.1 hF.zero).1
 have known:∀k a,touchAt t k=some a->a.loc.isMemory=true->Knows t 0 k:=λk a ha hm=>(hF.gD.known k a ha hm).elim id λh=>h.1.elim
 refine⟨{j:=0,st:=λ_=>.no,mp:=.spawn,cp:=.no,act:=λi=>if i=0 then some ⟨M,g,w⟩ else none,q:=q,tr:=λ_=>T},?_⟩
 refine⟨Pk.symm,by omega,Agl _,λh=>(by cases h),⟨λ⟨_,_,e⟩=>(by rcases e with e|e<;>cases e),λh=>(by cases h)⟩,λi _=>⟨λ_=>Agl _,λ_=>rfl⟩,⟨g,hF.zero,M,w,rfl,bz,lO⟩,λi hi=>absurd hi (Nat.not_lt_zero _),λh=>(by cases h),
  λi x h1 _ hx=>hF.lv i x h1 hx,λi h1 _=>?_,λi hi=>?_,al3 _,λ_ _ _=>rfl,λ⟨_,_,e⟩=>(by cases e),λ⟨_,e⟩=>(by cases e),λ⟨_,_,e⟩=>(by cases e),⟨λi j hj=>?_,λi i' j j' hii hj qq=>?_,λi j hj=>?_,hF.gD.seen,hF.nd,hF.gD.clean,λi j hj k a ha b hb _=>?_,?_,?_⟩,
  ⟨0,hL⟩,⟨0,hN⟩,aw,⟨Ad4 _,rfl,rfl,rfl⟩,λk a ha hm i _ _=>known k a ha hm,λk i hi=>?_,λi _ hq=>(by cases hq),λ_ k a ha=>?_,λh=>(by cases h)⟩
 ·exact if_neg (by omega)
 ·exact if_neg (by omega)
 ·by_cases e:i=0
  ·simp only[e,if_true,Aeb] at hj
   subst hj;exact bN.refl _ _
  ·simp only[e,if_false] at hj;cases hj
 ·by_cases e:i=0
  ·have e':i'≠0:=λx=>hii (e.trans x.symm)
   simp only[e',if_false] at qq;cases qq
  ·simp only[e,if_false] at hj;cases hj
 ·by_cases e:i=0
  ·simp only[e,if_true,Aeb] at hj
   subst hj;exact gN
  ·simp only[e,if_false] at hj;cases hj
 ·by_cases e:i=0
  ·subst e
   refine known k a ha ?_
   rcases hb with hb| ⟨c,hb,_⟩<;>rw[hb]<;>rfl
  ·simp only[e,if_false] at hj;cases hj
 ·exact(Aaf.1 hL).1
 ·exact(Aaf.1 hN).1
 ·unfold Trace.g? at hi
  obtain⟨op,ab,e⟩:=Ags.1 hi;rw[<-e];exact hF.gb op (Aax ab)
 ·obtain⟨op,ab,cB⟩:=touch_of ha
  exact hT op (mem_of_getElem? ab) a cB _ xJ
end Go.Jn
namespace Go.Jn
open Go Go.Proofs Go.Sim Go.Conc
def nP:Aa9:=a8 (a8 (a8 zJ))
def pT:Aa9:=bO (a8 zJ)
def p0:Array Ajs:=opsOf (bO zJ)
def p5:Array Ajs:=opsOf (bO (bO nP))
def uE:Aa9:=qV (qV (a8 (bO nP)))
def p6:Array Ajs:=opsOf (bO uE)
def p7:Array Ajs:=opsOf (bO (qV (bO (a8 (a8 uE)))))
def p8:Array Ajs:=opsOf (a8 (qV (bO (a8 (a8 uE)))))
def p9:Array Ajs:=opsOf (a8 (a8 (a8 uE)))
def vZ:Aa9:=a8 nP
def IK:Array Ajs:=opsOf (bO vZ)
def Bf:Array Ajs:=opsOf (bO (a8 vZ))
def ub:Aa9:=a8 (a8 vZ)
def Ol:Array Ajs:=opsOf (bO (bO ub))
def pR:Aa9:=qV (qV (a8 (bO ub)))
def tU:Array Ajs:=opsOf (bO pR)
def IL:Array Ajs:=opsOf (bO (qV (a8 (a8 pR))))
def qP:Array Ajs:=opsOf (a8 (qV (a8 (a8 pR))))
def re:Aa9:=a8 ub
def Bg:Array Ajs:=opsOf (bO re)
def yM:Array Ajs:=opsOf (bO (a8 re))
def RG:Tryz.f38.body=some (.seq (.region 0 p0 false) (.seq pT (.seq (.region 4 iP true) nP))):=rfl
def akf:nP=.seq (.seq (.region 5 p5 false) (.block 0 (.loop uE))) vZ:=rfl
def Rk:uE=.seq (.region 6 p6 false) (.seq (.cond (.tmp 25) .skip (.exit 0)) (.seq (.block 1 (.seq (.region 7 p7 false) (.region 8 p8 false))) (.region 9 p9 false))):=rfl
def akc:vZ=.seq (.region 10 IK false) (.seq (.region 11 Bf false) ub):=rfl
def akd:ub=.seq (.seq (.region 12 Ol false) (.block 2 (.loop pR))) re:=rfl
def ake:re=.seq (.region 16 Bg false) (.seq (.region 17 yM false) .ret):=rfl
def m00:∃o,p0[0]?=some o/\o.op=.box 26 (.tmp 0)/\o.dst=some 1/\o.guard=none:=⟨_,rfl,rfl,rfl,rfl⟩
def m01:∃o,p0[1]?=some o/\o.op=.assign (.const (.slice none 0 0))/\o.dst=some 2/\o.guard=none:=⟨_,rfl,rfl,rfl,rfl⟩
def m02:∃o,p0[2]?=some o/\o.op=.assign (.const (.int .i64 0))/\o.dst=some 3/\o.guard=none:=⟨_,rfl,rfl,rfl,rfl⟩
def m50:∃o,p5[0]?=some o/\o.op=.fieldAddr 26 (.tmp 1) 2/\o.dst=some 21/\o.guard=none:=⟨_,rfl,rfl,rfl,rfl⟩
def m51:∃o,p5[1]?=some o/\o.op=.load 23 (.tmp 21)/\o.dst=some 22/\o.guard=none:=⟨_,rfl,rfl,rfl,rfl⟩
def m52:∃o,p5[2]?=some o/\o.op=.call {callee:=.builtin .len,args:=#[.tmp 22],argTypes:=#[23]}/\o.dst=some 23/\o.guard=none:=⟨_,rfl,rfl,rfl,rfl⟩
def m53:∃o,p5[3]?=some o/\o.op=.move (.const (.int .i64 0))/\o.dst=some 24/\o.guard=none:=⟨_,rfl,rfl,rfl,rfl⟩
def SE:∃o,p6[0]?=some o/\o.op=.binOp .lss 3 (.tmp 24) (.tmp 23) 3/\o.dst=some 25/\o.guard=none:=⟨_,rfl,rfl,rfl,rfl⟩
def m70:∃o,p7[0]?=some o/\o.op=.move (.tmp 24)/\o.dst=some 26/\o.guard=none:=⟨_,rfl,rfl,rfl,rfl⟩
def m71:∃o,p7[1]?=some o/\o.op=.alloc 3/\o.dst=some 8/\o.guard=none:=⟨_,rfl,rfl,rfl,rfl⟩
def m72:∃o,p7[2]?=some o/\o.op=.store 3 (.tmp 8) (.tmp 26)/\o.dst=none/\o.guard=none:=⟨_,rfl,rfl,rfl,rfl⟩
def m80:∃o,p8[0]?=some o/\o.op=.makeFunc (.func 120) #[] #[.tmp 7,.tmp 1,.tmp 8,.tmp 6]/\o.dst=some 27/\o.guard=none:=⟨_,rfl,rfl,rfl,rfl⟩
def m81:∃o,p8[1]?=some o/\o.op=.go {callee:=.value (.tmp 27),args:=#[],argTypes:=#[]}/\o.dst=none/\o.guard=none:=⟨_,rfl,rfl,rfl,rfl⟩
def m90:∃o,p9[0]?=some o/\o.op=.binOp .add 3 (.tmp 24) (.const (.int .i64 1)) 3/\o.dst=some 28/\o.guard=none:=⟨_,rfl,rfl,rfl,rfl⟩
def m91:∃o,p9[1]?=some o/\o.op=.move (.tmp 28)/\o.dst=some 24/\o.guard=none:=⟨_,rfl,rfl,rfl,rfl⟩
def ahu:∃o,IK[0]?=some o/\o.op=.makeFunc (.func 124) #[] #[.tmp 1,.tmp 7,.tmp 6]/\o.dst=some 29/\o.guard=none:=⟨_,rfl,rfl,rfl,rfl⟩
def ahv:∃o,IK[1]?=some o/\o.op=.go {callee:=.value (.tmp 29),args:=#[],argTypes:=#[]}/\o.dst=none/\o.guard=none:=⟨_,rfl,rfl,rfl,rfl⟩
def ahw:∃o,Bf[0]?=some o/\o.op=.assign (.const (.slice none 0 0))/\o.dst=some 9/\o.guard=none:=⟨_,rfl,rfl,rfl,rfl⟩
def ahx:∃o,Ol[0]?=some o/\o.op=.load 154 (.tmp 6)/\o.dst=some 30/\o.guard=none:=⟨_,rfl,rfl,rfl,rfl⟩
def OS:∃o,tU[0]?=some o/\o.op=.recv 154 (.tmp 30) true/\o.dst=some 31/\o.guard=none:=⟨_,rfl,rfl,rfl,rfl⟩
def afd:∃o,tU[1]?=some o/\o.op=.extract (.tmp 31) 1/\o.dst=some 32/\o.guard=none:=⟨_,rfl,rfl,rfl,rfl⟩
def ahy:∃o,IL[0]?=some o/\o.op=.extract (.tmp 31) 0/\o.dst=some 33/\o.guard=none:=⟨_,rfl,rfl,rfl,rfl⟩
def ahz:∃o,IL[1]?=some o/\o.op=.assign (.tmp 33)/\o.dst=some 10/\o.guard=none:=⟨_,rfl,rfl,rfl,rfl⟩
def ahF:∃o,yM[0]?=some o/\o.op=.move (.tmp 9)/\o.dst=some 40/\o.guard=none:=⟨_,rfl,rfl,rfl,rfl⟩
def ahG:∃o,yM[1]?=some o/\o.op=.assign (.tmp 40)/\o.dst=some 2/\o.guard=none:=⟨_,rfl,rfl,rfl,rfl⟩
def ahH:∃o,yM[2]?=some o/\o.op=.assign (.const (.int .i64 0))/\o.dst=some 3/\o.guard=none:=⟨_,rfl,rfl,rfl,rfl⟩
def s0:p0.size=3:=rfl
def s5:p5.size=4:=rfl
def s6:p6.size=1:=rfl
def s7:p7.size=3:=rfl
def s8:p8.size=2:=rfl
def s9:p9.size=2:=rfl
def ET:IK.size=2:=rfl
def E0:Bf.size=1:=rfl
def E4:Ol.size=1:=rfl
def WX:tU.size=2:=rfl
def V5:IL.size=2:=rfl
def s17:yM.size=3:=rfl
def Ig:∃i,Afr.info? 3=some i/\i.zero=some (.int .i64 0)/\i.size=1:=⟨_,rfl,rfl,rfl⟩
def akb:Tryz.f38.results=#[.tmp 2,.tmp 3]:=rfl
def aiN:(Tryz.f38.name== "runtime.NumGoroutine")=false:=by decide+kernel
def aay:C0.clean pT:=by show cr Afr G0 pT=true;decide+kernel
def aar:C0.clean (.region 15 qP false):=by show cr Afr G0 (.region 15 qP false)=true;decide+kernel
def aas:C0.clean (.region 16 Bg false):=by show cr Afr G0 (.region 16 Bg false)=true;decide+kernel
def akp{P:Abe}(t:Array Value)(w:Abc){o:Ajs}{e:Aa8}{n:Nat}{v:Value}(ho:o.op=.box e (.tmp n))(hn:t.getD n Aeq=v):
 (execOp (aS t) o).runT P w #[]=(.ok (.value (.pointer (some ⟨w.heap.size,0,none⟩))) (w.alloc (.cells v.cells e)),#[]):=by
 have e1:aS t (.tmp n)=v:=hn;unfold execOp;rw[ho]
 simp only[Instr.box,e1,newVar,newRow,newObj,bind,Adt,Ads,pure,World.alloc]
end Go.Jn
namespace Go.Jn
open Go Go.Proofs Go.Sim Go.Conc
def acY{G:Nat->Bool}{ρ:Ren}(hG:∀g,G g=true->ρ g g){tl t:Array Value}(h:aP ρ tl t):pL G ρ (aS tl) (aS t):=by
 have:=C5 (f:=0) (k:=[]) (k':=[]) (d:=[]) (d':=[]) (m:=.run) (kd:=.normal) (eT:=.normal) (r:=none) (r':=none) hG h;rwa[tf,tf] at this
section
variable {P:Abe}{F:Array Abf}{C:bQ}{G:Nat->Bool}
def Yb(E:Env P F C G){main:Bool}{Stop:Sim.aaa->Abo->Abc->Prop}{M:Sim.aaa}{ρ:Ren}{f:Aa6}{k:List Ajq}{D:List Abb}{kd:Ajr}{cs:List Abn}{ops:Array Ajs}{i:Nat}{rest:List Nat}{o:Ajs}{tl t:Array Value}{wl w':Abc}
 (ho:ops[i]?=some o)(hg:Aj1 o (Ajt ops t)=true)(hk:(kd==.early)=false)(k8:j7 P G o=true)(ht:aP ρ tl t)(hW:bV C ρ wl w')(hG:∀g,G g=true->ρ g g)(hf:Fits M ρ wl)(gN:∀b,M.has b->b<w'.heap.size)
 {QL:Value->Abc->Prop}(hl:∀T,∃v aa,(execOp (aS tl) o).run (tw P F) (aZ wl T)=.ok (.value v) aa/\QL v aa)
 (h:∀v v' wy aE bS aA,QL v wy->ah aE v v'->bV C aE wy aA->gX M ρ wl w' bS aE wy aA->Fits bS aE wy->(∀b,bS.has b->b<aA.heap.size)->Walk P main Stop bS (rg f (ay t o.dst v') (.inRegion ops rest::k) D kd cs) aA):
 Walk P main Stop M (rg f t (.inRegion ops (i::rest)::k) D kd cs) w':=by
 refine BN ho hg hk λaa hw=>?_
 have hR:=hW.keep hf hw
 let T:Tape:=λj q=>aa.tape (aa.drawn+(j - wl.drawn)) q
 obtain⟨v,wy,hr,hq⟩:=hl T;have eC:gY C ρ (aZ wl T) aa:=(hR.left (aa:=aZ wl T) rfl).rel λj q=>by
  show aa.tape (aa.drawn+(wl.drawn+j - wl.drawn)) q=aa.tape (aa.drawn+j) q;rw[Nat.add_sub_cancel_left]
 obtain⟨aE,n',aA,eD,k1,k2,k3,k4,k5⟩:=ed.execOp E o k8 (acY hG ht) ρ ρ.le_refl (aZ wl T) aa #[] eC (.value v) wy hr;cases k2 with
 |value hv=>
  rename_i v';have DM:∀b,M.has b->b<aa.heap.size:=λb hb=>Ad6 (gN b hb) hw.size
  have Mf:∀b,b<aa.heap.size->¬M.O b->∀a,ρ a b->∃o,wl.heap[a]?=some o/\lC o:=λb _ hb a ha=>((hf a b ha).resolve_left hb).2
  have GH:eO M aa aA eD:=by
   refine⟨k4.fQ,λb hb hO=>k4.im b hb (Mf b hb hO),k4.wv,k4.vR,k4.vS,λe he=>?_⟩
   rcases k5 e he with⟨b,a,e1,e2,e3,e4⟩ |x
   ·refine .inl ⟨b,e1,e2,?_⟩
    rcases k4.new a b e3 with x| ⟨x,y⟩
    ·rcases hf a b x with o| ⟨r,o,ho,fo⟩
     ·exact⟨.inl (.inl o),λ_=>.inl o⟩
     ·refine⟨.inr r,λEc=>?_⟩
      rcases e4 with e4| ⟨o',oB,e4⟩
      ·have:=hW.dA a b x
       have e4:wl.heap.size<=a:=e4;omega
      ·have e5:wl.heap[a]?=some o':=oB
       rw[ho] at e5;obtain rfl:=Aea e5;exact absurd fo (e4 Ec)
    ·have hb:=k3.dc a b e3
     exact⟨.inl (.inr ⟨y,hb⟩),λ_=>.inr ⟨y,hb⟩⟩
   ·exact .inr x
  have tP:(execOp (aS t) o).runT P aa #[]=(.ok (.value v') aA,eD):=by rw[k1];simp
  refine⟨v',aA,eD,.inl tP,GH,?_⟩
  refine h v v' wy aE (M.grow aa aA) aA hq hv ⟨k3.dA,k3.dc,k3.fn,k3.inj,k3.obj⟩ ((gX.keep hw).trans (pU:=M.grow aa aA) ⟨k4.le,k4.new,k4.mP,k4.fQ,k4.kE,λb hb Hg=>k4.im b (DM b hb) Hg,rfl,λ_ x=>.inl x,λ_ x=>x,k4.wv,k4.vR,k4.vS⟩ gN) (λa b hab=>?_) (zU GH DM)
  rcases k4.new a b hab with x| ⟨x,y⟩
  ·rcases hf a b x with o| ⟨r,o,ho,fo⟩
   ·exact .inl (.inl o)
   ·exact .inr ⟨r,o,k4.kE a o ho fo,fo⟩
  ·exact .inl (.inr ⟨y,k3.dc a b hab⟩)
end
end Go.Jn
namespace Go.Jn
open Go Go.Proofs Go.Sim Go.Conc Go.Tw
def ext(ρ:Ren)(a0 b0:Nat):Ren:=λa b=>ρ a b\/(a=a0/\b=b0)
def xj(ρ:Ren)(a0 b0:Nat):ρ.le (ext ρ a0 b0):=λ_ _ h=>.inl h
def uP{C:bQ}{ρ:Ren}{wl w':Abc}{o o':Obj}{q:Nat}(hW:bV C ρ wl w')(hq:w'.heap[q]?=some o')(xU:∀a,¬ρ a q)(ho:iE C (ext ρ wl.heap.size q) o o'):
 bV C (ext ρ wl.heap.size q) (wl.alloc o) w' where
 dA a b h:=by
  rw[fa];rcases h with h| ⟨rfl,rfl⟩
  ·have:=hW.dA a b h;omega
  ·omega
 dc a b h:=by
  rcases h with h| ⟨rfl,rfl⟩
  ·exact hW.dc a b h
  ·exact(Aaf.1 hq).1
 fn a b b' h h':=by
  rcases h with h| ⟨rfl,rfl⟩
  ·rcases h' with h'| ⟨rfl,rfl⟩
   ·exact hW.fn a b b' h h'
   ·have:=hW.dA _ _ h;omega
  ·rcases h' with h'| ⟨_,rfl⟩
   ·have:=hW.dA _ _ h';omega
   ·rfl
 inj a a' b h h':=by
  rcases h with h| ⟨rfl,rfl⟩
  ·rcases h' with h'| ⟨rfl,rfl⟩
   ·exact hW.inj a a' b h h'
   ·exact absurd h (xU a)
  ·rcases h' with h'| ⟨rfl,_⟩
   ·exact absurd h' (xU a')
   ·rfl
 obj a b x h hx:=by
  rcases h with h| ⟨rfl,rfl⟩
  ·rw[kB (hW.dA a b h)] at hx
   obtain⟨y,h1,h2⟩:=hW.obj a b x h hx;exact⟨y,h1,h2.mono (xj ρ _ _)⟩
  ·rw[jO] at hx
   cases hx;exact⟨o',hq,ho⟩
def ta{C:bQ}{ρ:Ren}{wl w' bq:Abc}(hW:bV C ρ wl w')(hs:w'.heap.size<=bq.heap.size)(hk:∀a b,ρ a b->bq.heap[b]?=w'.heap[b]?):bV C ρ wl bq where
 dA:=hW.dA
 dc a b h:=Ad6 (hW.dc a b h) hs
 fn:=hW.fn
 inj:=hW.inj
 obj a b o h ho:=by
  obtain⟨o',h1,h2⟩:=hW.obj a b o h ho;exact⟨o',(hk a b h).trans h1,h2⟩
structure LW(b:ao)(ρ:Ren)(wl:Abc)(pv bv tv:Value)(B lb l6 l7 bk p6 p7:Nat)(M:Sim.aaa)(w':Abc):Prop where
 core:bV C0 ρ wl w'
 gL:ρ 0 0
 nb:bJ wl.heap
 has:∀a q,ρ a q->M.has q
 fixed:∀a q,ρ a q->∃o,wl.heap[a]?=some o/\lC o
 rb:ρ lb bk
 r6:ρ l6 p6
 r7:ρ l7 p7
 hB:B<=wl.heap.size
 book:bg wl B b pv bv tv
 c0: wl.cell? ⟨lb,0,none⟩=some (.int .i64 b.ag)
 c1: wl.cell? ⟨lb,1,none⟩=some pv
 c2: wl.cell? ⟨lb,2,none⟩=some bv
 c3: wl.cell? ⟨lb,3,none⟩=some tv
structure St(b:ao)(ρ:Ren)(wl:Abc)(pv bv tv:Value)(B lb l6 l7 bk p6 p7 cN cL n NB:Nat)(wB:Abc)(M:Sim.aaa)(w:Abc):Prop where
 lw:LW b ρ wl pv bv tv B lb l6 l7 bk p6 p7 M w
 low:∀q,M.has q->q<w.heap.size
 m6:M.has p6
 m7:M.has p7
 mb:M.has bk
 h6:w.heap[p6]?=some (.cells #[.chan (some cN)] 154 (0,0))
 h7:w.heap[p7]?=some (.cells #[.chan (some cL)] 155 (0,0))
 hb:∃bc e fb A c,w.heap[bk]?=some (.cells bc e fb)/\bc[2]?=some (.slice A n c)
 old:∀q,q<NB->M.has q/\w.heap[q]?=wB.heap[q]?
 nb:NB<=w.heap.size
 nc:¬M.has cN/\¬M.has cL
 lc:cN<w.heap.size/\cL<w.heap.size
section
variable {b:ao}{ρ:Ren}{wl wB w bq:Abc}{pv bv tv:Value}{B lb l6 l7 bk p6 p7 cN cL n NB:Nat}{M M':Sim.aaa}
def St.to(h:(St b ρ wl pv bv tv B lb l6 l7 bk p6 p7 cN cL n NB wB) M w)(hs:w.heap.size<=bq.heap.size)(hk:∀q,M.has q->bq.heap[q]?=w.heap[q]?)(hM:∀q,M.has q->M'.has q)(hl:∀q,M'.has q->q<bq.heap.size)(hc:¬M'.has cN/\¬M'.has cL):(St b ρ wl pv bv tv B lb l6 l7 bk p6 p7 cN cL n NB wB) M' bq:=by
 obtain⟨⟨core,gL,nb,has,fixed,rb,r6,r7,hB,book,c0,c1,c2,c3⟩,low,m6,m7,mb,h6,h7,⟨bc,e,fb,A,c,ae,ak⟩,old,gy,nc,lc⟩:=h;exact⟨⟨ta core hs λa q hq=>hk q (has a q hq),gL,nb,λa q hq=>hM q (has a q hq),fixed,rb,r6,r7,hB,book,c0,c1,c2,c3⟩,hl,hM _ m6,hM _ m7,hM _ mb,(hk _ m6).trans h6,(hk _ m7).trans h7,⟨bc,e,fb,A,c,(hk _ mb).trans ae,ak⟩,
  λq hq=>⟨hM q (old q hq).1,(hk q (old q hq).1).trans (old q hq).2⟩,Ad5 gy hs,hc,Ad6 lc.1 hs,Ad6 lc.2 hs⟩
def St.keep(h:(St b ρ wl pv bv tv B lb l6 l7 bk p6 p7 cN cL n NB wB) M w)(k:bN M w bq):(St b ρ wl pv bv tv B lb l6 l7 bk p6 p7 cN cL n NB wB) M bq:=h.to k.size k.kept (λ_ h=>h) (λq hq=>Ad6 (h.low q hq) k.size) h.nc
def St.shared(h:(St b ρ wl pv bv tv B lb l6 l7 bk p6 p7 cN cL n NB wB) M w):(St b ρ wl pv bv tv B lb l6 l7 bk p6 p7 cN cL n NB wB) M.shared w:=h.to (Ad4 _) (λ_ _=>rfl) (λ_ h=>.inr h) (λq hq=>h.low q (hq.resolve_left id)) ⟨λx=>h.nc.1 (x.resolve_left id),λx=>h.nc.2 (x.resolve_left id)⟩
def St.alloc(h:(St b ρ wl pv bv tv B lb l6 l7 bk p6 p7 cN cL n NB wB) M w)(o:Obj):(St b ρ wl pv bv tv B lb l6 l7 bk p6 p7 cN cL n NB wB) (M.grow w (w.alloc o)) (w.alloc o):=by
 refine h.to (by rw[fa];omega) (λq hq=>kB (h.low q hq)) (λq hq=>hq.imp .inl id) (λq hq=>?_) ⟨λhq=>?_,λhq=>?_⟩
 ·rw[fa]
  rcases hq with(hq|hq) |hq
  ·have:=h.low q (.inl hq);omega
  ·rw[fa] at hq;omega
  ·have:=h.low q (.inr hq);omega
 ·rcases hq with(hq|hq) |hq
  ·exact h.nc.1 (.inl hq)
  ·have:=h.lc.1;omega
  ·exact h.nc.1 (.inr hq)
 ·rcases hq with(hq|hq) |hq
  ·exact h.nc.2 (.inl hq)
  ·have:=h.lc.2;omega
  ·exact h.nc.2 (.inr hq)
end
end Go.Jn
namespace Go.Jn
open Go Go.Proofs Go.Sim Go.Conc Go.Tw
def X0(i:Nat):Value:=.int .i64 i
def vs3{t:Array Value}{a b c:Nat}{x y z:Value}(h1:t[a]?=some x)(h2:t[b]?=some y)(h3:t[c]?=some z):(#[Operand.tmp a,.tmp b,.tmp c].map (aS t))=#[x,y,z]:=by
 have e1:aS t (.tmp a)=x:=cJ h1;have e2:aS t (.tmp b)=y:=cJ h2;have e3:aS t (.tmp c)=z:=cJ h3;simp only[Akb,Akc,Akd,e1,e2,e3]
def vs4{t:Array Value}{a b c d:Nat}{x y z u:Value}(h1:t[a]?=some x)(h2:t[b]?=some y)(h3:t[c]?=some z)(h4:t[d]?=some u):(#[Operand.tmp a,.tmp b,.tmp c,.tmp d].map (aS t))=#[x,y,z,u]:=by
 have e1:aS t (.tmp a)=x:=cJ h1;have e2:aS t (.tmp b)=y:=cJ h2;have e3:aS t (.tmp c)=z:=cJ h3;have e4:aS t (.tmp d)=u:=cJ h4;simp only[Akb,Akc,Akd,e1,e2,e3,e4]
section
variable {b:ao}{ρ:Ren}{wl wB:Abc}{pv bv tv:Value}{B lb l6 l7 bk p6 p7 cN cL n N0 NB:Nat}{eU:Nat->Bool}{End:List Nat->Sim.aaa->Abo->Abc->Prop}
structure jN(bk p6 p7:Nat)(t:Array Value):Prop where
 sz:t.size=41
 t1:t[1]?=some (.pointer (some ⟨bk,0,none⟩))
 t6:t[6]?=some (.pointer (some ⟨p6,0,none⟩))
 t7:t[7]?=some (.pointer (some ⟨p7,0,none⟩))
def jN.put{t:Array Value}(h:jN bk p6 p7 t){d:Nat}(hd:d≠1/\d≠6/\d≠7){v:Value}:jN bk p6 p7 (ay t (some d) v):=
 ⟨by simp[ay,h.sz],(bL hd.1).trans h.t1,(bL hd.2.1).trans h.t6,(bL hd.2.2).trans h.t7⟩
def alE(vt:∀i,eU i=(search b (cz (aD b)) (λk=>decide (k=i)) b.pieces.length []).isNone)(ab:cj b 0=0){i pk:Nat}{M:Sim.aaa}{w:Abc}(h:(St b ρ wl pv bv tv B lb l6 l7 bk p6 p7 cN cL n NB wB) M w)(mk:M.has pk)(hk:w.heap[pk]?=some (.cells #[.int .i64 i] 3 (0,0)))(xU:∀a,¬ρ a pk):
 Walk Afr false (W1 (Pm.mk Afr n N0 cL cN eU X0 End) i) M.shared (born Afr {target:=.fn (.func 120) #[.pointer (some ⟨p7,0,none⟩),.pointer (some ⟨bk,0,none⟩),.pointer (some ⟨pk,0,none⟩),.pointer (some ⟨p6,0,none⟩)],args:=#[]}) w:=by
 have hW:=uP (o:=.cells #[.int .i64 i] 3 (0,1)) h.lw.core hk xU (.cells 3 ⟨rfl,λj h1 h2=>by
  have:j=0:=by simp at h1;omega
  subst this;exact .int _ _⟩ (.inr ⟨rfl,by simp⟩))
 have st:=(Still.refl wl).alloc h.lw.hB (.cells #[.int .i64 i] 3 (0,1));have old:∀ {j:Nat} {v:Value},wl.cell? ⟨lb,j,none⟩=some v->(wl.alloc (.cells #[.int .i64 i] 3 (0,1))).cell? ⟨lb,j,none⟩=some v:=λhv=>(World.cell?_alloc_lt wl _ _ (h.lw.core.dA _ _ h.lw.rb)).trans hv
 refine worker (val:=X0) (ρ:=ext ρ wl.heap.size pk) (w:=wl.alloc (.cells #[.int .i64 i] 3 (0,1))) (b:=b) (pv:=pv) (bv:=bv) (tv:=tv) (B:=B) (lb:=lb) (lk:=wl.heap.size) (l6:=l6) (l7:=l7) hW (.inl h.lw.gL) ?_ (λ_ h=>h) (λq hq=>h.low q (hq.resolve_left id)) ?_ (.inl h.lw.rb) (.inr ⟨rfl,rfl⟩) (.inl h.lw.r6) (.inl h.lw.r7) (.inr h.m6) (.inr h.m7) (.inr mk) (by rw[fa];exact Nat.le_succ_of_le h.lw.hB) (h.lw.book.still st) ab (old h.lw.c0) (old h.lw.c1) (old h.lw.c2) (old h.lw.c3) ?_ h.h6 h.h7 hk (vt i)
 ·rintro a q (hq| ⟨rfl,rfl⟩)
  ·obtain⟨o,ho,fo⟩:=h.lw.fixed a q hq
   exact .inr ⟨h.lw.has a q hq,o,(kB (h.lw.core.dA _ _ hq)).trans ho,fo⟩
  ·exact .inr ⟨mk,_,jO,⟨rfl,by simp⟩⟩
 ·exact h.lw.nb.push (λh=>h)
 ·exact lL jO rfl rfl
def spawns(vt:∀i,eU i=(search b (cz (aD b)) (λk=>decide (k=i)) b.pieces.length []).isNone)(ab:cj b 0=0)(hn:n<2 ^ 61){cs:List Abn}
 (cont:∀t M w,jN bk p6 p7 t->(St b ρ wl pv bv tv B lb l6 l7 bk p6 p7 cN cL n NB wB) M w->Walk Afr true (nj (Pm.mk Afr n N0 cL cN eU X0 End) n []) M (rg 38 t [.code (.seq (.region 11 Bf false) ub)] [] .normal cs) w):
 ∀(r:Nat) (t:Array Value) (M:Sim.aaa) (w:Abc),r<=n->jN bk p6 p7 t->t[23]?=some (.int .i64 n)->t[24]?=some (.int .i64 ((n:Int) - r))->(St b ρ wl pv bv tv B lb l6 l7 bk p6 p7 cN cL n NB wB) M w->
  Walk Afr true (StopA (Pm.mk Afr n N0 cL cN eU X0 End) r) M (rg 38 t [.code uE,.inLoop uE,.inBlock 0,.code vZ] [] .normal cs) w:=by
 intro r;induction r with
 |zero=>
  intro t M w hr hs t23 t24 hS;rw[Rk];refine fF (gH ?_)
  rw[s6];obtain⟨o,ho,bG,hd,hg⟩:=SE;refine du ho (cf hg) rfl (λaa _=>⟨_,I3 t aa bG (cJ t24) (cJ t23),cS⟩) ?_
  rw[hd];have cZ:jN bk p6 p7 (ay t (some 25) (.bool (decide ((n:Int) - ((0:Nat):Int)<n)))):=hs.put ⟨by omega,by omega,by omega⟩
  have xy:(ay t (some 25) (.bool (decide ((n:Int) - ((0:Nat):Int)<n)))).getD 25 Aeq=.bool false:=
   (ib (by rw[hs.sz];omega)).trans (congrArg Value.bool (by simp))
  revert cZ xy
  generalize ay t (some 25) (.bool (decide ((n:Int) - ((0:Nat):Int)<n)))=t1;intro cZ xy;refine iA (fF (BM (q:=false) xy ?_))
  refine Qm (k':=[.code vZ]) rfl ?_
  rw[akc];refine fF (gH ?_)
  rw[ET];obtain⟨o,ho,bG,hd,hg⟩:=ahu;refine du ho (cf hg) rfl (λaa _=>⟨_,(Pz t1 aa bG).trans (by rw[vs3 cZ.t1 cZ.t7 cZ.t6]),cS⟩) ?_
  rw[hd];have Ms:(ay t1 (some 29) (.func (.func 124) #[] #[.pointer (some ⟨bk,0,none⟩),.pointer (some ⟨p7,0,none⟩),.pointer (some ⟨p6,0,none⟩)])).getD 29 Aeq=.func (.func 124) #[] #[.pointer (some ⟨bk,0,none⟩),.pointer (some ⟨p7,0,none⟩),.pointer (some ⟨p6,0,none⟩)]:=ib (by rw[cZ.sz];omega)
  have dD:jN bk p6 p7 (ay t1 (some 29) (.func (.func 124) #[] #[.pointer (some ⟨bk,0,none⟩),.pointer (some ⟨p7,0,none⟩),.pointer (some ⟨p6,0,none⟩)])):=cZ.put ⟨by omega,by omega,by omega⟩
  revert Ms dD
  generalize ay t1 (some 29) (.func (.func 124) #[] #[.pointer (some ⟨bk,0,none⟩),.pointer (some ⟨p7,0,none⟩),.pointer (some ⟨p6,0,none⟩)])=t2;intro Ms dD;refine .stop λaa hk=>?_
  obtain⟨o,ho,bG,hd,hg⟩:=ahv;have fU:=hS.keep hk;obtain⟨bc,e,fb,A,c,ae,ak⟩:=fU.hb;refine⟨rfl,_,_,Xz (k:=[.code (.seq (.region 11 Bf false) ub)]) ho (cf hg) rfl (by simp) (WO t2 aa bG Ms),rfl,rfl,?_,?_⟩
  ·exact closer (.inr fU.mb) (.inr fU.m6) (.inr fU.m7) ae ak fU.h6 fU.h7 hn
  ·rw[hd]
   exact iA (cont _ _ _ dD fU.shared)
 |succ r ih=>
  intro t M w hr hs t23 t24 hS;rw[Rk];refine fF (gH ?_)
  rw[s6];obtain⟨o,ho,bG,hd,hg⟩:=SE;refine du ho (cf hg) rfl (λaa _=>⟨_,I3 t aa bG (cJ t24) (cJ t23),cS⟩) ?_
  rw[hd];have cZ:jN bk p6 p7 (ay t (some 25) (.bool (decide ((n:Int) - ((r+1:Nat):Int)<n)))):=hs.put ⟨by omega,by omega,by omega⟩
  have xy:(ay t (some 25) (.bool (decide ((n:Int) - ((r+1:Nat):Int)<n)))).getD 25 Aeq=.bool true:=
   (ib (by rw[hs.sz];omega)).trans (congrArg Value.bool (by have:(n:Int) - ((r+1:Nat):Int)<n:=by omega
                                                            exact decide_eq_true this))
  have xx:(ay t (some 25) (.bool (decide ((n:Int) - ((r+1:Nat):Int)<n))))[23]?=some (.int .i64 n):=(bL (by omega)).trans t23
  have Da:(ay t (some 25) (.bool (decide ((n:Int) - ((r+1:Nat):Int)<n))))[24]?=some (.int .i64 ((n:Int) - ((r+1:Nat):Int))):=(bL (by omega)).trans t24
  revert cZ xy xx Da
  generalize ay t (some 25) (.bool (decide ((n:Int) - ((r+1:Nat):Int)<n)))=t1;intro cZ xy xx Da;obtain⟨i,hi⟩:∃i,i=n - (r+1):=⟨_,rfl⟩
  have bu:(n:Int) - ((r+1:Nat):Int)=(i:Int):=by omega
  rw[bu] at Da;refine iA (fF (BM (q:=true) xy ?_))
  refine Qq (fF (BL (fF (gH ?_))))
  rw[s7];obtain⟨o,ho,bG,hd,hg⟩:=m70;have e24:aS t1 (.tmp 24)=.int .i64 i:=cJ Da;refine du ho (cf hg) rfl (λaa _=>⟨_,(run_move t1 aa bG).trans (by rw[e24]),cS⟩) ?_
  rw[hd];have dD:jN bk p6 p7 (ay t1 (some 26) (.int .i64 i)):=cZ.put ⟨by omega,by omega,by omega⟩
  have OD:(ay t1 (some 26) (.int .i64 i))[26]?=some (.int .i64 i):=tY (by rw[cZ.sz];omega)
  have OB:(ay t1 (some 26) (.int .i64 i))[23]?=some (.int .i64 n):=(bL (by omega)).trans xx
  have OC:(ay t1 (some 26) (.int .i64 i))[24]?=some (.int .i64 i):=(bL (by omega)).trans Da
  revert dD OD OB OC
  generalize ay t1 (some 26) (.int .i64 i)=t2;intro dD OD OB OC;obtain⟨o,ho,bG,hd,hg⟩:=m71;obtain⟨ti,lU,hz,il⟩:=Ig;refine BN ho (cf hg) rfl λaa hk=>?_
  have fU:=hS.keep hk;refine⟨_,_,_,.inl (Py t2 bG lU hz rfl aa),xe,?_⟩
  rw[hd];have Dg:=fU.alloc (.cells #[.int .i64 0] 3);obtain⟨pk,AD⟩:∃pk,pk=aa.heap.size:=⟨_,rfl⟩
  have xU:∀a,¬ρ a pk:=λa ha=>by have:=fU.lw.core.dc a pk ha;omega
  have zZ:(M.grow aa (aa.alloc (.cells #[.int .i64 0] 3))).O pk:=.inr ⟨by omega,by rw[fa];omega⟩
  have Dd:(aa.alloc (.cells #[.int .i64 0] 3)).heap[pk]?=some (.cells #[.int .i64 0] 3):=by rw[AD];exact jO
  rw[<-AD];have gQ:jN bk p6 p7 (ay t2 (some 8) (.pointer (some ⟨pk,0,none⟩))):=dD.put ⟨by omega,by omega,by omega⟩
  have q8:(ay t2 (some 8) (.pointer (some ⟨pk,0,none⟩)))[8]?=some (.pointer (some ⟨pk,0,none⟩)):=tY (by rw[dD.sz];omega)
  have sa:(ay t2 (some 8) (.pointer (some ⟨pk,0,none⟩)))[26]?=some (.int .i64 i):=(bL (by omega)).trans OD
  have tX:(ay t2 (some 8) (.pointer (some ⟨pk,0,none⟩)))[23]?=some (.int .i64 n):=(bL (by omega)).trans OB
  have r8:(ay t2 (some 8) (.pointer (some ⟨pk,0,none⟩)))[24]?=some (.int .i64 i):=(bL (by omega)).trans OC
  revert gQ q8 sa tX r8
  generalize ay t2 (some 8) (.pointer (some ⟨pk,0,none⟩))=t3;intro gQ q8 sa tX r8
  revert Dg zZ Dd
  generalize M.grow aa (aa.alloc (.cells #[.int .i64 0] 3))=M2;generalize aa.alloc (.cells #[.int .i64 0] 3)=w2;intro Dg zZ Dd;obtain⟨o,ho,bG,hd,hg⟩:=m72;refine BN ho (cf hg) rfl λky fh=>?_
  have MF:=Dg.keep fh;have T7:=(fh.kept pk (.inl zZ)).trans Dd;refine⟨Aeq,jh ky pk (.cells #[.int .i64 i] 3 (0,0)),_,.inr ⟨rfl,PC t3 bG (cJ q8) (cJ sa) rfl rfl lU il ky T7⟩,LZ zZ,?_⟩
  rw[hd,GQ];have aw:∀q,M2.has q->q≠pk->(jh ky pk (.cells #[.int .i64 i] 3 (0,0))).heap[q]?=ky.heap[q]?:=λq _ hq=>wa (Ne.symm hq)
  have afn:pk<ky.heap.size:=(Aaf.1 T7).1
  have vE:(jh ky pk (.cells #[.int .i64 i] 3 (0,0))).heap[pk]?=some (.cells #[.int .i64 i] 3 (0,0)):=PM afn;have tq:NB<=pk:=by have:=fU.nb;omega
  have fI:p6≠pk:=by have:=fU.low _ fU.m6;omega
  have jx:p7≠pk:=by have:=fU.low _ fU.m7;omega
  have jS:bk≠pk:=by have:=fU.low _ fU.mb;omega
  have MG:(St b ρ wl pv bv tv B lb l6 l7 bk p6 p7 cN cL n NB wB) M2 (jh ky pk (.cells #[.int .i64 i] 3 (0,0))):=by
   obtain⟨⟨core,gL,nb,has,fixed,rb,r6,r7,hB,book,c0,c1,c2,c3⟩,low,m6,m7,mb,h6,h7,⟨bc,e,fb,A,c,ae,ak⟩,old,gy,nc,lc⟩:=MF;exact⟨⟨ta core (by rw[qS];omega) λa q hq=>aw q (has a q hq) (by rintro rfl;exact xU a hq),gL,nb,has,fixed,rb,r6,r7,hB,book,c0,c1,c2,c3⟩,λq hq=>by rw[qS];exact low q hq,m6,m7,mb,(aw _ m6 fI).trans h6,(aw _ m7 jx).trans h7,
    ⟨bc,e,fb,A,c,(aw _ mb jS).trans ae,ak⟩,λq hq=>⟨(old q hq).1,(aw q (old q hq).1 (by omega)).trans (old q hq).2⟩,by rw[qS];exact gy,nc,by rw[qS];exact lc⟩
  revert MG vE
  generalize jh ky pk (.cells #[.int .i64 i] 3 (0,0))=w4;intro vE MG;refine iA (gH ?_)
  rw[s8];obtain⟨o,ho,bG,hd,hg⟩:=m80;refine du ho (cf hg) rfl (λaa _=>⟨_,(Pz _ aa bG).trans (by rw[vs4 (t:=ay t3 none Aeq) gQ.t7 gQ.t1 q8 gQ.t6]),cS⟩) ?_
  rw[hd];have Mr:(ay t3 (some 27) (.func (.func 120) #[] #[.pointer (some ⟨p7,0,none⟩),.pointer (some ⟨bk,0,none⟩),.pointer (some ⟨pk,0,none⟩),.pointer (some ⟨p6,0,none⟩)])).getD 27 Aeq=.func (.func 120) #[] #[.pointer (some ⟨p7,0,none⟩),.pointer (some ⟨bk,0,none⟩),.pointer (some ⟨pk,0,none⟩),.pointer (some ⟨p6,0,none⟩)]:=ib (by rw[gQ.sz];omega)
  have tK:jN bk p6 p7 (ay t3 (some 27) (.func (.func 120) #[] #[.pointer (some ⟨p7,0,none⟩),.pointer (some ⟨bk,0,none⟩),.pointer (some ⟨pk,0,none⟩),.pointer (some ⟨p6,0,none⟩)])):=gQ.put ⟨by omega,by omega,by omega⟩
  have z23:(ay t3 (some 27) (.func (.func 120) #[] #[.pointer (some ⟨p7,0,none⟩),.pointer (some ⟨bk,0,none⟩),.pointer (some ⟨pk,0,none⟩),.pointer (some ⟨p6,0,none⟩)]))[23]?=some (.int .i64 n):=(bL (by omega)).trans tX
  have z24:(ay t3 (some 27) (.func (.func 120) #[] #[.pointer (some ⟨p7,0,none⟩),.pointer (some ⟨bk,0,none⟩),.pointer (some ⟨pk,0,none⟩),.pointer (some ⟨p6,0,none⟩)]))[24]?=some (.int .i64 i):=(bL (by omega)).trans r8
  show Walk Afr true (StopA (Pm.mk Afr n N0 cL cN eU X0 End) (r+1)) M2 (rg 38 (ay t3 (some 27) (.func (.func 120) #[] #[.pointer (some ⟨p7,0,none⟩),.pointer (some ⟨bk,0,none⟩),.pointer (some ⟨pk,0,none⟩),.pointer (some ⟨p6,0,none⟩)])) _ _ _ _) w4
  revert Mr tK z23 z24
  generalize ay t3 (some 27) (.func (.func 120) #[] #[.pointer (some ⟨p7,0,none⟩),.pointer (some ⟨bk,0,none⟩),.pointer (some ⟨pk,0,none⟩),.pointer (some ⟨p6,0,none⟩)])=t4;intro Mr tK z23 z24;refine .stop λang DF=>?_
  obtain⟨o,ho,bG,hd,hg⟩:=m81;have TR:=MG.keep DF;have Oh:=(DF.kept pk (.inl zZ)).trans vE;refine⟨rfl,_,_,Xz ho (cf hg) rfl (by simp) (WO t4 ang bG Mr),rfl,rfl,?_,?_⟩
  ·show Walk Afr false (W1 (Pm.mk Afr n N0 cL cN eU X0 End) (n - (r+1))) _ _ _
   rw[<-hi];exact alE vt ab TR (.inl zZ) Oh xU
  ·rw[hd]
   refine iA (Qn (gH ?_))
   rw[s9];obtain⟨o,ho,bG,hd,hg⟩:=m90;refine du ho (cf hg) rfl (λaa _=>⟨_,WL t4 aa bG (cJ z24) rfl,cS⟩) ?_
   rw[hd];obtain⟨o,ho,bG,hd,hg⟩:=m91;have Ec:Adf.wrap ((i:Int)+1)=(n:Int) - r:=by rw[wrap_small (by omega) (by omega)];omega
   rw[Ec];have AJ:jN bk p6 p7 (ay t4 (some 28) (.int .i64 ((n:Int) - r))):=tK.put ⟨by omega,by omega,by omega⟩
   have y28:aS (ay t4 (some 28) (.int .i64 ((n:Int) - r))) (.tmp 28)=.int .i64 ((n:Int) - r):=ib (by rw[tK.sz];omega)
   refine du ho (cf hg) rfl (λaa _=>⟨_,(run_move _ aa bG).trans (congrArg (λv=>((Result.ok (Next.value v) aa,#[]):Result Next×Array Abd)) y28),cS⟩) ?_
   rw[hd];refine iA (Qo ?_)
   exact ih _ _ _ (by omega) (AJ.put ⟨by omega,by omega,by omega⟩) ((bL (by omega)).trans ((bL (by omega)).trans z23)) (tY (by have:=AJ.sz;show 24<(ay t4 (some 28) (.int .i64 ((n:Int) - r))).size;omega)) TR.shared
end
end Go.Jn
namespace Go.Jn
open Go Go.Proofs Go.Sim Go.Conc Go.Tw
def Mb(ρ:Ren)(t:Array Value):∃u:Array Value,aP ρ u t:=by
 refine⟨Ajm λi:Fin t.size=>Aa2 (rB ρ t[i.1]),by simp,λi h1 h2=>?_⟩
 rw[Ajn];exact Aa3 (rB ρ t[i])
def SR{ρ:Ren}{u t:Array Value}(h:aP ρ u t){i:Nat}{v v':Value}(hv:ah ρ v v')(ht:t[i]?=some v'):aP ρ (u.setIfInBounds i v) t:=by
 refine⟨by simp[h.1],λj h1 h2=>?_⟩
 rw[Array.getElem_setIfInBounds (by simpa using h1)]
 split
 ·rename_i e
  subst e;rw[Aeg h2] at ht
  rw[Aea ht];exact hv
 ·exact h.2 j (by simpa using h1) h2
def akq(t:Array Value)(w:Abc){o:Ajs}{n:Nat}{v:Value}(ho:o.op=.buildSlice 33 1 #[(0,.tmp n)])(hn:t.getD n Aeq=v)(hv:v.cells=#[v]):
 (execOp (aS t) o).runT Afr w #[]=(.ok (.value (.slice (some ⟨w.heap.size,0,none⟩) 1 1)) (w.alloc (.cells #[v] 3)),#[]):=by
 have e1:aS t (.tmp n)=v:=hn;obtain⟨i,hi,hz,hs⟩:=Ig;have hu:Afr.underlying 33=some (.slice 3):=rfl;have hb:(Instr.buildSlice 33 1 #[(0,v)]).runT Afr w #[]=(.ok (.slice (some ⟨w.heap.size,0,none⟩) 1 1) (w.alloc (.cells #[v] 3)),#[]):=by
  have e3:¬ (1 * 1>2 ^ 24):=by decide
  have e4:¬ (1 * 1=0):=by decide
  simp only[Instr.buildSlice,Go.underlying,Go.program,Go.typeInfo,Go.sizeOf,Go.zeroValue,bind,Adt,Ads,pure,hu,hi,hs,hz,if_neg e3,if_neg e4,newRow,newObj,World.alloc];generalize hq:Instr.fill _ _ _=q;have h2:q=some #[v]:=by
   have e2:Array.range (1 * 1)=#[0]:=rfl;rw[<-hq,e2];simp[Instr.fill,hv]
  rw[h2];rfl
 unfold execOp;rw[ho]
 have e5:(#[(0,Operand.tmp n)].map λ(i,x)=>(i,aS t x))=#[(0,v)]:=by simp only[Akb,Akc,Akd,e1]
 show((Instr.buildSlice 33 1 (#[(0,Operand.tmp n)].map λ(i,x)=>(i,aS t x))).bind λv=>Aj6 (Next.value v)).runT Afr w #[]=_
 rw[e5,pA,hb];rfl
def Wv{C:bQ}{ρ:Ren}{wl w:Abc}(hW:bV C ρ wl w){base NR n:Nat}{v v':Value}{xs:List Int}(hv:ah ρ v v')(h:wl.ownsRow base 3 1 v n (xs.map (Afx .i64)))(hn:n≠0)(hb:∀a q,base<=a->ρ a q->NR<=q):
 w.ownsRow NR 3 1 v' n (xs.map (Afx .i64))/\∃a q cap,v=.slice (some ⟨a,0,none⟩) n cap/\v'=.slice (some ⟨q,0,none⟩) n cap/\ρ a q/\∃cur,wl.heap[a]?=some (.cells cur 3 (0,0))/\cur.size≠0:=by
 obtain⟨hl,hc⟩:=h;rcases hc with⟨_,rfl⟩ | ⟨g,cap,cur,rfl,nC,hg,dX,kZ,fg,lT⟩
 ·exact absurd rfl hn
 ·cases hv with
  |sliceDead=>exact absurd rfl hn
  |slice _ _ ha=>
   rename_i q;obtain⟨qb,qo,qs⟩:=q;obtain⟨h1,h2,h3⟩:=ha;simp only at h1 h2 h3;subst h2 h3;obtain⟨o',oB,hr⟩:=hW.obj _ _ _ h1 hg;cases hr with
   | @cells _ c' _ _ aV hc hf=>
     have b7:aV=(0,0):=by
      rcases hf with hf|hf
      ·exact hf
      ·obtain⟨_,hf⟩:=hf
       have:cur.size<=0:=hf;omega
     subst b7;refine⟨⟨hl,.inr ⟨qb,cap,c',rfl,hb _ _ nC h1,oB,dX,kZ,hc.1.symm.trans fg,?_⟩⟩,_,_,_,rfl,rfl,h1,cur,hg,by omega⟩
     apply List.ext_getElem?;intro j;rw[<-lT];rw[Ai9,Ai9]
     split
     ·rename_i hj
      rw[Agw,Agw]
      rcases hc.get? j with⟨e1,e2⟩ | ⟨x,y,e1,e2,e3⟩
      ·rw[e1,e2]
      ·rw[e1,e2]
       have hx:(cur.toList.take (n * 1))[j]?=some x:=by rw[Ai9,if_pos hj,Agw,e1]
       rw[lT] at hx;rw[Ahy] at hx
       obtain⟨z,_,rfl⟩:=Ags.1 hx;cases e3;rfl
     ·rfl
end Go.Jn
namespace Go.Jn
open Go Go.Proofs Go.Sim Go.Conc Go.Tw
def ahA:∃o,qP[0]?=some o/\o.op=.move (.tmp 9)/\o.dst=some 34/\o.guard=none:=⟨_,rfl,rfl,rfl,rfl⟩
def ahB:∃o,qP[1]?=some o/\o.op=.move (.tmp 10)/\o.dst=some 35/\o.guard=none:=⟨_,rfl,rfl,rfl,rfl⟩
def ahC:∃o,qP[2]?=some o/\o.op=.buildSlice 33 1 #[(0,.tmp 35)]/\o.dst=some 36/\o.guard=none:=⟨_,rfl,rfl,rfl,rfl⟩
def ahD:∃o,qP[3]?=some o/\o.op=.call {callee:=.builtin .append,args:=#[.tmp 34,.tmp 36],argTypes:=#[33,33]}/\o.dst=some 37/\o.guard=none:=⟨_,rfl,rfl,rfl,rfl⟩
def ahE:∃o,qP[4]?=some o/\o.op=.assign (.tmp 37)/\o.dst=some 9/\o.guard=none:=⟨_,rfl,rfl,rfl,rfl⟩
def s15:qP.size=5:=rfl
def ajp{id:Nat}{ops:Array Ajs}{d:Bool}(h:C0.clean (.region id ops d)){i:Nat}{o:Ajs}(ho:ops[i]?=some o):j7 Afr G0 o=true:=by
 have h:cr Afr G0 (.region id ops d)=true:=h;have h:ops.all (j7 Afr G0)=true:=by
  unfold cr at h;simpa using h
 exact Aal.1 h o (Aax ho)
def ako{P:Abe}{tl:Array Value}{w aa:Abc}{o:Ajs}{v v' x:Value}(ho:o.op=.call {callee:=.builtin .append,args:=#[.tmp 34,.tmp 36],argTypes:=#[33,33]})(Fi:tl.getD 34 Aeq=v)(Fj:tl.getD 36 Aeq=x)
 (hr:(Builtin.append_ #[33,33] o.type #[v,x]).run P w=.ok v' aa):(execOp (aS tl) o).run P w=.ok (.value v') aa:=by
 have e1:aS tl (.tmp 34)=v:=Fi;have e2:aS tl (.tmp 36)=x:=Fj;unfold execOp;rw[ho]
 simp only[resolve,Akb,Akc,Akd,e1,e2];show((Builtin.append_ #[33,33] o.type #[v,x]).bind λv=>Aj6 (Next.value v)).run P w=_
 rw[run_bind,hr];rfl
section
variable {b:ao}{ρ:Ren}{wl wB:Abc}{pv bv tv:Value}{B lb l6 l7 bk p6 p7 cN cL n N0 NB NR:Nat}
def St.to2{M M':Sim.aaa}{w bq:Abc}(h:(St b ρ wl pv bv tv B lb l6 l7 bk p6 p7 cN cL n NB wB) M w)(hr:∀a q,ρ a q->q<NR)(hN:NB<=NR)(hs:w.heap.size<=bq.heap.size)(hk:∀q,M.has q->q<NR->bq.heap[q]?=w.heap[q]?)(hM:∀q,M.has q->M'.has q)(hl:∀q,M'.has q->q<bq.heap.size)(hc:¬M'.has cN/\¬M'.has cL):(St b ρ wl pv bv tv B lb l6 l7 bk p6 p7 cN cL n NB wB) M' bq:=by
 obtain⟨⟨core,gL,nb,has,fixed,rb,r6,r7,hB,book,c0,c1,c2,c3⟩,low,m6,m7,mb,h6,h7,⟨bc,e,fb,A,c,ae,ak⟩,old,gy,nc,lc⟩:=h;exact⟨⟨ta core hs λa q hq=>hk q (has a q hq) (hr a q hq),gL,nb,λa q hq=>hM q (has a q hq),fixed,rb,r6,r7,hB,book,c0,c1,c2,c3⟩,hl,hM _ m6,hM _ m7,hM _ mb,(hk _ m6 (hr _ _ r6)).trans h6,(hk _ m7 (hr _ _ r7)).trans h7,⟨bc,e,fb,A,c,(hk _ mb (hr _ _ rb)).trans ae,ak⟩,
  λq hq=>⟨hM q (old q hq).1,(hk q (old q hq).1 (by omega)).trans (old q hq).2⟩,Ad5 gy hs,hc,Ad6 lc.1 hs,Ad6 lc.2 hs⟩
structure RI(NR:Nat)(az:List Nat)(t:Array Value)(M:Sim.aaa)(w:Abc):Prop where
 own:∃ov,t[9]?=some ov/\w.ownsRow NR 3 1 ov az.length ((az.map λi:Nat=>(i:Int)).map (Afx .i64))/\∀g k c,ov=.slice (some g) k c->M.O g.block
 le:NR<=w.heap.size
 nz:az=[]->t[9]?=some (.slice none 0 0)
def Pb{w aa:Abc}{base n:Nat}{v:Value}{xs:List Value}(h:w.ownsRow base 3 1 v n xs)(hk:∀g k c,v=.slice (some g) k c->aa.heap[g.block]?=w.heap[g.block]?):aa.ownsRow base 3 1 v n xs:=by
 refine⟨h.1,?_⟩
 rcases h.2 with h0| ⟨g,cap,cur,rfl,nC,hg,h4⟩
 ·exact .inl h0
 ·exact .inr ⟨g,cap,cur,rfl,nC,(hk _ _ _ rfl).trans hg,h4⟩
def RI.keep{az:List Nat}{t t':Array Value}{M:Sim.aaa}{w aa:Abc}(h:RI NR az t M w)(k:bN M w aa)(ht:t'[9]?=t[9]?):RI NR az t' M aa:=by
 obtain⟨⟨ov,h1,h2,h3⟩,hle,hz⟩:=h;exact⟨⟨ov,ht.trans h1,Pb h2 λg k' c e=>k.kept _ (.inl (h3 g k' c e)),h3⟩,Ad5 hle k.size,λe=>ht.trans (hz e)⟩
def Pt(ρ:Ren)(c:Array Value)(m:Nat)(xs:List Int)(h:c.toList.take (m * 1)=xs.map (Afx .i64)):∃u:Array Value,aP ρ u c/\u.toList.take (m * 1)=xs.map (Afx .i64):=by
 have key:∀i:Fin c.size,∃u,ah ρ u c[i.1]/\(i.1<m->u=c[i.1]):=by
  intro i;by_cases hi:i.1<m
  ·have hx:(c.toList.take (m * 1))[i.1]?=some c[i.1]:=by
    rw[Ai9,if_pos (by omega),Agw,Aeg i.2]
   rw[h,Ahy] at hx
   obtain⟨z,_,e⟩:=Ags.1 hx;exact⟨c[i.1],by rw[<-e];exact .int _ _,λ_=>rfl⟩
  ·obtain⟨u,hu⟩:=rB ρ c[i.1]
   exact⟨u,hu,λh=>absurd h hi⟩
 refine⟨Ajm λi=>Aa2 (key i),⟨by simp,λi h1 h2=>?_⟩,?_⟩
 ·rw[Ajn]
  exact(Aa3 (key ⟨i,h2⟩)).1
 ·rw[<-h]
  apply List.ext_getElem?;intro j;rw[Ai9,Ai9]
  split
  ·rename_i hj
   rw[Agw,Agw,Ajo]
   split
   ·rename_i al
    rw[(Aa3 (key ⟨j,al⟩)).2 (by simpa using hj),Aeg al]
   ·rename_i al
    rw[Aan (by omega)]
  ·rfl
end
end Go.Jn
namespace Go.Jn
open Go Go.Proofs Go.Sim Go.Conc Go.Tw
def af9:∃i,Afr.info? 3=some i/\i.zero=some (.int .i64 0)/\i.size=1/\i.bytes=8:=⟨_,rfl,rfl,rfl,rfl⟩
def ints(az:List Nat):List Int:=az.map λi:Nat=>(i:Int)
def agj(az:List Nat)(i:Nat):(ints az).map (Afx .i64)++ [.int .i64 i]=(ints (az++ [i])).map (Afx .i64):=by simp[ints]
section
variable {b:ao}{ρ:Ren}{wl wB:Abc}{pv bv tv:Value}{B lb l6 l7 bk p6 p7 cN cL n N0 NB NR:Nat}
def ag4{M:Sim.aaa}{w:Abc}(h:(St b ρ wl pv bv tv B lb l6 l7 bk p6 p7 cN cL n NB wB) M w)(hr:∀a q,ρ a q->q<NR){az:List Nat}{ov:Value}{q i:Nat}(ho:w.ownsRow NR 3 1 ov az.length ((ints az).map (Afx .i64)))(hO:∀g k c,ov=.slice (some g) k c->M.O g.block/\g.block≠q)
 (hq:w.heap[q]?=some (.cells #[.int .i64 i] 3))(AE:M.O q)(Hw:NR<=q):
 ∃(bM:Ren) (fR:Abc) (ol:Value) (lq:Nat),bV C0 bM fR w/\ρ.le bM/\(∀a p,bM a p->ρ a p\/(wl.heap.size<=a/\NR<=p/\M.O p))/\ah bM ol ov/\fR.ownsRow wl.heap.size 3 1 ol az.length ((ints az).map (Afx .i64))/\bM lq q/\
  fR.heap[lq]?=some (.cells #[.int .i64 i] 3)/\(∀(a:Nat) (o:Obj),wl.heap[a]?=some o->fR.heap[a]?=some o)/\wl.heap.size<=fR.heap.size:=by
 have eJ:=uP (o:=.cells #[.int .i64 i] 3) h.lw.core hq (λa ha=>by have:=hr a q ha;omega) (.cells 3 ⟨rfl,λj h1 h2=>by
  have:j=0:=by simp at h1;omega
  subst this;exact .int _ _⟩ (.inl rfl))
 rcases ho.2 with⟨rfl,h0⟩ | ⟨g,cap,cur,rfl,nC,hg,dX,kZ,fg,lT⟩
 ·refine⟨_,_,.slice none 0 0,_,eJ,xj _ _ _,?_,.sliceNone 0 0,⟨ho.1,.inl ⟨rfl,h0⟩⟩,.inr ⟨rfl,rfl⟩,jO,λa o ha=>(kB (Aaf.1 ha).1).trans ha,by rw[fa];omega⟩
  rintro a p (ha| ⟨rfl,rfl⟩)
  ·exact .inl ha
  ·exact .inr ⟨Ad4 _,Hw,AE⟩
 ·obtain⟨Ul,Um⟩:=hO _ _ _ rfl
  simp only at Ul Um;obtain⟨u,hu,D9⟩:=Pt (ext (ext ρ wl.heap.size q) (wl.alloc (.cells #[.int .i64 i] 3)).heap.size g) cur az.length (ints az) lT;have jw:=uP (o:=.cells u 3) eJ hg (λa ha=>by
   rcases ha with ha| ⟨_,e⟩
   ·have:=hr a g ha;omega
   ·exact Um e) (.cells 3 hu (.inl rfl))
  refine⟨_,_,.slice (some ⟨(wl.alloc (.cells #[.int .i64 i] 3)).heap.size,0,none⟩) az.length cap,wl.heap.size,jw,Ren.le_trans (xj _ _ _) (xj _ _ _),?_,.slice _ _ ⟨.inr ⟨rfl,rfl⟩,rfl,rfl⟩,⟨ho.1,.inr ⟨_,cap,u,rfl,by rw[fa];omega,jO,dX,kZ,hu.1.trans fg,D9⟩⟩,.inl (.inr ⟨rfl,rfl⟩),(kB (by rw[fa];omega)).trans jO,
   λa o ha=>(kB (by rw[fa];have:=(Aaf.1 ha).1;omega)).trans ((kB (Aaf.1 ha).1).trans ha),by rw[fa,fa];omega⟩
  rintro a p ((ha| ⟨rfl,rfl⟩) | ⟨rfl,rfl⟩)
  ·exact .inl ha
  ·exact .inr ⟨Ad4 _,Hw,AE⟩
  ·exact .inr ⟨by rw[fa];omega,nC,Ul⟩
def ac9{c:Array Value}(hc:c.size≠0):¬lC (.cells c 3 (0,0)):=by
 rintro⟨_,h⟩;have h:c.size<=0:=h;omega
def amX{Stop:Sim.aaa->Abo->Abc->Prop}{main:Bool}{M:Sim.aaa}{w:Abc}(h:(St b ρ wl pv bv tv B lb l6 l7 bk p6 p7 cN cL n NB wB) M w)(hr:∀a q,ρ a q->q<NR)(hN:NB<=NR)(Df:NR<=w.heap.size){az:List Nat}(qm:az.length<=1000){ov:Value}{q i:Nat}(ho:w.ownsRow NR 3 1 ov az.length ((ints az).map (Afx .i64)))(hO:∀g k c,ov=.slice (some g) k c->M.O g.block/\g.block≠q)
 (hq:w.heap[q]?=some (.cells #[.int .i64 i] 3))(AE:M.O q)(Hw:NR<=q){t:Array Value}(t34:t[34]?=some ov)(t36:t[36]?=some (.slice (some ⟨q,0,none⟩) 1 1)){k:List Ajq}{cs:List Abn}{rest:List Nat}
 (cont:∀v' bS aA,(St b ρ wl pv bv tv B lb l6 l7 bk p6 p7 cN cL n NB wB) bS aA->aA.ownsRow NR 3 1 v' (az++ [i]).length ((ints (az++ [i])).map (Afx .i64))->(∀g k c,v'=.slice (some g) k c->bS.O g.block)->NR<=aA.heap.size->Walk Afr main Stop bS (rg 38 (ay t (some 37) v') (.inRegion qP rest::k) [] .normal cs) aA):
 Walk Afr main Stop M (rg 38 t (.inRegion qP (3::rest)::k) [] .normal cs) w:=by
 obtain⟨bM,fR,ol,lq,hW,hle,hinv,hv,aG,hlq,hcq,hold,aI⟩:=ag4 h hr ho hO hq AE Hw;obtain⟨u0,EX⟩:=Mb bM t;have Od:=SR EX hv t34;have hu2:=SR Od (i:=36) (v:=.slice (some ⟨lq,0,none⟩) 1 1) (v':=.slice (some ⟨q,0,none⟩) 1 1) (.slice 1 1 ⟨hlq,rfl,rfl⟩) t36;have afx:34<t.size:=(Aaf.1 t34).1
 have afy:36<t.size:=(Aaf.1 t36).1
 have l36:((u0.setIfInBounds 34 ol).setIfInBounds 36 (.slice (some ⟨lq,0,none⟩) 1 1)).getD 36 Aeq=.slice (some ⟨lq,0,none⟩) 1 1:=cJ (tY (by rw[Aej,EX.1];exact afy))
 have l34:((u0.setIfInBounds 34 ol).setIfInBounds 36 (.slice (some ⟨lq,0,none⟩) 1 1)).getD 34 Aeq=ol:=cJ ((bL (by omega)).trans (tY (by rw[EX.1];exact afx)))
 obtain⟨o,oB,ab,hd,hg⟩:=ahD;obtain⟨ti,lU,hz,hs,ES⟩:=af9;have hf:Fits M bM fR:=by
  intro a p hp;rcases hinv a p hp with hp| ⟨_,_,hp⟩
  ·obtain⟨o,h1,h2⟩:=h.lw.fixed a p hp
   rcases h.lw.has a p hp with hx|hx
   ·exact .inl hx
   ·exact .inr ⟨hx,o,hold a o h1,h2⟩
  ·exact .inl hp
 refine Yb (M:=M) (ρ:=bM) (wl:=fR) (QL:=λv aa=>aa.ownsRow wl.heap.size 3 1 v (az++ [i]).length ((ints (az++ [i])).map (Afx .i64))) GJ oB (cf hg) rfl (ajp aar oB) hu2 hW (λg oy=>?_) hf h.low (λT=>?_) ?_
 ·have:g=0:=by simpa [G0] using oy
  subst this;exact hle _ _ h.lw.gL
 ·have au:(aZ fR T).cell? ⟨lq,0,none⟩=some (.int .i64 i):=lL (w:=aZ fR T) hcq rfl rfl
  obtain⟨v',w',h1,h2,h3,h4⟩:=run_append_own (P:=tw Afr (@Tw.F iQ)) (w:=aZ fR T) wl.heap.size 33 o.type 3 ti (.int .i64 0) 1 8 (by rw[jH];rfl) (by rw[ly];exact lU) hz hs ES rfl (by omega) ol az.length ((ints az).map (Afx .i64)) aG ⟨lq,0,none⟩ 1 1 [.int .i64 i] rfl
   (λj u hu=>by
     cases j with
     |zero=>simp at hu;subst hu;exact au
     |succ j=>simp at hu) (λu hu=>by simp at hu;subst hu;rfl) (by unfold Aes;omega) (by omega) aI
  refine⟨v',w',ako ab l34 l36 h1,?_⟩
  rw[agj] at h2;rw[List.length_append];exact h2
 ·intro v v' wy aE bS aA tH vC eJ bY gM DM
  have hb:∀a p,wl.heap.size<=a->aE a p->NR<=p:=by
   intro a p ha hp;rcases bY.new a p hp with hp| ⟨_,hp⟩
   ·rcases hinv a p hp with hp| ⟨_,hp,_⟩
    ·have:=h.lw.core.dA a p hp;omega
    ·exact hp
   ·omega
  obtain⟨cK,a1,q1,anH,rfl,rfl,ye,anO,ff,ic⟩:=Wv eJ vC tH (by simp) hb
  have kept:∀p,M.has p->p<NR->aA.heap[p]?=w.heap[p]?:=by
   intro p hp al;refine bY.im p hp λa ha=>?_
   rcases hinv a p ha with ha| ⟨_,hx,_⟩
   ·obtain⟨o,h1,h2⟩:=h.lw.fixed a p ha
    exact⟨o,hold a o h1,h2⟩
   ·omega
  have nc:∀c,¬M.has c->c<w.heap.size->¬bS.has c:=by
   intro c h1 h2 hx;rcases hx with hx|hx
   ·rcases bY.On c hx with hx| ⟨hx,_⟩
    ·exact h1 (.inl hx)
    ·omega
   ·rw[bY.R] at hx;exact h1 (.inr hx)
  have fU:(St b ρ wl pv bv tv B lb l6 l7 bk p6 p7 cN cL n NB wB) bS aA:=h.to2 hr hN bY.fQ kept (λp hp=>aaa.tx bY.R bY.O hp) DM ⟨nc _ h.nc.1 h.lc.1,nc _ h.nc.2 h.lc.2⟩
  rw[hd];refine cont _ bS aA fU cK (λg k c e=>?_) (Ad5 Df bY.fQ)
  cases e;rcases gM _ _ ye with hx| ⟨_,o,Ht,fo⟩
  ·exact hx
  ·rw[ff] at Ht;cases Ht
   exact absurd fo (ac9 ic)
end
end Go.Jn
namespace Go.Jn
open Go Go.Proofs Go.Sim Go.Conc Go.Tw
def Co:Aa9:=a8 pR
def Gb:pR=.seq (.region 13 tU false) Co:=rfl
def Ri:Co=.seq (.cond (.tmp 32) .skip (.exit 2)) (.block 3 (.seq (.region 14 IL false) (.region 15 qP false))):=rfl
section
variable {b:ao}{ρ:Ren}{wl wB:Abc}{pv bv tv:Value}{B lb l6 l7 bk p6 p7 cN cL n N0 NB NR:Nat}{eU:Nat->Bool}{cs:List Abn}
def Kn(NR NB:Nat)(wB:Abc)(cs:List Abn)(az:List Nat)(M:Sim.aaa)(g:Abo)(w:Abc):Prop:=
 ∃(t:Array Value) (z:Value),g=rg 38 t [.inRegion tU [1],.code Co,.inLoop pR,.inBlock 2,.code re] [] .normal cs/\t.size=41/\t[31]?=some (.tuple #[z,.bool false])/\RI NR az t M w/\
  (∀q,q<NB->w.heap[q]?=wB.heap[q]?)/\NB<=w.heap.size
def Xh{t:Array Value}{v:Value}{ok:Bool}{k:List Ajq}:Ae2 (rg 38 t (.inRegion tU [0,1]::k) [] .normal cs) (recvd true v ok)=rg 38 (t.setIfInBounds 31 (.tuple #[v,.bool ok])) (.inRegion tU [1]::k) [] .normal cs:=by
 obtain⟨o,ho,ab,hd,hg⟩:=OS;simp[Ae2,Acf,ho,hd,recvd]
def SV{t:Array Value}{M:Sim.aaa}{w:Abc}{az:List Nat}{z:Value}(hs:t.size=41)(hR:RI NR az t M w)(hS:(St b ρ wl pv bv tv B lb l6 l7 bk p6 p7 cN cL n NB wB) M w):
 Kn NR NB wB cs az M (Ae2 (rg 38 t (.inRegion tU [0,1]:: [.code Co,.inLoop pR,.inBlock 2,.code re]) [] .normal cs) (recvd true z false)) w:=by
 refine⟨_,z,Xh,by simp[hs],tY (by omega),?_,λq hq=>(hS.old q hq).2,hS.nb⟩
 exact hR.keep (bN.refl M w) (bL (by omega))
def recvs(hr:∀a q,ρ a q->q<NR)(hN:NB<=NR)(hn:n<=1000):∀(f:Nat) (az:List Nat) (t:Array Value) (M:Sim.aaa) (w:Abc),f+az.length=n->t.size=41->t[30]?=some (.chan (some cN))->RI NR az t M w->(St b ρ wl pv bv tv B lb l6 l7 bk p6 p7 cN cL n NB wB) M w->
 Walk Afr true (nj (Pm.mk Afr n N0 cL cN eU X0 (Kn NR NB wB cs)) f az) M (rg 38 t [.code pR,.inLoop pR,.inBlock 2,.code re] [] .normal cs) w:=by
 intro f;induction f with
 |zero=>
  intro az t M w hf hs t30 hR hS;rw[Gb];refine fF (gH ?_)
  rw[WX];obtain⟨o,ho,ab,hd,hg⟩:=OS;obtain⟨dir,hu⟩:=BG;obtain⟨ti,lU,hz,_⟩:=Ig;rw[<-Gb];refine .stop λaa hk=>⟨rfl,rfl,_,FG ho (cf hg) rfl (PB t aa ab (cJ t30) hu lU hz),?_⟩
  exact SV hs (hR.keep hk rfl) (hS.keep hk)
 |succ f ih=>
  intro az t M w hf hs t30 hR hS;rw[Gb];refine fF (gH ?_)
  rw[WX];obtain⟨o,ho,ab,hd,hg⟩:=OS;obtain⟨dir,hu⟩:=BG;obtain⟨ti,lU,hz,_⟩:=Ig;rw[<-Gb];refine .stop λaa hk=>⟨rfl,rfl,_,FG ho (cf hg) rfl (PB t aa ab (cJ t30) hu lU hz),SV hs (hR.keep hk rfl) (hS.keep hk),λi hi UW aoF=>?_⟩
  show Walk Afr true (nj (Pm.mk Afr n N0 cL cN eU X0 (Kn NR NB wB cs)) f (az++ [i])) M (Ae2 (rg 38 t (.inRegion tU [0,1]:: [.code Co,.inLoop pR,.inBlock 2,.code re]) [] .normal cs) (recvd true (.int .i64 i) true)) aa;rw[Xh];have oq:=hR.keep (t':=t.setIfInBounds 31 (.tuple #[.int .i64 i,.bool true])) hk (bL (by omega))
  have fU:=hS.keep hk;have zX:(t.setIfInBounds 31 (.tuple #[.int .i64 i,.bool true]))[31]?=some (.tuple #[.int .i64 i,.bool true]):=tY (by omega)
  have Mt:(t.setIfInBounds 31 (.tuple #[.int .i64 i,.bool true]))[30]?=some (.chan (some cN)):=(bL (by omega)).trans t30
  have cZ:(t.setIfInBounds 31 (.tuple #[.int .i64 i,.bool true])).size=41:=by simp[hs]
  clear hR hS ho ab hd hg
  revert oq fU zX Mt cZ
  generalize t.setIfInBounds 31 (.tuple #[.int .i64 i,.bool true])=t1;generalize aa=w at *;intro oq fU zX Mt cZ;obtain⟨o,ho,ab,hd,hg⟩:=afd;refine du (v:=.bool true) ho (cf hg) rfl (λaa _=>⟨_,Ft t1 aa ab (cJ zX) rfl,cS⟩) ?_
  rw[hd];refine iA ?_
  rw[Ri];refine fF (BM (q:=true) (ib (by omega)) (Qq (BL (fF (gH ?_)))))
  rw[V5];have MB:=oq.keep (t':=ay t1 (some 32) (.bool true)) (bN.refl M w) (bL (by omega))
  have Ov:(ay t1 (some 32) (.bool true))[31]?=some (.tuple #[.int .i64 i,.bool true]):=(bL (by omega)).trans zX
  have Ou:(ay t1 (some 32) (.bool true))[30]?=some (.chan (some cN)):=(bL (by omega)).trans Mt
  have js:(ay t1 (some 32) (.bool true)).size=41:=by simp[ay,cZ]
  revert MB Ov Ou js
  generalize ay t1 (some 32) (.bool true)=t2;intro MB Ov Ou js;obtain⟨o,ho,ab,hd,hg⟩:=ahy;refine du (v:=.int .i64 i) ho (cf hg) rfl (λaa _=>⟨_,Ft t2 aa ab (cJ Ov) rfl,cS⟩) ?_
  rw[hd];have qR:=MB.keep (t':=ay t2 (some 33) (.int .i64 i)) (bN.refl M w) (bL (by omega))
  have OF:aS (ay t2 (some 33) (.int .i64 i)) (.tmp 33)=.int .i64 i:=ib (by omega)
  have yv:(ay t2 (some 33) (.int .i64 i))[30]?=some (.chan (some cN)):=(bL (by omega)).trans Ou
  have ks:(ay t2 (some 33) (.int .i64 i)).size=41:=by simp[ay,js]
  revert qR OF yv ks
  generalize ay t2 (some 33) (.int .i64 i)=t3;intro qR OF yv ks;obtain⟨o,ho,ab,hd,hg⟩:=ahz;refine du ho (cf hg) rfl (λaa _=>⟨_,(run_assign t3 aa ab).trans (by rw[OF]),cS⟩) ?_
  rw[hd];have MD:=qR.keep (t':=ay t3 (some 10) (.int .i64 i)) (bN.refl M w) (bL (by omega))
  have V8:aS (ay t3 (some 10) (.int .i64 i)) (.tmp 10)=.int .i64 i:=ib (by omega)
  have OX:(ay t3 (some 10) (.int .i64 i))[10]?=some (.int .i64 i):=tY (by omega)
  have n30:(ay t3 (some 10) (.int .i64 i))[30]?=some (.chan (some cN)):=(bL (by omega)).trans yv
  have ns:(ay t3 (some 10) (.int .i64 i)).size=41:=by simp[ay,ks]
  revert MD V8 OX n30 ns
  generalize ay t3 (some 10) (.int .i64 i)=t4;intro MD V8 OX n30 ns;obtain⟨⟨ov,u9,aG,hO⟩,hle,_⟩:=MD;refine iA (gH ?_)
  rw[s15];obtain⟨o,ho,ab,hd,hg⟩:=ahA;have e9:aS t4 (.tmp 9)=ov:=cJ u9;refine du ho (cf hg) rfl (λaa _=>⟨_,(run_move t4 aa ab).trans (by rw[e9]),cS⟩) ?_
  rw[hd];have Lj:(ay t4 (some 34) ov)[34]?=some ov:=tY (by omega)
  have Lh:aS (ay t4 (some 34) ov) (.tmp 10)=.int .i64 i:=cJ ((bL (by omega)).trans OX)
  have Li:(ay t4 (some 34) ov)[30]?=some (.chan (some cN)):=(bL (by omega)).trans n30
  have Ls:(ay t4 (some 34) ov).size=41:=by simp[ay,ns]
  revert Lj Lh Li Ls
  generalize ay t4 (some 34) ov=t5;intro Lj Lh Li Ls;obtain⟨o,ho,ab,hd,hg⟩:=ahB;refine du ho (cf hg) rfl (λaa _=>⟨_,(run_move t5 aa ab).trans (by rw[Lh]),cS⟩) ?_
  rw[hd];have LF:(ay t5 (some 35) (.int .i64 i))[34]?=some ov:=(bL (by omega)).trans Lj
  have jd:(ay t5 (some 35) (.int .i64 i)).getD 35 Aeq=.int .i64 i:=ib (by omega)
  have LD:(ay t5 (some 35) (.int .i64 i))[30]?=some (.chan (some cN)):=(bL (by omega)).trans Li
  have bh:(ay t5 (some 35) (.int .i64 i)).size=41:=by simp[ay,Ls]
  revert LF jd LD bh
  generalize ay t5 (some 35) (.int .i64 i)=t6;intro LF jd LD bh;obtain⟨o,ho,ab,hd,hg⟩:=ahC;refine BN ho (cf hg) rfl λaa dg=>⟨_,_,_,.inl (akq t6 aa ab jd rfl),xe,?_⟩
  rw[hd];have Dg:=(fU.keep dg).alloc (.cells #[.int .i64 i] 3);have yo:NR<=aa.heap.size:=Ad5 hle dg.size;have cK:=Pb (aa:=aa.alloc (.cells #[.int .i64 i] 3)) aG λg k c e=>(kB (Ad6 (fU.low _ (.inl (hO g k c e))) dg.size)).trans (dg.kept _ (.inl (hO g k c e)))
  have Pl:∀g k c,ov=.slice (some g) k c->(M.grow aa (aa.alloc (.cells #[.int .i64 i] 3))).O g.block/\g.block≠aa.heap.size:=λg k c e=>⟨.inl (hO g k c e),by have:=fU.low _ (.inl (hO g k c e));have:=dg.size;omega⟩
  have AE:(M.grow aa (aa.alloc (.cells #[.int .i64 i] 3))).O aa.heap.size:=.inr ⟨Ad4 _,by rw[fa];omega⟩
  have d34:(ay t6 (some 36) (.slice (some ⟨aa.heap.size,0,none⟩) 1 1))[34]?=some ov:=(bL (by omega)).trans LF
  have d36:(ay t6 (some 36) (.slice (some ⟨aa.heap.size,0,none⟩) 1 1))[36]?=some (.slice (some ⟨aa.heap.size,0,none⟩) 1 1):=tY (by omega)
  have d30:(ay t6 (some 36) (.slice (some ⟨aa.heap.size,0,none⟩) 1 1))[30]?=some (.chan (some cN)):=(bL (by omega)).trans LD
  have ds:(ay t6 (some 36) (.slice (some ⟨aa.heap.size,0,none⟩) 1 1)).size=41:=by simp[ay,bh]
  refine amX Dg hr hN (by rw[fa];omega) (by omega) cK Pl jO AE yo d34 d36 ?_
  revert d30 ds
  generalize ay t6 (some 36) (.slice (some ⟨aa.heap.size,0,none⟩) 1 1)=t7;intro d30 ds v' pU aq MF tG Pn aeY;obtain⟨o,ho,ab,hd,hg⟩:=ahE;have EZ:aS (ay t7 (some 37) v') (.tmp 37)=v':=ib (by omega)
  have f30:(ay t7 (some 37) v')[30]?=some (.chan (some cN)):=(bL (by omega)).trans d30
  have fs:(ay t7 (some 37) v').size=41:=by simp[ay,ds]
  refine du ho (cf hg) rfl (λaa _=>⟨_,(run_assign (ay t7 (some 37) v') aa ab).trans (by rw[EZ]),cS⟩) ?_
  rw[hd];refine iA (Qn (Qo ?_))
  exact ih (az++ [i]) _ pU aq (by simp;omega) (by simp[ay,ds]) ((bL (by omega)).trans f30) ⟨⟨v',tY (by omega),tG,Pn⟩,aeY,λe=>by simp at e⟩ MF
end
end Go.Jn
namespace Go.Jn
open Go Go.Proofs Go.Sim Go.Conc Go.Tw Go.RowKit
attribute [local go_sem] ze K0 Oper.semAt_some
def FU(lb:Nat)(e:Exit)(a:Act)(_:Abc):Prop:=e=.normal/\a.defers=[cQ]/\a.tmps.size=41/\a.tmps[1]?=some (.pointer (some ⟨lb,0,none⟩))
section
variable [Go.Tw.aR]
def ahead{w:Abc}{b:ao}{pv bv tv:Value}{B lb:Nat}{x0:Value}(hB:B<=w.heap.size)(ai:bg w B b pv bv tv)(h:cj b 0=0)
 (c0: w.cell? ⟨lb,0,none⟩=some (.int .i64 b.ag))(c1: w.cell? ⟨lb,1,none⟩=some pv)(c2: w.cell? ⟨lb,2,none⟩=some bv)(c3: w.cell? ⟨lb,3,none⟩=some tv)(ae:lb<w.heap.size):
 eX prog [pT] (FU lb)
  ⟨(x0:: .pointer (some ⟨lb,0,none⟩):: .slice none 0 0:: .int .i64 0::Aeq::Aeq::Aeq::Aeq::Aeq::Aeq::Aeq::Aeq::Aeq::Aeq::Aeq::Aeq::Aeq::Aeq::Aeq::Aeq::Aeq::Aeq::Aeq::Aeq::Aeq::Aeq::Aeq::Aeq::Aeq::Aeq::Aeq::Aeq::Aeq::Aeq::Aeq::Aeq::Aeq::Aeq::Aeq::Aeq::Aeq:: []).toArray,[cQ]⟩ w:=by
 have aB:=Afl (PO hB ai h);obtain⟨A1,n1,k1,rfl,-⟩:=ai.pieces.open_;obtain⟨A2,n2,k2,rfl,-⟩:=ai.aF.open_;obtain⟨A3,n3,k3,rfl,-⟩:=ai.aJ.open_;clear ai h;unfold eX eX;rw[then_self];refine(wpIn_wide (n:=0)).1 ?_
 simp only[pT,zJ,Tryz.f38,bO,a8,Akg]
 gi_wp2_with (first
  | (gi_at_call 119;refine(callsIn_wide.2 aB.out).mono ?_;rintro e w1 ⟨sv,g,rfl,aG,da,hg,ae⟩
     obtain⟨A9,m9,c9,rfl⟩:=j8 aG;have aN:w.heap.size<=w1.heap.size:=ae.size;clear ae aG da hg))
 exact⟨rfl,rfl,rfl,rfl⟩
def ahc(u:Array Value)(h:u.size=41):∃x0 x1 x2 x3 x4 x5 x6 x7 x8 x9 Jq Jr Js Jt Ju Jv Jw Jx Jy Jz JA JB JC JD JE JF JG JH JI JJ JK JL JM JN JO JP JQ JR JS JU JV:Value,u=(x0::x1::x2::x3::x4::x5::x6::x7::x8::x9::Jq::Jr::Js::Jt::Ju::Jv::Jw::Jx::Jy::Jz::JA::JB::JC::JD::JE::JF::JG::JH::JI::JJ::JK::JL::JM::JN::JO::JP::JQ::JR::JS::JU::JV:: []).toArray:=by
 obtain⟨l⟩:=u;simp only[List.size_toArray] at h;match l,h with
 |x0::x1::x2::x3::x4::x5::x6::x7::x8::x9::Jq::Jr::Js::Jt::Ju::Jv::Jw::Jx::Jy::Jz::JA::JB::JC::JD::JE::JF::JG::JH::JI::JJ::JK::JL::JM::JN::JO::JP::JQ::JR::JS::JU::JV:: [],_=>exact⟨x0,x1,x2,x3,x4,x5,x6,x7,x8,x9,Jq,Jr,Js,Jt,Ju,Jv,Jw,Jx,Jy,Jz,JA,JB,JC,JD,JE,JF,JG,JH,JI,JJ,JK,JL,JM,JN,JO,JP,JQ,JR,JS,JU,JV,rfl⟩
def alz{w:Abc}{base n:Nat}{ol:Value}{zs:List Int}(ho:w.ownsRow base 3 1 ol n (zs.map (Afx .i64)))(hn:n<=100000)(hb:base<=w.heap.size){u:Array Value}(hu:u.size=41)(h9:u[9]?=some ol):
 (Code.region 16 Bg false).wp prog (λe a w'=>(e=.normal/\a.defers=[cQ]\/e=.ret)/\(e=.normal/\a.tmps.size=41/\a.tmps[9]?=some ol/\w'.ownsRow base 3 1 ol n ((ga zs).map (Afx .i64)))) ⟨u,[cQ]⟩ w:=by
 have aB:=Afl (PW ho hn hb);obtain⟨x0,x1,x2,x3,x4,x5,x6,x7,x8,x9,Jq,Jr,Js,Jt,Ju,Jv,Jw,Jx,Jy,Jz,JA,JB,JC,JD,JE,JF,JG,JH,JI,JJ,JK,JL,JM,JN,JO,JP,JQ,JR,JS,JU,JV,rfl⟩:=ahc u hu;cases h9;clear ho hu;refine(wpIn_wide (n:=0)).1 ?_
 simp only[Bg,re,ub,vZ,nP,zJ,Tryz.f38,bO,a8,opsOf,Akg]
 gi_wp2_with (first
  | (gi_at_call 101;refine(callsIn_wide.2 aB.out).mono ?_;rintro e w1 ⟨rfl,aG,ae⟩
     have HO:=Afl aG;clear aG ae))
 exact HO.out
end
end Go.Jn
namespace Go.Jn
open Go Go.Proofs Go.Sim Go.Conc Go.Tw
def allM(w:Abc):Sim.aaa:=⟨λq=>q<w.heap.size,λ_=>False⟩
def kA{w:Abc}{q:Nat}:(allM w).has q↔q<w.heap.size:=⟨λh=>h.elim id False.elim,.inl⟩
def zF{C:bQ}{ρ:Ren}{wl w:Abc}(h:bV C ρ wl w):Fits (allM w) ρ wl:=λa q hq=>.inl (h.dc a q hq)
structure J5(b:ao)(σ:Ren)(wl:Abc)(pv bv tv:Value)(B:Nat)(arg:Value)(w:Abc):Prop where
 core:bV C0 σ wl w
 gL:σ 0 0
 nb:bJ wl.heap
 fixed:∀a q,σ a q->∃o,wl.heap[a]?=some o/\lC o
 hB:B<=wl.heap.size
 book:bg wl B b pv bv tv
 arg:ah σ (.agg #[.int .i64 b.ag,pv,bv,tv]) arg
def WE{σ:Ren}{a b c d x:Value}(h:ah σ (.agg #[a,b,c,d]) x):∃a' b' c' d',x=.agg #[a',b',c',d']/\ah σ a a'/\ah σ b b'/\ah σ c c'/\ah σ d d':=by
 cases h with
 | @agg _ x' hx h1=>
   obtain⟨l⟩:=x';simp only[List.size_toArray] at hx;match l,hx,h1 with
   | [a',b',c',d'],_,h1=>exact⟨a',b',c',d',rfl,h1 0 (by simp) (by simp),h1 1 (by simp) (by simp),h1 2 (by simp) (by simp),h1 3 (by simp) (by simp)⟩
def aj5{σ:Ren}{A:Option Addr}{n c:Nat}{x:Value}(h:ah σ (.slice A n c) x):∃A',x=.slice A' n c:=by
 cases h with
 |sliceNone=>exact⟨_,rfl⟩
 |slice=>exact⟨_,rfl⟩
 |sliceDead=>exact⟨_,rfl⟩
structure Le(b:ao)(ρ:Ren)(wl:Abc)(pv bv tv:Value)(B lb bk n NB:Nat)(wB:Abc)(w:Abc):Prop where
 core:bV C0 ρ wl w
 gL:ρ 0 0
 Wc:bJ wl.heap
 fixed:∀a q,ρ a q->∃o,wl.heap[a]?=some o/\lC o
 rb:ρ lb bk
 hB:B<=wl.heap.size
 book:bg wl B b pv bv tv
 c0: wl.cell? ⟨lb,0,none⟩=some (.int .i64 b.ag)
 c1: wl.cell? ⟨lb,1,none⟩=some pv
 c2: wl.cell? ⟨lb,2,none⟩=some bv
 c3: wl.cell? ⟨lb,3,none⟩=some tv
 hb:∃bc e fb A c,w.heap[bk]?=some (.cells bc e fb)/\bc[2]?=some (.slice A n c)
 old:∀q,q<NB->w.heap[q]?=wB.heap[q]?
 nb:NB<=w.heap.size
def Rq(b:ao)(pv bv tv:Value)(B NB:Nat)(wB:Abc)(cs:List Abn)(_:Sim.aaa)(g:Abo)(w:Abc):Prop:=
 ∃(t:Array Value) (bk lb:Nat) (ρ:Ren) (wl:Abc),g=rg 38 t [.code (.seq (.region 4 iP true) nP)] [] .normal cs/\t.size=41/\t[1]?=some (.pointer (some ⟨bk,0,none⟩))/\Le b ρ wl pv bv tv B lb bk b.aF.length NB wB w
def amh(x p s i:Value):((((#[x]++Ajh 40 Aeq:Array Value).setIfInBounds 1 p).setIfInBounds 2 s).setIfInBounds 3 i)=(x::p::s::i::Aeq::Aeq::Aeq::Aeq::Aeq::Aeq::Aeq::Aeq::Aeq::Aeq::Aeq::Aeq::Aeq::Aeq::Aeq::Aeq::Aeq::Aeq::Aeq::Aeq::Aeq::Aeq::Aeq::Aeq::Aeq::Aeq::Aeq::Aeq::Aeq::Aeq::Aeq::Aeq::Aeq::Aeq::Aeq::Aeq::Aeq:: []).toArray:=by
 have e:(#[x]++Ajh 40 Aeq:Array Value)=(x::Aeq::Aeq::Aeq::Aeq::Aeq::Aeq::Aeq::Aeq::Aeq::Aeq::Aeq::Aeq::Aeq::Aeq::Aeq::Aeq::Aeq::Aeq::Aeq::Aeq::Aeq::Aeq::Aeq::Aeq::Aeq::Aeq::Aeq::Aeq::Aeq::Aeq::Aeq::Aeq::Aeq::Aeq::Aeq::Aeq::Aeq::Aeq::Aeq::Aeq:: []).toArray:=by
  apply Array.ext';simp[List.replicate]
 rw[e];simp
def Zs{ρ:Ren}{x0 x:Value}(hx:ah ρ x0 x):aP ρ (#[x0]++Ajh 40 Aeq) (#[x]++Ajh 40 Aeq):=by
 have h1:aP ρ #[x0] #[x]:=⟨rfl,λi h1 h2=>by
  have:i=0:=by simp at h1;omega
  subst this;exact hx⟩
 have h2:aP ρ (Ajh 40 Aeq) (Ajh 40 Aeq):=⟨rfl,λi h1 h2=>by rw[Array.getElem_replicate];exact .undef⟩
 exact bU.append h1 h2
def alK{ρ:Ren}{x0 x p p':Value}(hx:ah ρ x0 x)(hp:ah ρ p p'):
 aP ρ ((((#[x0]++Ajh 40 Aeq:Array Value).setIfInBounds 1 p).setIfInBounds 2 (.slice none 0 0)).setIfInBounds 3 (.int .i64 0)) (ay (ay (ay (#[x]++Ajh 40 Aeq:Array Value) (some 1) p') (some 2) (.slice none 0 0)) (some 3) (.int .i64 0)):=by
 have h0:=Zs hx
 revert h0
 generalize (#[x0]++Ajh 40 Aeq:Array Value)=U;generalize (#[x]++Ajh 40 Aeq:Array Value)=V;intro h0;exact((h0.set 1 hp).set 2 (.sliceNone 0 0)).set 3 (.int _ _)
def ag3{b:ao}{wl:Abc}{pv bv tv x0:Value}{B lb:Nat}(hB:B<=wl.heap.size)(ai:bg wl B b pv bv tv)(h:cj b 0=0)
 (c0: wl.cell? ⟨lb,0,none⟩=some (.int .i64 b.ag))(c1: wl.cell? ⟨lb,1,none⟩=some pv)(c2: wl.cell? ⟨lb,2,none⟩=some bv)(c3: wl.cell? ⟨lb,3,none⟩=some tv)(ae:lb<wl.heap.size)(T:Tape):
 eX (@Tw.prog iQ) [pT] (FU lb) ⟨((((#[x0]++Ajh 40 Aeq:Array Value).setIfInBounds 1 (.pointer (some ⟨lb,0,none⟩))).setIfInBounds 2 (.slice none 0 0)).setIfInBounds 3 (.int .i64 0)),[cQ]⟩ (aZ wl T):=by
 letI:=iQ
 rw[amh];exact ahead (b:=b) (pv:=pv) (bv:=bv) (tv:=tv) (B:=B) (lb:=lb) (x0:=x0) hB (ai.still λ_ _=>rfl) h c0 c1 c2 c3 ae
def alH{b:ao}{ρ:Ren}{lz wB:Abc}{pv bv tv:Value}{B lb bk NB:Nat}{M1:Sim.aaa}{w1:Abc}{cs:List Abn}(ab:cj b 0=0)(hP:Le b ρ lz pv bv tv B lb bk b.aF.length NB wB w1)
 (hM:∀q,M1.has q->q<w1.heap.size)(oq:∀a q,ρ a q->M1.O q)(zY:∀q,q<NB->M1.O q){u T:Array Value}(Eb:aP ρ u T)(hl:∀T,eX (@Tw.prog iQ) [pT] (FU lb) ⟨u,[cQ]⟩ (aZ lz T)):
 Walk Afr true (Rq b pv bv tv B NB wB cs) M1 (rg 38 T [.code (.seq pT (.seq (.region 4 iP true) nP))] [] .normal cs) w1:=by
 obtain⟨hW,k7,Hr,lP,mF,om,Hb,c0,c1,Gv,c3,⟨bc,be,bf,bA,bC,ad0,MU⟩,old,tq⟩:=hP;refine pieces (S:=⟨.seq (.region 4 iP true) nP,[],[],cs,.normal⟩) (cs:=[pT]) (f:=38) (a:=⟨u,[cQ]⟩) (λc hc=>?_) rfl rfl (QL:=FU lb) (λe a w h=>.inl h.1) hl hW k7 (λa q hq=>.inl (oq a q hq)) hM Hr Eb ?_
 ·simp only[Af2,Af3,or_false] at hc
  subst hc;exact aay
 ·rintro e bB aq pU bH Jl mo D' ⟨rfl,Ao,aI,h1⟩ bY jw nD ae1 kG dM AK hD
  rw[Ao] at hD;rw[xf hD];have kept:∀q,M1.has q->mo.heap[q]?=w1.heap[q]?:=λq hq=>bY.im q hq λa ha=>lP a q ha
  refine⟨λ_=>?_,λhe=>by cases he⟩
  refine .stop λky fh=>?_
  have Nq:∀q,M1.has q->ky.heap[q]?=w1.heap[q]?:=λq hq=>(fh.kept q (aaa.tx bY.R bY.O hq)).trans (kept q hq)
  refine⟨Jl,bk,lb,ρ,lz,rfl,AK.1.symm.trans aI,PU jw AK (bY.le _ _ mF) h1,?_⟩
  exact⟨ta hW (Ad5 bY.fQ fh.size) λa q hq=>Nq q (.inl (oq a q hq)),k7,Hr,lP,mF,om,Hb,c0,c1,Gv,c3,⟨bc,be,bf,bA,bC,(Nq bk (.inl (oq _ _ mF))).trans ad0,MU⟩,λq hq=>(Nq q (.inl (zY q hq))).trans (old q hq),Ad5 tq (Ad5 bY.fQ fh.size)⟩
def stA{b:ao}{σ:Ren}{wl:Abc}{pv bv tv arg:Value}{B:Nat}{w:Abc}{cs:List Abn}(h:J5 b σ wl pv bv tv B arg w)(ab:cj b 0=0):
 Walk Afr true (Rq b pv bv tv B w.heap.size w cs) (allM w) (rg 38 (#[arg]++Ajh 40 Aeq) [.code (.seq (.region 0 p0 false) (.seq pT (.seq (.region 4 iP true) nP)))] [] .normal cs) w:=by
 letI:=iQ
 obtain⟨a',ix,ia,fD,rfl,ra,rp,Ps,rt⟩:=WE h.arg;obtain⟨A2,n2,c2,ebv,E5,-⟩:=h.book.aF.open_;obtain⟨Yj,abH⟩:=aj5 (by rw[ebv] at Ps;exact Ps)
 refine fF (gH ?_)
 rw[s0];obtain⟨o,ho,bG,hd,hg⟩:=m00;have vB:(#[Value.agg #[a',ix,ia,fD]]++Ajh 40 Aeq:Array Value).getD 0 Aeq=.agg #[a',ix,ia,fD]:=by simp[Aaa]
 refine BN ho (cf hg) rfl λaa hk=>⟨_,_,_,.inl (akp _ aa bG vB),xe,?_⟩
 rw[hd];have aea:(Value.agg #[a',ix,ia,fD]).cells=#[a',ix,ia,fD]:=rfl;rw[aea];have hM:∀q,((allM w).grow aa (aa.alloc (.cells #[a',ix,ia,fD] 26))).has q->q<(aa.alloc (.cells #[a',ix,ia,fD] 26)).heap.size:=by
  rintro q ((hq|hq) |hq)
  ·have hq:q<w.heap.size:=hq
   have:=hk.size;rw[fa];omega
  ·exact hq.2
  ·exact hq.elim
 have zY:∀q,q<w.heap.size->((allM w).grow aa (aa.alloc (.cells #[a',ix,ia,fD] 26))).O q:=λq hq=>.inl hq
 have G8:((allM w).grow aa (aa.alloc (.cells #[a',ix,ia,fD] 26))).O aa.heap.size:=.inr ⟨Ad4 _,by rw[fa];omega⟩
 have old:∀q,q<w.heap.size->(aa.alloc (.cells #[a',ix,ia,fD] 26)).heap[q]?=w.heap[q]?:=λq hq=>(kB (Ad6 hq hk.size)).trans (hk.kept q (.inl hq))
 have Ub:bV C0 σ wl (aa.alloc (.cells #[a',ix,ia,fD] 26)):=ta h.core (by rw[fa];have:=hk.size;omega) λa q hq=>old q (h.core.dc a q hq)
 have hW:=uP (o:=.cells #[.int .i64 b.ag,pv,bv,tv] 26 (0,4)) Ub (q:=aa.heap.size) jO (λa ha=>by have:=h.core.dc a _ ha;have:=hk.size;omega) (.cells 26 ⟨rfl,λj h1 h2=>by
  have:j=0\/j=1\/j=2\/j=3:=by simp at h1;omega
  have hle:=xj σ wl.heap.size aa.heap.size;rcases this with rfl|rfl|rfl|rfl
  ·exact ra.mono hle
  ·exact rp.mono hle
  ·exact Ps.mono hle
  ·exact rt.mono hle⟩ (.inr ⟨rfl,by simp⟩))
 obtain⟨lz,AO⟩:∃lz,lz=wl.alloc (.cells #[.int .i64 b.ag,pv,bv,tv] 26 (0,4)):=⟨_,rfl⟩
 obtain⟨lb,tE⟩:∃lb,lb=wl.heap.size:=⟨_,rfl⟩
 obtain⟨bk,ai⟩:∃bk,bk=aa.heap.size:=⟨_,rfl⟩
 have Av:lz.heap[lb]?=some (.cells #[.int .i64 b.ag,pv,bv,tv] 26 (0,4)):=by rw[AO,tE];exact jO
 have MV:(aa.alloc (.cells #[a',ix,ia,fD] 26)).heap[bk]?=some (.cells #[a',ix,ia,fD] 26):=by rw[ai];exact jO
 have lP:∀a q,ext σ lb bk a q->∃o,lz.heap[a]?=some o/\lC o:=by
  rintro a q (ha| ⟨rfl,rfl⟩)
  ·obtain⟨o,h1,h2⟩:=h.fixed a q ha
   exact⟨o,by rw[AO];exact(kB (h.core.dA _ _ ha)).trans h1,h2⟩
  ·exact⟨_,Av,⟨rfl,by simp⟩⟩
 have Hr:bJ lz.heap:=by rw[AO];exact h.nb.push λh=>h
 have om:B<=lz.heap.size:=by rw[AO,fa];exact Nat.le_succ_of_le h.hB
 have Hb:bg lz B b pv bv tv:=by rw[AO];exact h.book.still ((Still.refl wl).alloc h.hB _)
 have aoB:w.heap.size<=bk:=by rw[ai];exact hk.size
 rw[<-AO,<-tE,<-ai] at hW;rw[<-ai] at G8 |-
 have tq:w.heap.size<=(aa.alloc (.cells #[a',ix,ia,fD] 26)).heap.size:=by rw[fa];have:=hk.size;omega
 revert hM zY G8 old hW MV tq
 generalize (allM w).grow aa (aa.alloc (.cells #[a',ix,ia,fD] 26))=M1;clear Ub;generalize aa.alloc (.cells #[a',ix,ia,fD] 26)=w1;intro hM zY old G8 hW MV tq;obtain⟨o,ho,bG,hd,hg⟩:=m01;refine du ho (cf hg) rfl (λaa _=>⟨_,run_assign _ aa bG,cS⟩) ?_
 rw[hd];obtain⟨o,ho,bG,hd,hg⟩:=m02;refine du ho (cf hg) rfl (λaa _=>⟨_,run_assign _ aa bG,cS⟩) ?_
 rw[hd];refine iA ?_
 obtain⟨x0,vF⟩:=rB (ext σ lb bk) (.agg #[a',ix,ia,fD]);have c0: lz.cell? ⟨lb,0,none⟩=some (.int .i64 b.ag):=lL Av rfl rfl;have c1: lz.cell? ⟨lb,1,none⟩=some pv:=lL Av rfl rfl;have Gv: lz.cell? ⟨lb,2,none⟩=some bv:=lL Av rfl rfl;have c3: lz.cell? ⟨lb,3,none⟩=some tv:=lL Av rfl rfl;have ae:lb<lz.heap.size:=(Aaf.1 Av).1
 have Eb:=alK (ρ:=ext σ lb bk) (p:=.pointer (some ⟨lb,0,none⟩)) (p':=.pointer (some ⟨bk,0,none⟩)) vF (.ptr ⟨.inr ⟨rfl,rfl⟩,rfl,rfl⟩);exact alH ab ⟨hW,.inl h.gL,Hr,lP,.inr ⟨rfl,rfl⟩,om,Hb,c0,c1,Gv,c3,⟨_,_,_,Yj,c2,MV,by rw[abH,<-E5];rfl⟩,old,tq⟩ hM (λa q hq=>by
  rcases hq with hq| ⟨_,rfl⟩
  ·exact zY q (h.core.dc _ _ hq)
  ·exact G8) zY Eb (ag3 om Hb ab c0 c1 Gv c3 ae)
end Go.Jn
namespace Go.Jn
open Go Go.Proofs Go.Sim Go.Conc
section
variable {P:Abe}{main:Bool}
variable {f:Aa6}{t:Array Value}{k:List Ajq}{D:List Abb}{kd:Ajr}{cs:List Abn}
def alW{ops:Array Ajs}{i:Nat}{rest:List Nat}{o:Ajs}(ho:ops[i]?=some o)(hg:Aj1 o (Ajt ops t)=false)(hd:o.dst=none)(aa:Abc):
 Abv P main (rg f t (.inRegion ops (i::rest)::k) D .normal cs) aa=.go (rg f t (.inRegion ops rest::k) D .normal cs) aa #[]:=by
 simp[Abv,Ad3,ho,hg,Acf,hd]
def Xw{ops:Array Ajs}{i:Nat}{rest:List Nat}{o:Ajs}{v:Value}(ho:ops[i]?=some o)(hg:Aj1 o (Ajt ops t)=true)(ab:o.op=.assign (.const v))(aa:Abc):
 ∃es,Abv P main (rg f t (.inRegion ops (i::rest)::k) D .normal cs) aa=.go (rg f (ay t o.dst v) (.inRegion ops rest::k) D .normal cs) aa es:=
 ⟨_,Jd ho hg rfl (es:=#[]) (by rw[execOp,ab];rfl)⟩
end
def ml(p:Abe):Nat->Abo->Abo->Prop
 |0,g,cg=>g=cg
 |n+1,g,cg=>g.callers≠ []/\∃dG,(∀w,∃es,Abv p true g w=.go dG w es)/\ml p n dG cg
def ml.trans{p:Abe}{b:Nat}{y z:Abo}(k:ml p b y z):∀ {a:Nat} {x:Abo},ml p a x y->ml p (a+b) x z
 |0,x,h=>by cases(show x=y from h);rw[Nat.zero_add];exact k
 |a+1,x,h=>by rw[Nat.succ_add];exact⟨h.1,h.2.choose,h.2.choose_spec.1,ml.trans k h.2.choose_spec.2⟩
def ml.cons{p:Abe}{n:Nat}{x y z:Abo}(hc:x.callers≠ [])(h:∀w,∃es,Abv p true x w=.go y w es)(k:ml p n y z):ml p (n+1) x z:=⟨hc,y,h,k⟩
abbrev lp:Abe:= @Tw.prog jg
def GO:lp.funcs[21]?=some stub:=by
 letI:=jg
 exact(congrArg (·[21]?) Tw.Pe).trans Tw.zh
section
variable {x:Array Value}{fr:Abn}{cs:List Abn}
def XE:ml lp 3 (aO (Ace lp 21 x .normal) (fr::cs))
 (rg 21 (ay (x++Ajh (1 - x.size) Aeq) (some 1) (.bool true)) (.inRegion kg [1,2]:: [.code .ret]) [] .normal (fr::cs)):=by
 rw[zQ GO (c:=.seq (.region 0 kg false) .ret) rfl x .normal];refine .cons (by simp) (λw=>⟨#[],by simp[Abv,Ad3];rfl⟩) ?_
 refine .cons (by simp) (λw=>⟨#[],by simp[Abv,Ad3];rfl⟩) ?_
 refine .cons (by simp) (λw=>Xw (o:=kg[0]) rfl rfl rfl w) ?_
 rfl
def alZ(hx:x.size<=1):ml lp 8 (aO (Ace lp 21 x .normal) (fr::cs)) (aO (fr.finish (.bool true)) cs):=by
 refine ml.trans (a:=3) (b:=5) ?_ XE
 have hs:(x++Ajh (1 - x.size) Aeq).size=1:=by simp;omega
 generalize (x++Ajh (1 - x.size) Aeq)=t at hs;have e1:ay t (some 1) (.bool true)=t:=by
  show t.setIfInBounds 1 _=t;rw[Array.setIfInBounds_eq_of_size_le (by omega)]
 rw[e1];have hy:Aj1 kg[1] (Ajt kg t)=false:=by
  have:t[1]?=none:=Aan (by omega)
  show(Ajt kg t 0==some true)=false;unfold Ajt;show((match(t[1]?:Option Value) with|some (Value.bool b)=>some b|_=>none)==some true)=false
  rw[this];rfl
 refine .cons (by simp) (λw=>⟨#[],alW (o:=kg[1]) rfl hy rfl w⟩) ?_
 refine .cons (by simp) (λw=>Xw (o:=kg[2]) rfl rfl rfl w) ?_
 have e0:(ay t (some 0) (.bool true)).getD 0 Aeq=.bool true:=by simp[ay,hs]
 have e2:ay t kg[2].dst (.bool true)=ay t (some 0) (.bool true):=rfl;rw[e2]
 revert e0
 generalize ay t (some 0) (.bool true)=t2;intro e0;refine .cons (by simp) (λw=>⟨#[],by simp[Abv,Ad3];rfl⟩) ?_
 refine .cons (by simp) (λw=>⟨#[],by simp[Abv,Ad3];rfl⟩) ?_
 refine .cons (by simp) (λw=>⟨#[],?_⟩) rfl
 have e:Abu lp true ⟨21,t2,[.code .ret],[],.returning,.normal,none⟩ (fr::cs) none w=.go (aO (fr.finish (.bool true)) cs) w #[]:=by
  have hr:(results stub t2).runT lp w #[]=(.ok (.bool true) w,#[]):=by
   have e:results stub t2=Aj6 (.bool true):=by
    unfold results;rw[show stub.results=#[.tmp 0] from rfl]
    simp only[Aak,List.mapM_cons,Aj9,e0];rfl
   rw[e];rfl
  unfold Abu;simp only[GO,hr,ud,Aci,doReturn];rfl
 exact e
def al0(hx:2<=x.size)(w:Abc):∃o aa es,Abv lp true (rg 21 (ay (x++Ajh (1 - x.size) Aeq) (some 1) (.bool true)) (.inRegion kg [1,2]:: [.code .ret]) [] .normal (fr::cs)) w=.ended o aa es:=by
 have hs:2<=(x++Ajh (1 - x.size) Aeq).size:=by rw[Array.size_append,Array.size_replicate];omega
 generalize (x++Ajh (1 - x.size) Aeq)=t at hs;have hy:Aj1 kg[1] (Ajt kg (ay t (some 1) (.bool true)))=true:=by
  have:(ay t (some 1) (.bool true))[1]?=some (.bool true):=Ajj (by omega)
  show(Ajt kg (ay t (some 1) (.bool true)) 0==some true)=true;unfold Ajt;show((match((ay t (some 1) (Value.bool true))[1]?:Option Value) with|some (Value.bool b)=>some b|_=>none)==some true)=true
  rw[this];rfl
 generalize (ay t (some 1) (.bool true))=t2 at hy;have ho:kg[1]?=some kg[1]:=rfl;have hx:∃h,(execOp (aS t2) kg[1]).runT lp w #[]=(.halt (.stuck h) w,#[]):=⟨_,rfl⟩
 obtain⟨h,hx⟩:=hx;have e1:Acg ⟨21,t2,.inRegion kg [1,2]:: [.code .ret],[],.run,.normal,none⟩=aS t2:=tf;simp only[Abv,Ad3,ho,Agt,hy,Akg,if_true,Aj8,Ajy,Ad2,e1,hx,Aci];exact⟨_,_,_,rfl⟩
end
end Go.Jn
namespace Go.Jn
open Go Go.Proofs Go.Sim Go.Conc
def ri(w:Abc):Prop:=∃fr,w.heap[0]?=some (.cells #[.func (.func 234) #[] #[],.func (.func 236) #[] #[]] 146 fr)
def Cq:Prop:=∀ {gs:Array Abo} {w:Abc} {t:Aeo} {q:Nat->Nat} {x:Array Value} {fr:Abn} {cs:List Abn} (sl:Option (Nat×Nat)),x.size<=1->ri w->
 Fr Afr gs w t q (aO (Ace Afr 21 x .normal) (fr::cs))->
 ∃N aT w' bm t' q',Ajv Afr N (crowd gs w sl) t=(.next (crowd aT w' bm),t')/\Fr Afr aT w' t' q' (aO (fr.finish (.bool true)) cs)/\Base w w'/\∀b,b<w.heap.size->w'.heap[b]?=w.heap[b]?
abbrev ni(S:Tl):=Rel Afr (@Tw.F jg) C1 S G0
def ni.all{S:Tl}{M:Sim.aaa}{ρ:Ren}{g g':Abo}{w w':Abc}(h:ni S M ρ g w g' w'):ni S (allM w') ρ g w g' w':=
 ⟨h.gr,h.core,h.gL,zF h.core,λ_ hb=>kA.1 hb⟩
def mZ(ρ:Ren)(wl:Abc)(b:Nat):Prop:=∀a,ρ a b->∃o,wl.heap[a]?=some o/\lC o
def CY{M bS:Sim.aaa}{ρ aE:Ren}{wl w' aa aA:Abc}(h:gX M ρ wl w' bS aE aa aA){b:Nat}(hb:b<w'.heap.size)(hf:mZ ρ wl b):mZ aE aa b:=λa ha=>by
 rcases h.new a b ha with x| ⟨_,y⟩
 ·obtain⟨o,ho,fo⟩:=hf a x
  exact⟨o,h.kE a o ho fo,fo⟩
 ·omega
def amq{S:Tl}{ρ:Ren}{g g':Abo}{wl w':Abc}(hR:ni S (allM w') ρ g wl g' w')
 (dL:∃b fr aV cs bh,g=aO fr cs/\g'=aO aV bh/\eS C1 S ρ b fr aV/\Below C1 S ρ b cs bh)
 {nx:Tape->Abo×Abc}(hn:∀T:Tape,(∃es,Abv lp true g (aZ wl T)=.go (nx T).1 (nx T).2 es)/\Plain (nx T).1)
 {gs:Array Abo}{t:Aeo}{q:Nat->Nat}(sl:Option (Nat×Nat))(hF:Fr Afr gs w' t q g'):
 ∃N iK aA nQ nS Fo eZ T aE,Ajv Afr N (crowd gs w' sl) t=(.next (crowd iK aA nQ),nS)/\Fr Afr iK aA nS Fo eZ/\ni S (allM aA) aE (nx T).1 (nx T).2 eZ aA/\Base w' aA/\
  (∀b,b<w'.heap.size->mZ ρ wl b->aA.heap[b]?=w'.heap[b]?/\mZ aE (nx T).2 b):=by
 have key:∀aa:Abc,∃y:Abo×Abc×Array Abd,bN (allM w') w' aa->∃(T:Tape) (aE:Ren),Abv Afr true g' aa=.go y.1 y.2.1 y.2.2/\eO (allM w') aa y.2.1 y.2.2/\
  ni S ((allM w').grow aa y.2.1) aE (nx T).1 (nx T).2 y.1 y.2.1/\gX (allM w') ρ wl aa ((allM w').grow aa y.2.1) aE (nx T).2 y.2.1:=by
  intro aa;by_cases k:bN (allM w') w' aa
  ·obtain⟨T,aE,eZ,aA,es,a1,a2,a3,a4⟩:=WG abO (hR.keep k) dL hn true
   exact⟨(eZ,aA,es),λ_=>⟨T,aE,a1,a2,a3,a4⟩⟩
  ·exact⟨(g',aa,#[]),λx=>absurd x k⟩
 have bz:g'.status=.running:=by obtain⟨b,fr,aV,cs,bh,_,rfl,_⟩:=dL;rfl
 have hW:Walk Afr true (λbS eZ aA=>∃(T:Tape) (aE:Ren),ni S bS aE (nx T).1 (nx T).2 eZ aA/\gX (allM w') ρ wl w' bS aE (nx T).2 aA) (allM w') g' w':=by
  refine .step bz (λaa=>Aa2 (key aa)) (λaa k=>?_) λaa k=>.stop λaq k₂=>?_
  ·obtain⟨T,aE,a1,a2,a3,a4⟩:=Aa3 (key aa) k
   exact⟨a1,a2⟩
  ·obtain⟨T,aE,a1,a2,a3,a4⟩:=Aa3 (key aa) k
   exact⟨T,aE,a3.keep k₂,((gX.keep k).trans a4 hR.low).trans (gX.keep k₂) hR.low⟩
 obtain⟨N,iK,bS,eZ,aA,nQ,nS,Fo,r1,_,⟨⟨T,aE,xB,bY⟩,hb⟩,BS⟩:=Cw (FM hW (Gr w')) gs sl t q hF (λb hb=>kA.1 hb)
 exact⟨N,iK,aA,nQ,nS,Fo,eZ,T,aE,r1,BS,ni.all xB,hb,λb hb hf=>⟨bY.im b (kA.2 hb) hf,CY bY hb hf⟩⟩
def WZ{Q:Abo->Abc->Prop}(G1:∀g w,Q g w->g.callers=[]){cg:Abo}:∀ {n:Nat} {g:Abo} {w:Abc},ml lp n g cg->Sim.Safe lp Q g w->Sim.Safe lp Q cg w
 |0,g,w,h,hs=>by cases(show g=cg from h);exact hs
 |n+1,g,w,h,hs=>by
  obtain⟨hc,dG,h1,h2⟩:=h;cases hs with
  |stop hq=>exact absurd (G1 _ _ hq) hc
  |step nx hn hs=>
   obtain⟨⟨es,k1⟩,_⟩:=hn w.tape;obtain⟨es',k2⟩:=h1 (aZ w w.tape);rw[k2] at k1;simp only[GStep.go.injEq] at k1;have:=hs w.tape;rw[<-k1.1,<-k1.2.1] at this;exact WZ G1 h2 this
def amp(yj:Cq){S:Tl}{Q:Abo->Abc->Prop}(G1:∀g w,Q g w->g.callers=[]){g:Abo}{wl:Abc}(hs:Sim.Safe lp Q g wl):
 ∀ {n:Nat} {cg:Abo},ml lp n g cg->∀ {ρ:Ren} {g':Abo} {w':Abc},ni S (allM w') ρ cg wl g' w'->ri w'->mZ ρ wl 0->
 ∀ {gs:Array Abo} {t:Aeo} {q:Nat->Nat} (sl:Option (Nat×Nat)),Fr Afr gs w' t q g'->
 ∃N iK aA nQ nS Fo eZ aE dG aa,Ajv Afr N (crowd gs w' sl) t=(.next (crowd iK aA nQ),nS)/\Fr Afr iK aA nS Fo eZ/\Q dG aa/\ni S (allM aA) aE dG aa eZ aA/\Base w' aA/\
  (∀b,b<w'.heap.size->mZ ρ wl b->aA.heap[b]?=w'.heap[b]?):=by
 induction hs with
 | @stop g w h=>
   intro n cg hl ρ g' w' hR hM h0 gs t q sl hF;cases n with
   |zero=>cases(show g=cg from hl);exact⟨0,gs,w',sl,t,q,g',ρ,g,w,rfl,hF,h,hR,Gr _,λ_ _ _=>rfl⟩
   |succ n=>exact absurd (G1 _ _ h) hl.1
 | @step g w nx hn hs ih=>
   intro n cg hl ρ g' w' hR hM h0 gs t q sl hF;have along:∀ {n:Nat} {cg:Abo},ml lp (n+1) g cg->∀ {ρ:Ren} {g':Abo} {w':Abc},ni S (allM w') ρ cg w g' w'->ri w'->mZ ρ w 0->∀ {gs:Array Abo} {t:Aeo} {q:Nat->Nat} (sl:Option (Nat×Nat)),Fr Afr gs w' t q g'->
    ∃N iK aA nQ nS Fo eZ aE dG aa,Ajv Afr N (crowd gs w' sl) t=(.next (crowd iK aA nQ),nS)/\Fr Afr iK aA nS Fo eZ/\Q dG aa/\ni S (allM aA) aE dG aa eZ aA/\Base w' aA/\
     (∀b,b<w'.heap.size->mZ ρ w b->aA.heap[b]?=w'.heap[b]?):=by
    intro n cg hl ρ g' w' hR hM h0 gs t q sl hF;obtain⟨hc,dG,h1,h2⟩:=hl;obtain⟨⟨es,k1⟩,_⟩:=hn w.tape;obtain⟨es',k2⟩:=h1 (aZ w w.tape);rw[k2] at k1;simp only[GStep.go.injEq] at k1;obtain⟨e1,e2,_⟩:=k1;have:=ih w.tape (n:=n) (cg:=cg) (e1▸h2) (ρ:=ρ) (g':=g') (w':=w') (e2▸hR) hM (e2▸h0) sl hF;rw[<-e2] at this;exact this
   cases n with
   |succ n=>exact along hl hR hM h0 sl hF
   |zero=>
    cases(show g=cg from hl)
    have gr:=hR.gr;generalize eg:g=gg at gr;generalize SU:g'=gg' at gr;cases gr with
    | @inside b fr aV cs bh b7 hL=>
      subst eg SU;obtain⟨N,iK,aA,nQ,nS,Fo,eZ,T,aE,r1,BS,xB,hb,hk⟩:=amq hR ⟨b,fr,aV,cs,bh,rfl,rfl,b7,hL⟩ hn sl hF;have hz:0<w'.heap.size:=by obtain⟨_,h⟩:=hM;exact(Aaf.1 h).1
      have EO:ri aA:=by obtain⟨f,h⟩:=hM;exact⟨f,(hk 0 hz h0).1.trans h⟩
      obtain⟨N2,xu,mo,PV,Qk,Pq,C9,bH,cg,aq,r2,Mz,hq,ME,MY,Nx⟩:=ih T (n:=0) rfl xB EO (hk 0 hz h0).2 nQ BS;exact⟨N+N2,xu,mo,PV,Qk,Pq,C9,bH,cg,aq,uc _ _ _ r1 r2,Mz,hq,ME,rn hb MY,λb al hf=>(Nx b (Ad6 al hb.size) (hk b al hf).2).trans (hk b al hf).1⟩
    | @hole b f hf x x' hx fr aV cs bh h aw hL=>
      have hf:f=21:=by simpa [C1] using hf
      subst hf eg SU;have hxs:=hx.1;by_cases h2:x.size<=1
      ·obtain⟨N,iK,aA,nQ,nS,Fo,r1,BS,hb,hk⟩:=yj sl (by omega) hM hF
       have EO:ri aA:=by obtain⟨f,h⟩:=hM;exact⟨f,(hk 0 (Aaf.1 h).1).trans h⟩
       have core:=ta hR.core hb.size λa b hab=>hk b (hR.core.dc a b hab)
       have xB:ni S (allM aA) ρ (aO (fr.finish (.bool true)) cs) w (aO (aV.finish (.bool true)) bh) aA:=
        ⟨.inside (CX h (.bool true) aw) hL,core,hR.gL,zF core,λ_ hb=>kA.1 hb⟩
       obtain⟨N2,xu,mo,PV,Qk,Pq,C9,bH,cg,aq,r2,Mz,hq,ME,MY,Nx⟩:=along (n:=7) (alZ h2) xB EO h0 nQ BS;exact⟨N+N2,xu,mo,PV,Qk,Pq,C9,bH,cg,aq,uc _ _ _ r1 r2,Mz,hq,ME,rn hb MY,λb al hf=>(Nx b (Ad6 al hb.size) hf).trans (hk b al)⟩
      ·exfalso
       have gQ:=WZ G1 (XE (x:=x) (fr:=fr) (cs:=cs)) (.step nx hn hs);cases gQ with
       |stop hq=>exact absurd (G1 _ _ hq) (by simp)
       |step nx2 dM _=>
        obtain⟨⟨es,k1⟩,_⟩:=dM w.tape;obtain⟨o,aa,es',k2⟩:=al0 (x:=x) (fr:=fr) (cs:=cs) (by omega) (aZ w w.tape)
        rw[k2] at k1;cases k1
end Go.Jn
namespace Go.Jn
open Go Go.Proofs Go.Conc
section
variable {H:Type}{enc:Aa8×Value->H}
def ag2{a:Assume}{C:Checked}{os:Os}{f:Aa6}{fn:Abf}{s:ChangeSpec}{conds:List PathCond}{apart fresh handsOn again:Bool}{X:Abc->Array Value->Prop}
 (hX:∀(w w':Abc) (args:Array Value),w.heap=w'.heap->X w args->X w' args)
 (own:ownKnob C.prog.godebug=none)(started:os.Started)(Du:C.prog.funcs[f]?=some fn)
 (witness:∃(w:Abc) (tape:Tape) (i:Input),w.os=os/\(w.forCall tape i).Shaped C.prog/\i.vars=[]/\Input.okWide C.prog (w.forCall tape i) .any w.heap.size f i/\
   ((s.pre enc C.prog fn conds apart (w.forCall tape i).memory i.args/\X (w.forCall tape i).memory i.args)/\sizedMet enc C.prog fn (OpenSpec.ofChange s) apart (w.forCall tape i).memory i.args)/\a.holds C.prog (lone (Ace C.prog f i.args .normal) [] (w.forCall tape i)))
 (runs:∀(W:Abc) (base:Nat) (args:Array Value) (ds gs:List (DataW H)) (before:List Ajx),
   (∀(j:Nat) t v,fn.params[j]?=some t->args[j]?=some v->Value.okWide C.prog W .any base t v)->
   DataW.Whole enc C.prog fn.params.toList s.vars apart W args.toList ds gs before->W.ShapedOpen C.prog->X W args->
   ∃M last o w' t',Ajv C.prog (M+1) (solo (G (Ace C.prog f args .normal) []) W) #[]=(.ended o w',t')/\runN C.prog M (solo (G (Ace C.prog f args .normal) []) W)=.next last/\
    step C.prog last=.ended o w'/\Conc.Good C.prog (λv W'=>s.post enc C.prog fn apart fresh handsOn again W args v W') last o w' t'):
 ReturnsInLeavingWide a C os f .any (λw args=>(s.pre enc C.prog fn conds apart w args/\X w args)/\sizedMet enc C.prog fn (OpenSpec.ofChange s) apart w args) (s.post enc C.prog fn apart fresh handsOn again):=by
 refine returnsInLeavingWide_of_good own started witness ?_
 intro w tape i _ vz _ dh afp aon;obtain⟨_,_,_,fn',aew,_,_,_,_,AM⟩:=dh;have e:fn'=fn:=Aea (aew.symm.trans Du);subst e;obtain⟨⟨⟨ds,gs,before,hw,hc⟩,hx⟩,hz⟩:=afp;have AN:=DataW.Whole.of_heap (w':=w.forCall tape i) (by rfl) hw
 obtain⟨M,last,o,w',t',h1,h2,h3,v,e1,h4,h5⟩:=runs (w.forCall tape i) w.heap.size i.args ds gs before AM AN vz (hX _ _ _ (by rfl) hx)
 exact⟨M,last,o,w',t',h1,h2,h3,v,e1,ChangeSpec.post_blind h4,h5⟩
end
end Go.Jn
namespace Go.Jn
open Go Go.Proofs Go.Sim Go.Tw
def fH(W:Abc)(a:Nat):Prop:=∃c e fr,W.heap[a]?=some (.cells c e fr)
def LQ{W:Abc}{p:Addr}{v:Value}(h: W.cell? p=some v):fH W p.block:=by
 unfold World.cell? at h;split at h
 ·rename_i c e fr ho;exact⟨c,e,fr,ho⟩
 ·cases h
def LP{W:Abc}{a:Nat}(h:fH W a):a<W.heap.size:=by
 obtain⟨c,e,fr,h⟩:=h;exact(Aaf.1 h).1
def zL:Afr.cellsOf 3=1:=by kernel_rfl
def Sq:Afr.cellsOf 9=1:=by kernel_rfl
def aah:Afr.cellsOf 22=1:=by kernel_rfl
def aai:Afr.cellsOf 23=1:=by kernel_rfl
def aaj:Afr.cellsOf 24=1:=by kernel_rfl
def aak:Afr.cellsOf 26=4:=by kernel_rfl
def aal:Afr.cellsOf 33=1:=by kernel_rfl
def Gz:Afr.cellsOf 37=2:=by kernel_rfl
def aam:Afr.cellsOf 57=1:=by kernel_rfl
def aan:Afr.cellsOf 59=3:=by kernel_rfl
def aao:Afr.cellsOf 72=4:=by kernel_rfl
def aap:Afr.cellsOf 95=3:=by kernel_rfl
section
variable {H:Type}{enc:Aa8×Value->H}{W:Abc}{n:Nat}{cs:List Value}{y:DataW H×List Ajx}
abbrev oh(enc:Aa8×Value->H)(W:Abc)(n:Nat)(t:Aa8)(cs:List Value):Option (DataW H×List Ajx):=DataW.trod enc Afr W 0 (λ_=>true) true n t cs
def Fq{α:Type}{t e:Aa8}{sz:Nat}{R:α->List Value->Prop}(ht:Afr.underlying t=some (.slice e))(hc:Afr.cellsOf e=sz)(aI:0<sz)
 (Ng:∀(m:Nat) (cs:List Value) (y:DataW H×List Ajx),oh enc W m e cs=some y->cs.length=sz->∃x,R x cs)(h:oh enc W n t cs=some y):
 ∃v xs,cs=[v]/\Row W W.heap.size sz R v xs/\Sv (fH W) v:=by
 rcases DataW.trod_slice ht h with⟨rfl,_⟩ | ⟨a,len,cap,elems,rest,m,_,rfl,_,_,hl,hm,hlen,aeq,afu,_⟩
 ·exact⟨_,[],rfl,Row.nil,λA n c e=>by cases e⟩
 ·have one:∀i,i<cap->∃cs y,W.cells? 0 (a.add (i * sz)) sz=some cs/\oh enc W m e cs=some y:=λi hi=>by
   by_cases h1:i<len
   ·have:=aeq i h1
    rw[Af6 (by omega),hc,Akh] at this
    obtain⟨cs,h2,h3⟩:=this;exact⟨cs,_,h2,h3⟩
   ·obtain⟨hr,hj⟩:=afu rfl
    have:=hj (i - len) (by omega)
    rw[Af6 (by omega),hc,Akh,show len+(i - len)=i by omega] at this
    obtain⟨cs,h2,h3⟩:=this;exact⟨cs,_,h2,h3⟩
  have two:∀i,i<cap->∃x cs,R x cs/\cs.length=sz/\∀j u,cs[j]?=some u-> W.cell? (a.add (i * sz+j))=some u:=λi hi=>by
   obtain⟨cs,y,h1,h2⟩:=one i hi;obtain⟨_,h3,h4⟩:=World.cells?_some h1
   obtain⟨x,hx⟩:=Ng m cs y h2 h3;refine⟨x,cs,hx,h3,λj u hu=>?_⟩
   have hj:j<sz:=by have:=(List.getElem?_eq_some_iff.1 hu).1;omega
   rw[<-Rt,h4 j hj];exact hu
  have hS:0<cap->fH W a.block:=λrP=>by
   obtain⟨x,cs,_,h3,h4⟩:=two 0 rP;obtain⟨u,hu⟩:∃u,cs[0]?=some u:=⟨cs[0]'(by omega),Af6 _⟩
   have:=LQ (h4 0 u hu);rw[cq] at this;exact this
  refine⟨_,List.ofFn λi:Fin len=>Aa2 (two i.1 (by omega)),rfl,⟨some a,cap,by rw[List.length_ofFn],by rw[List.length_ofFn];exact hl,hm,λhx=>⟨a,rfl,?_,λi x hi=>?_⟩⟩,λA n c e h0=>?_⟩
  ·refine LP (hS ?_)
   rcases Agk len with h0|h0
   ·subst h0;exact absurd rfl hx
   ·omega
  ·rw[List.getElem?_ofFn] at hi
   split at hi
   ·rename_i al
    cases hi;exact Aa3 (two i (by omega))
   ·cases hi
  ·cases e
   rcases Agk cap with h|h
   ·exact .inr h
   ·exact .inl (hS h)
def AS(h:oh enc W n 3 cs=some y):∃x:Int,cs=[.int .i64 x]:=by
 obtain⟨x,rfl,_⟩:=DataW.trod_int Tryz.underlying3 h;exact⟨x,rfl⟩
def XC(h:oh enc W n 9 cs=some y):∃s:ByteArray,cs=[.string s]/\s.size<=Aes:=by
 obtain⟨x,rfl,_,h⟩:=DataW.trod_string Tryz.underlying9 h;exact⟨x,rfl,h⟩
def ey{t:Aa8}{fs:Array Field}(ht:Afr.underlying t=some (.struct fs))(h:oh enc W n t cs=some y)(i:Nat){u:Aa8}{o sz:Nat}(hc:Afr.cellsOf u=sz)(hf:∃f,fs[i]?=some f/\f.type=u/\f.offset=o):
 ∃m z,oh enc W m u ((cs.drop o).take sz)=some z:=by
 obtain⟨f,hf,rfl,rfl⟩:=hf;obtain⟨xs,m,_,_,_,hl,h1⟩:=DataW.trod_struct ht h;have hi:i<xs.length:=by have:=(Aaf.1 hf).1;omega
 exact⟨m,xs[i],by rw[<-Af6 hi,<-hc];exact h1 i f hf⟩
def VV{t:Aa8}{fs:Array Field}(ht:Afr.underlying t=some (.struct fs))(h:oh enc W n t cs=some y):cs.length=Afr.cellsOf t:=by
 obtain⟨xs,m,_,_,hl,_⟩:=DataW.trod_struct ht h;exact hl
def P0(h:oh enc W n 37 cs=some y):∃x:Span,Span.R x cs:=by
 have hl:=VV Tryz.underlying37 h;rw[Gz] at hl;obtain⟨a,b,rfl⟩:∃a b,cs=[a,b]:=by
  match cs,hl with
  | [a,b],_=>exact⟨a,b,rfl⟩
 obtain⟨_,_,h0⟩:=ey Tryz.underlying37 h 0 (u:=3) (o:=0) zL ⟨_,rfl,rfl,rfl⟩;obtain⟨_,_,h1⟩:=ey Tryz.underlying37 h 1 (u:=3) (o:=1) zL ⟨_,rfl,rfl,rfl⟩;simp only[Ake,Akf] at h0 h1;obtain⟨x0,e0⟩:=AS h0;obtain⟨x1,e1⟩:=AS h1;cases e0;cases e1
 exact⟨⟨x0,x1⟩,rfl⟩
def ajG(h:oh enc W n 72 cs=some y)(hl:cs.length=4):∃x:Piece,Piece.R x cs:=by
 obtain⟨a,b,c,d,rfl⟩:∃a b c d,cs=[a,b,c,d]:=by
  match cs,hl with
  | [a,b,c,d],_=>exact⟨a,b,c,d,rfl⟩
 obtain⟨_,_,h0⟩:=ey Tryz.underlying72 h 0 (u:=9) (o:=0) Sq ⟨_,rfl,rfl,rfl⟩;obtain⟨_,_,h1⟩:=ey Tryz.underlying72 h 1 (u:=37) (o:=1) Gz ⟨_,rfl,rfl,rfl⟩;obtain⟨_,_,h2⟩:=ey Tryz.underlying72 h 2 (u:=3) (o:=3) zL ⟨_,rfl,rfl,rfl⟩;simp only[Ake,Akf] at h0 h1 h2;obtain⟨s,e0,hs⟩:=XC h0;obtain⟨x,e1⟩:=P0 h1;obtain⟨z,e2⟩:=AS h2;cases e0;cases e1;cases e2
 exact⟨⟨s,x,z⟩,rfl,hs⟩
def ZK(h:oh enc W n 59 cs=some y)(hl:cs.length=3):∃x:bR,bR.R W W.heap.size x cs/\∀u∈cs,Sv (fH W) u:=by
 obtain⟨a,b,c,rfl⟩:∃a b c,cs=[a,b,c]:=by
  match cs,hl with
  | [a,b,c],_=>exact⟨a,b,c,rfl⟩
 obtain⟨_,_,h0⟩:=ey Tryz.underlying59 h 0 (u:=9) (o:=0) Sq ⟨_,rfl,rfl,rfl⟩;obtain⟨_,_,h1⟩:=ey Tryz.underlying59 h 1 (u:=3) (o:=1) zL ⟨_,rfl,rfl,rfl⟩;obtain⟨_,_,h2⟩:=ey Tryz.underlying59 h 2 (u:=57) (o:=2) aam ⟨_,rfl,rfl,rfl⟩;simp only[Ake,Akf] at h0 h1 h2;obtain⟨s,e0,hs⟩:=XC h0;obtain⟨z,e1⟩:=AS h1;obtain⟨v,xs,e2,hr,hv⟩:=Fq (R:=Span.R) Tryz.underlying57 Gz (by omega) (λm cs y h _=>P0 h) h2
 cases e0;cases e1;cases e2
 refine⟨⟨s,z,xs⟩,⟨_,rfl,hs,hr⟩,λu hu=>?_⟩
 simp only[Af2,Af3,or_false] at hu;rcases hu with rfl|rfl|rfl
 ·intro A n c e;cases e
 ·intro A n c e;cases e
 ·exact hv
def ama(h:oh enc W n 95 cs=some y)(hl:cs.length=3):∃x:Tw.Tape,Tw.Tape.R W W.heap.size x cs/\∀u∈cs,Sv (fH W) u:=by
 obtain⟨a,b,c,rfl⟩:∃a b c,cs=[a,b,c]:=by
  match cs,hl with
  | [a,b,c],_=>exact⟨a,b,c,rfl⟩
 obtain⟨_,_,h0⟩:=ey Tryz.underlying95 h 0 (u:=33) (o:=0) aal ⟨_,rfl,rfl,rfl⟩;obtain⟨_,_,h1⟩:=ey Tryz.underlying95 h 1 (u:=37) (o:=1) Gz ⟨_,rfl,rfl,rfl⟩;simp only[Ake,Akf] at h0 h1;obtain⟨v,xs,e0,hr,hv⟩:=Fq (R:=cH) Tryz.underlying33 zL (by omega) (λm cs y h _=>AS h) h0
 obtain⟨x,e1⟩:=P0 h1;cases e0;cases e1
 refine⟨⟨xs,x⟩,⟨_,rfl,hr⟩,λu hu=>?_⟩
 simp only[Af2,Af3,or_false] at hu;rcases hu with rfl|rfl|rfl
 ·exact hv
 ·intro A n c e;cases e
 ·intro A n c e;cases e
def ZP(h:oh enc W n 26 cs=some y):∃(b:ao) (pv bv tv:Value),cs=[.int .i64 b.ag,pv,bv,tv]/\FY (fH W) W W.heap.size b pv bv tv:=by
 have hl:=VV Tryz.underlying26 h;rw[aak] at hl;obtain⟨a,b,c,d,rfl⟩:∃a b c d,cs=[a,b,c,d]:=by
  match cs,hl with
  | [a,b,c,d],_=>exact⟨a,b,c,d,rfl⟩
 obtain⟨_,_,h0⟩:=ey Tryz.underlying26 h 0 (u:=3) (o:=0) zL ⟨_,rfl,rfl,rfl⟩;obtain⟨_,_,h1⟩:=ey Tryz.underlying26 h 1 (u:=22) (o:=1) aah ⟨_,rfl,rfl,rfl⟩;obtain⟨_,_,h2⟩:=ey Tryz.underlying26 h 2 (u:=23) (o:=2) aai ⟨_,rfl,rfl,rfl⟩;obtain⟨_,_,h3⟩:=ey Tryz.underlying26 h 3 (u:=24) (o:=3) aaj ⟨_,rfl,rfl,rfl⟩;simp only[Ake,Akf] at h0 h1 h2 h3;obtain⟨z,e0⟩:=AS h0;obtain⟨pv,ps,e1,r1,s1⟩:=Fq (R:=Piece.R) Tryz.underlying22 aao (by omega) (λm cs y h hl=>ajG h hl) h1
 obtain⟨bv,bs,e2,r2,s2⟩:=Fq (R:=λx cs=>bR.R W W.heap.size x cs/\∀u∈cs,Sv (fH W) u) Tryz.underlying23 aan (by omega) (λm cs y h hl=>ZK h hl) h2
 obtain⟨tv,ts,e3,r3,s3⟩:=Fq (R:=λx cs=>Tw.Tape.R W W.heap.size x cs/\∀u∈cs,Sv (fH W) u) Tryz.underlying24 aap (by omega) (λm cs y h hl=>ama h hl) h3
 cases e0;cases e1;cases e2;cases e3
 exact⟨⟨z,ps,bs,ts⟩,_,_,_,rfl,r1,r2,r3,s1,s2,s3⟩
end
end Go.Jn
namespace Go.Jn
open Go Go.Proofs Go.Sim Go.Conc
def ajq{C C':bQ}(h:∀c,C.clean c->C'.clean c){ρ:Ren}{o o':Obj}(x:iE C ρ o o'):iE C' ρ o o':=by
 cases x with
 |cells e hc hf=>exact .cells e hc hf
 |map clock hm=>exact .map clock hm
 |loop hl=>
  cases hl with
  |mk st px fn ps oU body ht hd ha hb hp=>exact .loop (.mk st px fn ps oU body ht hd (h _ ha) (h _ hb) λc hc=>h _ (hp c hc))
 |EF=>exact .EF
 |calls=>exact .calls
 |stringIter s p=>exact .stringIter s p
 |number lost ha=>exact .number lost ha
def aa2{C C':bQ}(h:∀c,C.clean c->C'.clean c){ρ:Ren}{w w':Abc}(x:bV C ρ w w'):bV C' ρ w w':=
 ⟨x.dA,x.dc,x.fn,x.inj,λa b o hab ho=>by obtain⟨o',h1,h2⟩:=x.obj a b o hab ho;exact⟨o',h1,ajq h h2⟩⟩
def Rn(f r:Nat)(g:Abo)(_:Abc):Prop:=∃(t:Array Value) (todo:List Ajq),t[r]?=some (.bool true)/\g=aO ⟨f,t,todo,[cQ],.returning,.normal,none⟩ []
def Cr:Tl:=⟨.skip,[],[],[],.normal⟩
def agR{f r:Nat}{c:Aa9}(hc:cr Afr G0 c=true){tl t':Array Value}{ρ:Ren}{wl w:Abc}
 (hl:∀T,c.wp lp (λe bB _=>e=.ret/\bB.defers=[cQ]/\bB.tmps[r]?=some (.bool true)) ⟨tl,[cQ]⟩ (aZ wl T))
 (hW:bV C1 ρ wl w)(hg:ρ 0 0)(hn:bJ wl.heap)(ht:aP ρ tl t'):
 Sim.Safe lp (Rn f r) (aO ⟨f,tl,[.code c,.code di],[cQ],.run,.normal,none⟩ []) wl:=by
 have hG:∀g,G0 g=true->ρ g g:=λg oy=>by
  have:g=0:=by simpa [G0] using oy
  subst this;exact hg
 let b:Abn:={ (default:Abn) with fn:=f,kind:=.normal}
 have b7:eS CA Cr ρ true ⟨f,tl,[.code c,.code di],[cQ],.run,.normal,none⟩ ⟨f,t',[.code c],[],.run,.normal,none⟩:=
  .mk f ht (.cons (.code c hc) .stop) .stop .run .none ⟨λh=>by simp at h,λ_=>rfl,λh=>absurd rfl h,λh=>by simp at h,rfl,λ_=>rfl⟩
 have hi:Inv CA Cr G0 (aO ⟨f,tl,[.code c,.code di],[cQ],.run,.normal,none⟩ []) wl:=⟨hn,ρ,true,_,_,_,_,w,rfl,hG,b7,.base,aa2 (C:=C1) (C':=CA) (λ_ h=>h) hW⟩
 have h:=PD (S:=Cr) abN (λ_=>rfl) (Q:=Rn f r) (λg w T h=>h) ?_ hi ?_
 ·rw[Ji] at h;exact h
 ·rintro g w ⟨t,todo,_,rfl⟩ ch;simp
 ·intro T
  rw[Ji];obtain⟨e,bB,aa,⟨rfl,h2,h3⟩,todo,n,hr⟩:=hl T b [.code di] [];refine⟨n,_,_,aa,hr,bB.tmps,todo,h3,?_⟩
  show aO _ _=aO _ _;rw[<-h2];rfl
def ajC{w:Abc}:Past Iz w.heap.size #[]:=Past.mono past_nil (Agl _)
def results1{P:Abe}{fn:Abf}{r:Nat}(hr:fn.results=#[.tmp r])(t:Array Value)(w:Abc):(results fn t).runT P w #[]=(.ok (t.getD r Aeq) w,#[]):=by
 have e:results fn t=Aj6 (t.getD r Aeq):=by
  unfold results;rw[hr];simp only[Aak,List.mapM_cons,Aj9];rfl
 rw[e];rfl
def agQ(yj:Cq){f r:Nat}{fn:Abf}{c:Aa9}(hf:Afr.funcs[f]?=some fn)(hb:fn.body=some c)(hc:cr Afr G0 c=true)(hr:fn.results=#[.tmp r])(hi:¬2=f)
 {ρ:Ren}{wl W:Abc}{args tl:Array Value}(hl:∀T,c.wp lp (λe bB _=>e=.ret/\bB.defers=[cQ]/\bB.tmps[r]?=some (.bool true)) ⟨tl,[cQ]⟩ (aZ wl T))
 (hW:bV C1 ρ wl W)(hg:ρ 0 0)(hn:bJ wl.heap)(ht:aP ρ tl (args++Ajh (fn.ntmps - args.size) Aeq))(lP:∀b,mZ ρ wl b)(hM:ri W):
 ∃N last o w' t',Ajv Afr (N+1) (solo (G (Ace Afr f args .normal) []) W) #[]=(.ended o w',t')/\runN Afr N (solo (G (Ace Afr f args .normal) []) W)=.next last/\
  step Afr last=.ended o w'/\Conc.Good Afr (λv w'=>v=.bool true/\Aj5 W.heap.size W w') last o w' t':=by
 have hs:=agR (f:=f) (r:=r) hc hl hW hg hn ht;have hG:∀g,G0 g=true->ρ g g:=λg oy=>by
  have:g=0:=by simpa [G0] using oy
  subst this;exact hg
 have b7:eS C1 Cr ρ true ⟨f,tl,[.code c,.code di],[cQ],.run,.normal,none⟩ ⟨f,args++Ajh (fn.ntmps - args.size) Aeq,[.code c],[],.run,.normal,none⟩:=
  .mk f ht (.cons (.code c hc) .stop) .stop .run .none ⟨λh=>by simp at h,λ_=>rfl,λh=>absurd rfl h,λh=>by simp at h,rfl,λ_=>rfl⟩
 have hR:ni Cr (allM W) ρ (aO ⟨f,tl,[.code c,.code di],[cQ],.run,.normal,none⟩ []) wl (aO ⟨f,args++Ajh (fn.ntmps - args.size) Aeq,[.code c],[],.run,.normal,none⟩ []) W:=
  ⟨.inside b7 .base,hW,hG,zF hW,λ_ hb=>kA.1 hb⟩
 have he:=zQ hf hb args .normal;rw[he];have hF:Fr Afr #[aO ⟨f,args++Ajh (fn.ntmps - args.size) Aeq,[.code c],[],.run,.normal,none⟩ []] W #[] (λ_=>0) (aO ⟨f,args++Ajh (fn.ntmps - args.size) Aeq,[.code c],[],.run,.normal,none⟩ []):=
  ⟨rfl,λi x h hx=>by
    have:i<1:=(Aaf.1 hx).1
    omega,ajC,λop h=>absurd h (by simp),λop h=>absurd h (by simp)⟩
 obtain⟨N1,iK,aA,nQ,nS,Fo,eZ,aE,dG,aa,r1,BS,⟨t,todo,h0,rfl⟩,xB,hB,hk⟩:=
  amp yj (λg w ⟨t,todo,_,e⟩=>by rw[e]) hs (n:=0) rfl hR hM (lP 0) none hF
 have qj:Aj5 W.heap.size W aA:=⟨hB.os,hB.tape,hB.out,hB.size,λb hb=>hk b hb (lP b)⟩
 have qk:∀aq,AtRel aA aq->AtEnd Afr Iz aA.heap.size (λv w'=>v=.bool true/\Aj5 W.heap.size W w') eZ aq:=by
  rintro aq ⟨d,rfl⟩;have gr:=xB.gr;generalize eg:aO ⟨f,t,todo,[cQ],.returning,.normal,none⟩ []=gg at gr;cases gr with
  | @inside b fr aV cs bh b7 hL=>
    have e1:=congrArg Goroutine.frame eg;have e2:=congrArg Ajz eg;simp only at e1 e2;subst e1 e2;obtain⟨rfl,rfl⟩:=Lu hL;cases b7 with
    | @mk _ t1 t2 ym k1 k2 dg d1 d2 jT m1 rM r1 r2 ye kd2 gM=>
      cases ye;have qt:=gM.Cv rfl;subst qt;have hD:=xf jT;subst hD;obtain⟨v',Ea,vD⟩:=IZ ym h0;cases vD;have vB:t2.getD r Aeq=.bool true:=cJ Ea;refine⟨rfl,.bool true,#[],?_,λe he=>absurd he (by simp),rfl,qj.os,qj.tape,qj.output,qj.size,qj.block⟩
      have e:Abu Afr true ⟨f,t2,k2,[],.returning,.normal,none⟩ [] none (aA.at d)=.ended (.done (.bool true)) (aA.at d) #[]:=by
       unfold Abu;simp only[hf,results1 hr,vB,ud,Aci,doReturn];simp[hi]
      exact e
  |hole f hf hx h aw hL=>
   have e2:=congrArg Ajz eg;simp at e2
 obtain⟨N2,last,o,w',t',k1,k2,k3,k4⟩:=beside_ends (D:=λ_ _ _=>False) (λ_ _ _ h=>h.elim) (sl:=nQ) BS.zero BS.ag1 BS.gD (n:=0) qk
 refine⟨N1+N2,last,o,w',t',?_,?_,k3,k4⟩
 ·rw[Nat.add_assoc]
  exact uc _ _ _ r1 k1
 ·have:=congrArg Ajg (uc N1 (solo (G ⟨f,args++Ajh (fn.ntmps - args.size) Aeq,[.code c],[],.run,.normal,none⟩ []) W) #[] r1 rfl:_=Ajv Afr N2 (crowd iK aA nQ) nS)
  rw[runNT_fst,runNT_fst] at this;rw[this];exact k2
end Go.Jn
namespace Go.Jn
open Go Go.Proofs Go.Sim Go.Tw
def rW(W:Abc):Ren:=λa b=>a=b/\fH W a
def Pv.self{W:Abc}{v:Value}(h:Pv (fH W) v):ah (rW W) v v:=by
 cases v;case bool b=>exact .bool b
 case int k n=>exact .int k n
 case float=>exact h.elim
 case complex=>exact h.elim
 case string s=>exact .string s
 case pointer p=>
  cases p with
  |none=>exact .ptrNone
  |some a=>exact .ptr ⟨⟨rfl,h⟩,rfl,rfl⟩
 case slice p n c=>
  cases p with
  |none=>exact .sliceNone n c
  |some a=>
   rcases h with h| ⟨rfl,rfl⟩
   ·exact .slice n c ⟨⟨rfl,h⟩,rfl,rfl⟩
   ·exact .sliceDead _ _
 case map p=>
  cases p with
  |none=>exact .mapNone
  |some a=>exact h.elim
 case chan p=>
  cases p with
  |none=>exact .chanNone
  |some a=>exact h.elim
 case func f x y=>
  cases f with
  |func f=>
   obtain⟨rfl,rfl⟩:=h;exact .func (.func f) rfl (λi hi _=>absurd hi (by simp)) rfl (λi hi _=>absurd hi (by simp))
  |_=>exact h.elim
 case nilFunc=>exact .nilFunc
 case iface=>exact h.elim
 case nilIface=>exact .nilIface
 case agg=>exact h.elim
 case tuple=>exact h.elim
def I9(W:Abc)(c:Array Value):∃u:Array Value,aP (rW W) u c/\u.size=c.size/\∀(i:Nat) (v:Value),c[i]?=some v->Pv (fH W) v->u[i]?=some v:=by
 have key:∀v',∃u,ah (rW W) u v'/\(Pv (fH W) v'->u=v'):=λv'=>by
  by_cases hp:Pv (fH W) v'
  ·exact⟨v',hp.self,λ_=>rfl⟩
  ·obtain⟨u,hu⟩:=rB (rW W) v'
   exact⟨u,hu,λh=>absurd h hp⟩
 refine⟨c.map λv=>Aa2 (key v),⟨by simp,λi h1 h2=>?_⟩,by simp,λi v hi hp=>?_⟩
 ·simp only[Array.getElem_map]
  exact(Aa3 (key _)).1
 ·rw[Aei,hi]
  exact congrArg some ((Aa3 (key v)).2 hp)
def E9(W:Abc):Obj->Obj
 | .cells c e _=>.cells (Aa2 (I9 W c)) e (0,(Aa2 (I9 W c)).size)
 |_=>.cells #[] 0 (0,0)
def nA(W:Abc):Abc:={W with heap:=W.heap.map (E9 W)}
section
variable {W:Abc}
def Tk:(nA W).heap.size=W.heap.size:=by simp[nA]
def GM{a:Nat}{c:Array Value}{e:Aa8}{fr:Nat×Nat}(h:W.heap[a]?=some (.cells c e fr)):
 ∃u:Array Value,(nA W).heap[a]?=some (.cells u e (0,u.size))/\aP (rW W) u c/\u.size=c.size/\∀(i:Nat) (v:Value),c[i]?=some v->Pv (fH W) v->u[i]?=some v:=by
 refine⟨Aa2 (I9 W c),?_,Aa3 (I9 W c)⟩
 unfold nA;simp only[Aei,h,Agt]
 rfl
def acU(C:bQ):bV C (rW W) (nA W) W where
 dA a b hab:=by rw[Tk];exact LP hab.2
 dc a b hab:=by rw[<-hab.1];exact LP hab.2
 fn a b b' x y:=x.1.symm.trans y.1
 inj a a' b x y:=x.1.trans y.1.symm
 obj a b o hab ho:=by
  obtain⟨rfl,c,e,fr,h⟩:=hab;obtain⟨u,h1,h2,h3,h4⟩:=GM h;rw[h1] at ho;cases ho;exact⟨_,h,.cells e h2 (.inr ⟨rfl,Ad4 _⟩)⟩
def acV(b:Nat):mZ (rW W) (nA W) b:=by
 rintro a ⟨rfl,c,e,fr,h⟩;obtain⟨u,h1,h2,h3,h4⟩:=GM h;exact⟨_,h1,rfl,Ad4 _⟩
def acX:bJ (nA W).heap:=by
 intro o ho hb;obtain⟨a,ha⟩:=Aji ho
 unfold nA at ha;simp only[Aei] at ha
 obtain⟨o1,_,rfl⟩:=Ags.1 ha;cases o1<;>exact hb
def acT{p:Addr}{v:Value}(h: W.cell? p=some v)(hp:Pv (fH W) v):(nA W).cell? p=some v:=by
 have hS:=LQ h;obtain⟨c,e,fr,ho⟩:=hS;obtain⟨u,h1,h2,h3,h4⟩:=GM ho;unfold World.cell? at h |-
 rw[ho] at h;rw[h1];simp only at h |-
 split at h
 ·cases h
 ·rename_i hs
  rw[if_neg hs];exact h4 _ _ h hp
variable {α:Type}{B sz:Nat}{R R':α->List Value->Prop}{v:Value}{xs:List α}
def Fp(aI:0<sz)(h:Row W B sz R v xs)(he:Sv (fH W) v):Pv (fH W) v:=by
 obtain⟨A,c,rfl,h1,h2,h3⟩:=h;cases A with
 |none=>exact trivial
 |some A=>
  cases xs with
  |nil=>exact(he A _ c rfl rfl).imp id λh=>⟨rfl,h⟩
  |cons x xs=>
   obtain⟨ad,e,hb,h4⟩:=h3 (by simp)
   cases e;obtain⟨cs,_,hl,hc⟩:=h4 0 x rfl;obtain⟨u,hu⟩:∃u,cs[0]?=some u:=⟨cs[0]'(by omega),Af6 _⟩
   have:=LQ (hc 0 u hu);rw[cq] at this;exact .inl this
def C4(h:Row W B sz R v xs)(hR:∀x cs,R x cs->R' x cs/\∀u∈cs,Pv (fH W) u):Row (nA W) B sz R' v xs:=by
 obtain⟨A,c,e,h1,h2,h3⟩:=h;refine⟨A,c,e,h1,h2,λhx=>?_⟩
 obtain⟨ad,hA,hb,h4⟩:=h3 hx;refine⟨ad,hA,hb,λi x hi=>?_⟩
 obtain⟨cs,r,hl,au⟩:=h4 i x hi;have:=hR x cs r;exact⟨cs,this.1,hl,λj u hu=>acT (au j u hu) (this.2 u (Agd hu))⟩
def acS{b:ao}{pv bv tv:Value}(h:FY (fH W) W B b pv bv tv):bg (nA W) B b pv bv tv/\Pv (fH W) pv/\Pv (fH W) bv/\Pv (fH W) tv:=by
 refine⟨⟨C4 h.pieces λx cs r=>⟨r,λu hu=>?_⟩,C4 h.aF λx cs r=>?_,C4 h.aJ λx cs r=>?_⟩,Fp (by omega) h.pieces h.sp,Fp (by omega) h.aF h.sb,Fp (by omega) h.aJ h.st⟩
 ·obtain⟨rfl,_⟩:=r
  simp only[Af2,Af3,or_false] at hu;rcases hu with rfl|rfl|rfl|rfl<;>exact trivial
 ·obtain⟨⟨kv,rfl,k1,k2⟩,k3⟩:=r
  have hp:Pv (fH W) kv:=Fp (by omega) k2 (k3 kv (by simp))
  refine⟨⟨kv,rfl,k1,C4 k2 λx cs r=>⟨r,λu hu=>?_⟩⟩,λu hu=>?_⟩
  ·rw[show cs=_ from r] at hu
   simp only[Af2,Af3,or_false] at hu;rcases hu with rfl|rfl<;>exact trivial
  ·simp only[Af2,Af3,or_false] at hu
   rcases hu with rfl|rfl|rfl
   ·exact trivial
   ·exact trivial
   ·exact hp
 ·obtain⟨⟨kv,rfl,k2⟩,k3⟩:=r
  have hp:Pv (fH W) kv:=Fp (by omega) k2 (k3 kv (by simp))
  refine⟨⟨kv,rfl,C4 k2 λx cs r=>⟨r,λu hu=>?_⟩⟩,λu hu=>?_⟩
  ·rw[show cs=_ from r] at hu
   simp only[Af2,Af3,or_false] at hu;rcases hu with rfl;exact trivial
  ·simp only[Af2,Af3,or_false] at hu
   rcases hu with rfl|rfl|rfl
   ·exact hp
   ·exact trivial
   ·exact trivial
def acW(h:ri W):gI (nA W)/\rW W 0 0:=by
 obtain⟨fr,h⟩:=h;refine⟨?_,rfl,_,_,_,h⟩
 obtain⟨u,h1,h2,h3,h4⟩:=GM h;have e:u=#[.func (.func 234) #[] #[],.func (.func 236) #[] #[]]:=by
  have a0:=h4 0 _ rfl ⟨rfl,rfl⟩;have a1:=h4 1 _ rfl ⟨rfl,rfl⟩;refine Ajk λi=>?_
  match i with
  |0=>rw[a0];rfl
  |1=>rw[a1];rfl
  |i+2=>
   rw[Aan (by rw[h3];simp),Aan (by simp)]
 subst e;exact⟨_,h1⟩
end
end Go.Jn
namespace Go.Jn
open Go Go.Proofs Go.Sim Go.Tw Go.ChangeShapes Go.WideShapes Go.ChangeAt Go.RowKit
abbrev Et{H:Type}:List (String×DataW H):=[("ribband/mould.measures",YtfifdjajcogccaaGreatDoor.Rows.laid_ribband_mould_measures)]
def ajr:ownKnob Afr.godebug=none:=by kernel_rfl
def agN:laidOutB Afr=true:=by kernel_rfl
def ada:Afr.globalNamed "ribband/mould.measures" =some 0:=by kernel_rfl
def al9:(Afr.globals[0]?).map (·.type)=some 146:=by kernel_rfl
def aaf:Afr.cellsOf 145=1:=by kernel_rfl
def aag:Afr.cellsOf 146=2:=by kernel_rfl
def aae:Afr.cellsOf 143=1:=by kernel_rfl
def abi(os:Os)(args:Array Value):laidMetH Afr Et ((World.doorLaid Afr 600 os).forCall (λ_ _=>0) ⟨#[],args,[]⟩).memory:=
 laidMetH_of_parts3 (fuel:=8) (laidMet_of_run' 8 (by kernel_rfl) (by kernel_rfl)) (by kernel_rfl) (by kernel_rfl)
def alp(os:Os)(args:Array Value):((World.doorLaid Afr 600 os).forCall (λ_ _=>0) ⟨#[],args,[]⟩).Shaped Afr:=
 World.shaped_of_RefB (by kernel_rfl) (by kernel_rfl)
def Zu:(((begin Afr (λ_ _=>0) default).world.heap[0]?).bind Obj.row?).map (λx=>(x.1.size,x.2))=some (2,146):=by kernel_rfl
def adf:0<Afr.globals.size:=of_decide_eq_true (by kernel_rfl)
def Wq{W:Abc}{n:Nat}{c:Value}{d:DataW (List UInt8)}{q:List Ajx}{b:UInt8}{r:List UInt8}{f0:Aa6}
 (AB:((List.range Afr.funcs.size).filter λf=>(Afr.funcs[f]?).any (·.name.toUTF8.data.toList==b::r))=[f0])
 (h:DataW.trod (funcToken Afr) Afr W 0 (λ_=>true) true n 145 [c]=some (d,q))(hd:d=.agg [.held (b::r)]):c=.func (.func f0) #[] #[]:=by
 obtain⟨xs,m,_,hx,_,hl,h1⟩:=DataW.trod_struct Tryz.underlying145 h;have e:=congrArg Ajg hx;simp only[hd,DataW.agg.injEq] at e;match xs,hl with
 | [x],_=>
   simp only[Akc,Akd,List.cons.injEq,and_true] at e;have h2:DataW.trod (funcToken Afr) Afr W 0 (λ_=>true) true m 143 [c]=some x:=by
     have:=h1 0 _ rfl;simpa [aae] using this
   obtain⟨x1,x2⟩:=x;simp only at e;subst e;exact func_of_trod Tryz.underlying143 AB h2
def ah0{W:Abc}(hs:W.ShapedOpen Afr)(h:laidMetH Afr Et W):ri W:=by
 obtain⟨g,t,cs,fuel,p,hg,ht,hv,hd⟩:=h.funcs (Af1.2 rfl);obtain rfl:=Aea (ada.symm.trans hg);obtain rfl:=Aea (al9.symm.trans ht);obtain⟨xs,m,_,hx,hl,hn,h1⟩:=DataW.trod_array Tryz.underlying146 hd;rw[aag] at hl;have e:=congrArg Ajg hx;match cs,hl with
 | ⟨[c0,c1]⟩,_=>
 match xs,hn with
 | [x0,x1],_=>
   have e2:(DataW.agg [.agg [.held [114,105,98,98,97,110,100,47,109,111,117,108,100,46,109,101,97,115,117,114,101,115,36,49]],.agg [.held [114,105,98,98,97,110,100,47,109,111,117,108,100,46,109,101,97,115,117,114,101,115,36,50]]]:DataW (List UInt8))=.agg [x0.1,x1.1]:=e;simp only[DataW.agg.injEq,List.cons.injEq,and_true] at e2;have k0:=h1 0 (by omega)
   have k1:=h1 1 (by omega)
   simp only[aaf] at k0 k1;have f0:c0=.func (.func 234) #[] #[]:=Wq (by kernel_rfl) (show DataW.trod (funcToken Afr) Afr W 0 (λ_=>true) true m 145 [c0]=some (x0.1,x0.2) from k0) e2.1.symm
   have f1:c1=.func (.func 236) #[] #[]:=Wq (by kernel_rfl) (show DataW.trod (funcToken Afr) Afr W 0 (λ_=>true) true m 145 [c1]=some (x1.1,x1.2) from k1) e2.2.symm
   subst f0 f1;have hb:=Zu;cases hz:((begin Afr (λ_ _=>0) default).world.heap[0]?).bind Obj.row? with
   |none=>rw[hz] at hb;cases hb
   |some z=>
    rw[hz] at hb;obtain⟨zero,t⟩:=z;simp only[Agt,Aeb,Prod.mk.injEq] at hb;obtain⟨ba,rfl⟩:=hb;obtain⟨bh,hc,aI,_⟩:=hs.1 0 zero 146 adf hz;refine⟨(0,0),?_⟩
    rw[hc];have cell:∀i,W.cell? ⟨0,i,none⟩=bh[i]?:=λi=>cell_of_row W 0 i _ 146 _ hc
    have a0:=World.var?_cell hg hv 0
    have a1:=World.var?_cell hg hv 1
    rw[cell] at a0 a1;have:bh=#[.func (.func 234) #[] #[],.func (.func 236) #[] #[]]:=by
     refine Ajk λi=>?_
     match i with
     |0=>exact a0
     |1=>exact a1
     |i+2=>rw[Aan (by rw[aI,ba];omega),Aan (by simp)]
    rw[this]
end Go.Jn
namespace Go.Jn
open Go Go.Proofs Go.Sim Go.Conc Go.Tw Go.RowKit
end Go.Jn
namespace Go.Jn
open Go Go.Proofs Go.Sim Go.Conc Go.Tw Go.RowKit
def ai1:stub.ntmps=1:=rfl
def akh:stub.results=#[.tmp 0]:=rfl
def P3(w:Abc):Aet lp 21 #[] w λe w'=>e=.returned (.bool true)/\w=w':=by
 letI:=jg
 go_enter GO,ai1;unfold kg;go_wp2;exact bodyPost_ret (v:=.bool true) (by simp[results,akh,go_sem]) rfl ⟨rfl,rfl⟩
@[go_sem]theorem call21(args:Array Value)(w:Abc):(callFunc 21 args).run (@Tw.prog jg) w=.ok (.enter 21 args) w:=by
  obtain⟨c,hc,_⟩:=Je;have h:=CK (P:=lp) GO hc P4 args w;have:=congrArg Ajg h;rw[Sem.runT_fst] at this;exact this
def Px{α:Type}{w w':Abc}{sz:Nat}{R:α->List Value->Prop}{v:Value}{xs:List α}(h:Row w w.heap.size sz R v xs)(hb:Aj5 w.heap.size w w'):Row w' w'.heap.size sz R v xs:=
 (h.still (Still.aK hb (Ad4 _)) λ_ _ h=>h).more hb.size
def LA{w:Abc}{B B':Nat}{b:ao}{pv bv tv:Value}(h:bg w B b pv bv tv)(hB:B<=B'):bg w B' b pv bv tv:=
 ⟨h.pieces.more hB,(h.aF.still (Still.refl _) λx cs ⟨kv,h1,h2,h3⟩=>⟨kv,h1,h2,h3.more hB⟩).more hB,(h.aJ.still (Still.refl _) λx cs ⟨kv,h1,h3⟩=>⟨kv,h1,h3.more hB⟩).more hB⟩
def aeX{w w':Abc}{b:ao}{mI:List Cut->Int}{e:Ending}(hn:fA b mI=none)(h:wM w b mI e w'):e=.returned (.tuple #[.slice none 0 0,.int .i64 0,.bool false,.int .i64 (cj b 0)])/\Aj5 w.heap.size w w':=by
 obtain⟨cv,mv,fv,rfl,aQ,hb⟩:=h;rw[hn] at aQ;obtain⟨rfl,rfl,rfl⟩:=aQ;exact⟨rfl,hb⟩
def Lv{b:ao}{mI:List Cut->Int}{x:List Cut×Int}(h:fA b mI=some x):cj b 0=0:=by
 unfold fA at h;split at h
 ·assumption
 ·cases h
def ae8{w w':Abc}{b:ao}{mI:List Cut->Int}{e:Ending}{x:List Cut}{m:Int}(hn:fA b mI=some (x,m))(h:wM w b mI e w'):∃A k c,e=.returned (.tuple #[.slice A k c,.int .i64 m,.bool true,.int .i64 0])/\w'.ownsRow w.heap.size 56 2 (.slice A k c) b.pieces.length (x.flatMap Cut.vs)/\Aj5 w.heap.size w w':=by
 letI:=jg
 obtain⟨cv,mv,fv,rfl,aQ,hb⟩:=h;rw[hn] at aQ;obtain⟨ho,rfl,rfl⟩:=aQ;obtain⟨A,k,c,rfl⟩:=j8 ho;exact⟨A,k,c,by rw[Lv hn],ho,hb⟩
def afa{b:ao}(h:sS b=true):dF b=0:=by
 unfold sS at h;simp only[Aaz,decide_eq_true_eq] at h;exact h.2
def c7:Aa9:=(Tryz.f7.body).getD .skip
def t7(v:Value)(p q:Nat):Array Value:=#[v,.int .u8 p,.int .u8 q,Aeq,Aeq,Aeq,Aeq,Aeq,Aeq,Aeq,Aeq,Aeq,Aeq,Aeq,Aeq,Aeq,Aeq,Aeq,Aeq,Aeq,Aeq,Aeq,Aeq,Aeq,Aeq,Aeq,Aeq,Aeq,Aeq,Aeq,Aeq,Aeq,Aeq,Aeq,Aeq,Aeq,Aeq,Aeq,Aeq,Aeq,Aeq,Aeq,Aeq,Aeq,Aeq,Aeq,Aeq,Aeq,Aeq,Aeq,Aeq,Aeq,Aeq,Aeq,Aeq,Aeq,Aeq,Aeq,Aeq,Aeq,Aeq,Aeq,Aeq,Aeq,Aeq,Aeq,Aeq,Aeq,Aeq,Aeq,Aeq,Aeq,Aeq,Aeq,Aeq,Aeq,Aeq,Aeq,Aeq,Aeq,Aeq,Aeq,Aeq,Aeq,Aeq,Aeq,Aeq,Aeq,Aeq,Aeq,Aeq,Aeq,Aeq,Aeq,Aeq,Aeq,Aeq,Aeq,Aeq,Aeq,Aeq,Aeq,Aeq,Aeq,Aeq,Aeq,Aeq,Aeq,Aeq,Aeq,Aeq,Aeq,Aeq,Aeq,Aeq,Aeq,Aeq,Aeq,Aeq,Aeq,Aeq]
def Za(r:Nat)(e:Exit)(a:Act)(_:Abc):Prop:=e=.ret/\a.defers=[cQ]/\a.tmps[r]?=some (.bool true)
end Go.Jn
namespace Go.Jn
open Go Go.Proofs Go.Sim Go.Tw Go.Conc Go.ChangeShapes Go.WideShapes Go.ChangeAt Go.RowKit
open YtfifdjajcogccaaGreatDoor
def aj2{W:Abc}{b:ao}{pv bv tv:Value}(q1:Pv (fH W) pv)(q2:Pv (fH W) bv)(q3:Pv (fH W) tv):ah (rW W) (.agg #[.int .i64 b.ag,pv,bv,tv]) (.agg #[.int .i64 b.ag,pv,bv,tv]):=
 .agg rfl λi h1 h2=>by
  match i,h1,h2 with
  |0,_,_=>exact .int _ _
  |1,_,_=>exact q1.self
  |2,_,_=>exact q2.self
  |3,_,_=>exact q3.self
def aj7(ρ:Ren)(n:Nat):aP ρ (Ajh n Aeq) (Ajh n Aeq):=
 bU.refl λa ha=>by
  rw[(Aav.1 ha).2];exact ah.tuple' .empty
def apJ{ρ:Ren}{a b c a' b' c':Value}(h1:ah ρ a a')(h2:ah ρ b b')(h3:ah ρ c c'):aP ρ #[a,b,c] #[a',b',c']:=
 ⟨rfl,λi k1 k2=>by
   match i,k1,k2 with
   |0,_,_=>exact h1
   |1,_,_=>exact h2
   |2,_,_=>exact h3⟩
end Go.Jn
namespace Go.Jn
open Go Go.Proofs Go.Sim Go.Conc Go.Tw Go.RowKit
def c6:Aa9:=(Tryz.f6.body).getD .skip
def t6(v k:Value):Array Value:=#[v,k,Aeq,Aeq,Aeq,Aeq,Aeq,Aeq,Aeq,Aeq,Aeq,Aeq,Aeq,Aeq,Aeq,Aeq,Aeq,Aeq,Aeq,Aeq,Aeq,Aeq,Aeq,Aeq,Aeq,Aeq,Aeq,Aeq,Aeq,Aeq,Aeq,Aeq,Aeq,Aeq,Aeq,Aeq,Aeq,Aeq,Aeq,Aeq,Aeq,Aeq,Aeq,Aeq,Aeq,Aeq,Aeq,Aeq,Aeq,Aeq,Aeq,Aeq,Aeq,Aeq,Aeq,Aeq,Aeq,Aeq,Aeq,Aeq,Aeq,Aeq,Aeq,Aeq,Aeq,Aeq,Aeq,Aeq,Aeq,Aeq,Aeq,Aeq,Aeq,Aeq,Aeq,Aeq,Aeq,Aeq,Aeq,Aeq,Aeq,Aeq,Aeq,Aeq,Aeq,Aeq,Aeq,Aeq,Aeq,Aeq,Aeq,Aeq,Aeq,Aeq,Aeq,Aeq,Aeq,Aeq,Aeq,Aeq,Aeq,Aeq,Aeq,Aeq,Aeq,Aeq,Aeq,Aeq,Aeq,Aeq,Aeq,Aeq,Aeq,Aeq,Aeq,Aeq,Aeq,Aeq,Aeq,Aeq,Aeq,Aeq,Aeq,Aeq,Aeq,Aeq,Aeq,Aeq,Aeq,Aeq,Aeq,Aeq,Aeq,Aeq,Aeq,Aeq,Aeq,Aeq,Aeq,Aeq,Aeq,Aeq,Aeq,Aeq,Aeq,Aeq,Aeq,Aeq,Aeq,Aeq,Aeq,Aeq,Aeq,Aeq,Aeq,Aeq,Aeq,Aeq,Aeq,Aeq,Aeq,Aeq,Aeq,Aeq,Aeq,Aeq,Aeq,Aeq,Aeq,Aeq,Aeq,Aeq,Aeq,Aeq,Aeq,Aeq,Aeq,Aeq,Aeq,Aeq,Aeq,Aeq,Aeq,Aeq,Aeq,Aeq,Aeq,Aeq,Aeq,Aeq,Aeq,Aeq,Aeq,Aeq,Aeq,Aeq,Aeq,Aeq,Aeq,Aeq,Aeq,Aeq,Aeq,Aeq,Aeq,Aeq,Aeq,Aeq,Aeq,Aeq]
def yP{b:ao}(hn:0<b.aF.length)(ps:List Nat):wH b (eM b ps):=by
 refine⟨by simp[eM],λc hc=>?_⟩
 unfold eM at hc;obtain⟨i,-,rfl⟩:=List.mem_map.1 hc;refine⟨⟨_,rfl,Nat.mod_lt _ hn⟩,?_,?_⟩
 ·show(0:Int)<=((oC ps (4+2 * i) % 41:Nat):Int);omega
 ·show((oC ps (4+2 * i) % 41:Nat):Int)<=40;omega
def anv{b:ao}(h:cj b 0=0):aD b≠ []:=by
 intro e;unfold cj at h;split at h
 ·rename_i hc;exact hc h
 ·rw[if_neg (by simp),if_pos (by rw[e];rfl)] at h;cases h
end Go.Jn
namespace Go.Jn
open Go Go.Proofs Go.Sim Go.Tw Go.Conc Go.ChangeShapes Go.WideShapes Go.ChangeAt Go.RowKit
open YtfifdjajcogccaaGreatDoor
def aom{W:Abc}{r:Reach}{base:Nat}{v:Value}(h:Value.okWide Afr W r base 50 v):v.cells=#[v]:=by
 unfold Value.okWide at h;rw[Tryz.underlying50] at h;simp only at h;unfold Cell.okWide at h;rw[Tryz.underlying50] at h;cases v<;>first|rfl| (unfold Cell.ok at h;rw[Tryz.underlying50] at h;exact h.elim)
def aey:Afr.cellsOf 161=1:=by kernel_rfl
def anD{H:Type}{enc:Aa8×Value->H}{W:Abc}{n:Nat}{cs:List Value}{y:DataW H×List Ajx}(h:oh enc W n 50 cs=some y):∃v ps,cs=[v]/\Row W W.heap.size 1 sd v ps/\Sv (fH W) v:=
 Fq Tryz.underlying50 aey (by decide) (λm cs y h _=>by
  obtain⟨x,rfl,_,hw⟩:=DataW.trod_int Tryz.underlying161 h;simp[Lit.wf,IntKind.min,IntKind.max,IntKind.signed,IntKind.bits] at hw;exact⟨x.toNat,by rw[Int.toNat_of_nonneg (by omega)],by omega⟩) h
end Go.Jn
namespace Go.Jn
open Go Go.Proofs Go.Sim Go.Conc Go.Tw Go.RowKit
def c13:Aa9:=(Tryz.f13.body).getD .skip
def t13(v k:Value)(p:Nat):Array Value:=#[v,k,.int .u8 p,Aeq,Aeq,Aeq,Aeq,Aeq,Aeq,Aeq,Aeq,Aeq,Aeq,Aeq,Aeq,Aeq,Aeq,Aeq,Aeq,Aeq,Aeq,Aeq,Aeq,Aeq,Aeq,Aeq,Aeq,Aeq,Aeq,Aeq,Aeq,Aeq,Aeq,Aeq,Aeq,Aeq,Aeq,Aeq,Aeq,Aeq,Aeq,Aeq,Aeq,Aeq,Aeq,Aeq,Aeq,Aeq,Aeq,Aeq,Aeq,Aeq,Aeq,Aeq,Aeq,Aeq,Aeq,Aeq,Aeq,Aeq,Aeq,Aeq,Aeq,Aeq,Aeq,Aeq,Aeq,Aeq,Aeq,Aeq,Aeq,Aeq,Aeq,Aeq,Aeq,Aeq,Aeq,Aeq,Aeq,Aeq,Aeq,Aeq,Aeq,Aeq,Aeq,Aeq,Aeq,Aeq,Aeq,Aeq,Aeq,Aeq,Aeq,Aeq,Aeq,Aeq,Aeq,Aeq,Aeq,Aeq,Aeq,Aeq,Aeq,Aeq,Aeq,Aeq,Aeq,Aeq,Aeq,Aeq,Aeq,Aeq,Aeq,Aeq,Aeq,Aeq,Aeq,Aeq,Aeq,Aeq,Aeq,Aeq,Aeq,Aeq,Aeq,Aeq,Aeq,Aeq,Aeq,Aeq,Aeq,Aeq,Aeq,Aeq,Aeq,Aeq,Aeq,Aeq,Aeq,Aeq,Aeq,Aeq,Aeq,Aeq,Aeq,Aeq,Aeq,Aeq,Aeq,Aeq,Aeq,Aeq,Aeq,Aeq,Aeq,Aeq,Aeq,Aeq,Aeq,Aeq,Aeq,Aeq,Aeq,Aeq,Aeq,Aeq,Aeq,Aeq,Aeq,Aeq,Aeq,Aeq,Aeq,Aeq,Aeq,Aeq,Aeq,Aeq,Aeq,Aeq,Aeq,Aeq,Aeq,Aeq,Aeq,Aeq,Aeq,Aeq,Aeq,Aeq,Aeq,Aeq,Aeq,Aeq,Aeq,Aeq,Aeq,Aeq,Aeq,Aeq,Aeq,Aeq,Aeq,Aeq,Aeq,Aeq,Aeq,Aeq,Aeq,Aeq,Aeq,Aeq,Aeq,Aeq,Aeq,Aeq,Aeq,Aeq,Aeq,Aeq,Aeq,Aeq,Aeq,Aeq,Aeq,Aeq,Aeq,Aeq,Aeq,Aeq,Aeq,Aeq,Aeq,Aeq,Aeq,Aeq,Aeq,Aeq,Aeq,Aeq,Aeq,Aeq]
def lR(b:ao)(mI:List Cut->Int):Int:=((fA b mI).map Aki).getD 0
def sn(b:ao)(mI:List Cut->Int):Bool:=(fA b mI).isSome
def xa(b:ao)(i:Nat):List Int:=if cj b 0=0 then Il b i else []
def yQ{w w':Abc}{b:ao}{mI:List Cut->Int}{e:Ending}(h:wM w b mI e w'):∃A n c,e=.returned (.tuple #[.slice A n c,.int .i64 (lR b mI),.bool (sn b mI),.int .i64 (cj b 0)])/\Aj5 w.heap.size w w':=by
 letI:=jg
 unfold lR sn;cases hb:fA b mI with
 |none=>
  obtain⟨rfl,hb⟩:=aeX hb h;exact⟨_,_,_,rfl,hb⟩
 |some x=>
  obtain⟨x,m⟩:=x;obtain⟨A,k,c,rfl,-,jS⟩:=ae8 hb h;exact⟨A,k,c,by rw[Lv hb];rfl,jS⟩
def th{b:ao}(h:dF b=0):cj (bI b) 0=cj b 0:=by
 letI:=jg
 unfold cj;rw[Bm h,h,tn]
def anG{b:ao}(h:dF b=0):lR (bI b) j6=lR b j6/\sn (bI b) j6=sn b j6/\lR (bI b) (qM (bI b))=lR b (qM b)/\sn (bI b) (qM (bI b))=sn b (qM b):=by
 letI:=jg
 have hv:=iy h;have wU:=iy (Bm h);have key:∀mI mO:List Cut->Int,sc mI->sc mO->(∀l,(∀c∈l,oO b c)->mO (l.map (en b))=mI l)->(∀l,(∀c∈l,oO (bI b) c)->mI (l.map (en (bI b)))=mO l)->(fA (bI b) mO).map Aki=(fA b mI).map Aki:=by
  intro mI mO h1 h2 h3 h4;unfold fA;rw[th h];by_cases ho:cj b 0=0
  ·rw[if_pos ho,if_pos ho]
   exact(anF hv wU (anv ho) h1 h2 h3 h4).symm
  ·rw[if_neg ho,if_neg ho]
   try rfl
 have Yo:∀ {α β:Type} (x:Option (α×Int)) (y:Option (β×Int)),x.map Aki=y.map Aki->x.isSome=y.isSome:=by
  intro α β x y e;cases x<;>cases y<;>simp at e |-
 have e1:=key j6 j6 SI SI (λl _=>U5 b l) (λl _=>U5 (bI b) l)
 have e2:=key (qM b) (qM (bI b)) (SP hv) (SP wU) (λl hl=>VU hl) (λl hl=>by
  have:=VU (b:=bI b) hl;rwa[rev_rev] at this)
 exact⟨by unfold lR;rw[e1],Yo _ _ e1,by unfold lR;rw[e2],Yo _ _ e2⟩
def U0{b:ao}{l:List Cut}(h:wH b l):wH (bI b) (l.map (en b)):=by
 letI:=jg
 refine⟨by rw[Aib];exact h.1,λc hc=>?_⟩
 obtain⟨d,hd,rfl⟩:=List.mem_map.1 hc;exact TD (h.2 d hd)
def B8{b:ao}{x:List Cut}(hx:wH b x):ez b x=0:=by
 letI:=jg
 unfold ez;rw[if_neg (by simpa using hx.1)]
 exact M9 _ _ hx.2
def anM{b:ao}(h:dF b=0){l:List Cut}(hl:wH b l):zP (bI b) (l.map (en b))=zP b l:=by
 letI:=jg
 unfold zP;rw[B8 hl,B8 (U0 hl),th h,tn];split
 ·rfl
 ·congr 2
  funext L;exact T1 hl.2
def anQ{b:ao}(h:dF b=0)(i:Nat):xa (bI b) i=xa b i:=by
 letI:=jg
 unfold xa Il;rw[th h,tn]
def anJ{b:ao}(h:dF b=0):Gt (bI b)=Gt b:=by
 letI:=jg
 unfold Gt;rw[Bm h,h,tn]
def Sc{w:Abc}{b:ao}{k:Nat}{pv bv tv:Value}{B:Nat}(hB:B<=w.heap.size)(ai:bg w B b pv bv tv)(hk:k<b.pieces.length):
 letI:=jg;Aet lp 24 #[.agg #[.int .i64 b.ag,pv,bv,tv],.int .i64 k] w λe w'=>∃A n c,e=.returned (.tuple #[.slice A n c,.int .i64 (cj b 0)])/\Row w' w'.heap.size 1 cH (.slice A n c) (xa b k)/\Aj5 w.heap.size w w':=by
 letI:=jg
 have hp:Bh b k=0:=by unfold Bh;rw[if_pos (by unfold bX;simp;omega)]
 unfold xa;by_cases ho:cj b 0=0
 ·rw[if_pos ho]
  refine(ag8 (k:=k) hB ai (by rw[hp];exact ho)).mono ?_
  rintro e w' ⟨v,rfl,h,hb⟩;obtain⟨A,n,c,rfl⟩:=j8 h;exact⟨A,n,c,by rw[ho],Ih h,hb⟩
 ·rw[if_neg ho]
  refine(aoe (k:=k) hB ai (by rw[hp];exact ho)).mono ?_
  rintro e w' ⟨rfl,hb⟩;exact⟨none,0,0,by rw[hp],Row.nil,hb⟩
def O0{w:Abc}{b:ao}{l:List Cut}{pv bv tv lv:Value}{B:Nat}(hB:B<=w.heap.size)(ai:bg w B b pv bv tv)(hl:Row w B 2 Cut.R lv l)(hg:wH b l):
 letI:=jg;Aet lp 28 #[.agg #[.int .i64 b.ag,pv,bv,tv],lv] w λe w'=>e=.returned (.tuple #[.int .i64 (zP b l),.int .i64 (cj b 0)])/\Aj5 w.heap.size w w':=by
 letI:=jg
 have hc:=B8 hg;unfold zP;rw[hc];by_cases ho:cj b 0=0
 ·rw[if_neg (by simpa using ho),ho]
  exact L4 hB ai hl (by rw[hc];exact ho)
 ·rw[if_pos ho]
  have:=agC hB ai hl (by rw[hc];exact ho)
  rwa[hc] at this
def Ke{P:Abe}{c:Aa9}{Q:Exit->Act->Abc->Prop}{a:Act}{w:Abc}(h:c.wp P (dP λa W=>Q .normal a W) a w):c.wp P Q a w:=by
 letI:=jg
 exact Code.wp_mono (dP.imp λ_ _ h=>h) h
def Z3{α:Type}{l:List α}{j k:Nat}{x:α}(hj:j+k+1=l.length)(hx:l[k]?=some x):l.reverse.take (j+1)=l.reverse.take j++ [x]:=by
 rw[List.take_add_one,List.getElem?_reverse (by omega),show l.length - 1 - j=k by omega,hx];rfl
def anK{w W:Abc}{b:ao}{pv bv tv v8 v7:Value}{B base:Nat}{ts:List (Tw.Tape×Value)}{bs:List (Tw.bR×Value)}(hB:B<=W.heap.size)(st:Still B w W)(ai:bg w B b pv bv tv)
 (rS:∀p∈ts,Row w B 1 cH p.2 p.1.pieces)(il:ts.map Ajg=b.aJ)(ox:∀p∈bs,p.1.name.size<=Aes/\Row w B 2 Span.R p.2 p.1.cM)(fe:bs.map Ajg=b.aF)
 (h7:W.ownsRow base 95 3 v7 ts.length (ts.reverse.flatMap eG))(h8:W.ownsRow base 59 3 v8 bs.length (bs.reverse.flatMap eP)):bg W W.heap.size (bI b) pv v8 v7:=by
 letI:=jg
 refine⟨(ai.pieces.still st λ_ _ h=>h).more hB,?_,?_⟩
 ·have e:(bI b).aF=bs.reverse.map Ajg:=by
   show b.aF.reverse=_;rw[<-fe,List.map_reverse]
  have:=lu (R:=λp cs=>cs=eP p) (f:=eP) (l:=bs.reverse) (by rw[Ajc];exact h8) (λ_=>rfl) (λp hm=>rfl)
  rw[e];refine yY this (λp hm cs hc=>?_)
  have:=ox p (by simpa using hm)
  exact⟨p.2,hc,this.1,(this.2.still st λ_ _ h=>h).more hB⟩
 ·have e:(bI b).aJ=ts.reverse.map Ajg:=by
   show b.aJ.reverse=_;rw[<-il,List.map_reverse]
  have:=lu (R:=λp cs=>cs=eG p) (f:=eG) (l:=ts.reverse) (by rw[Ajc];exact h7) (λ_=>rfl) (λp hm=>rfl)
  rw[e];exact yY this (λp hm cs hc=>⟨p.2,hc,((rS p (by simpa using hm)).still st λ_ _ h=>h).more hB⟩)
def anA{b:ao}{ps:List Nat}{p:Nat}{pv bv tv kv:Value}{w:Abc}{B:Nat}(ai:bg w B b pv bv tv)(NU:Row w B 1 sd kv ps)(hB:B<=w.heap.size)(hm:gI w)(hp:p<256):
 c13.wp lp (Za 6) ⟨t13 (.agg #[.int .i64 b.ag,pv,bv,tv]) kv p,[cQ]⟩ w:=by
 letI:=jg
 have bT:=Afl ai;have HPS:=Afl NU;have HM:=Afl hm;obtain⟨ts,il,pg⟩:=I1 (R':=λ(p:Tw.Tape×Value) cs=>cs=eG p/\Row w B 1 cH p.2 p.1.pieces) ai.aJ (λx cs ⟨kv,h1,h3⟩=>⟨kv,h1,h3⟩)
 have rS:∀p∈ts,Row w B 1 cH p.2 p.1.pieces:=λp hp=>by obtain⟨cs,h1,h2⟩:=pg.mem p hp;exact h2
 obtain⟨bs,fe,xH⟩:=I1 (R':=λ(p:Tw.bR×Value) cs=>cs=eP p/\p.1.name.size<=Aes/\Row w B 2 Span.R p.2 p.1.cM) ai.aF (λx cs ⟨kv,h1,h2,h3⟩=>⟨kv,h1,h2,h3⟩)
 have ox:∀p∈bs,p.1.name.size<=Aes/\Row w B 2 Span.R p.2 p.1.cM:=λp hp=>by obtain⟨cs,h1,h2⟩:=xH.mem p hp;exact h2
 have qG:ts.length=b.aJ.length:=by rw[<-il,Aib]
 have fX:bs.length=b.aF.length:=by rw[<-fe,Aib]
 have HT:=Afl (Aee rS il);have Bo:=Afl (Aee ox fe);obtain⟨PA,np,pc,rfl,e1,-⟩:=ai.pieces.open_;obtain⟨TA,nt,tc,rfl,e3,-,-,r3⟩:=pg.open_;obtain⟨A,m,c,rfl,e2,-,-,r2⟩:=xH.open_;obtain⟨KA,nk,kc,rfl,-⟩:=NU.open_;have R3:=Afl r3;have R2:=Afl r2;have EL:=Afl (Aee e1 (Aee (fX.symm.trans e2) (Aee (qG.symm.trans e3) (Aee e2 e3))));obtain⟨i9,DC,Vu,N7,oZ⟩:=info_parts Oq;have nX:=Afl (Aee DC (Aee Vu (Aee N7 oZ)));obtain⟨i5,PX,An,AJ,eR⟩:=info_parts VI;have yl:=Afl (Aee PX (Aee An (Aee AJ eR)));obtain⟨i6,PY,rU,RP,fI⟩:=info_parts VH;have yn:=Afl (Aee PY (Aee rU (Aee RP fI)));obtain⟨W0,z8⟩:∃W0,W0=w.alloc (.cells #[.int .i64 b.ag,.slice PA np pc,.slice A m c,.slice TA nt tc] 26):=⟨_,rfl⟩
 have Z0:W0.heap.size=w.heap.size+1:=by rw[z8];simp
 have BW:Hid (Below w.heap.size w W0):=Afl (by rw[z8];exact(Aft _ _).alloc (Ad4 _) _)
 have KB:Hid (Bk W0 w.heap.size 26 #[.int .i64 b.ag,.slice PA np pc,.slice A m c,.slice TA nt tc]):=Afl (by rw[z8];exact Bk.new _ _ _)
 have ST:Hid (∀W,Below (w.heap.size+1) W0 W->Still B w W/\w.heap.size+1<=W.heap.size):=Afl λW hW=>by
  have hs:=hW.size;exact⟨Still.aK (BW.out.trans (hW.mono (by omega))) hB,by omega⟩
 have S0:Hid (∀W,Below (w.heap.size+1) W0 W-> W.cell? ⟨w.heap.size,0,none⟩=some (.int .i64 b.ag)/\ W.cell? ⟨w.heap.size,1,none⟩=some (.slice PA np pc)/\ W.cell? ⟨w.heap.size,2,none⟩=some (.slice A m c)/\ W.cell? ⟨w.heap.size,3,none⟩=some (.slice TA nt tc)/\w.heap.size<W.heap.size):=Afl λW hW=>
  have k:=KB.out.below hW (by omega)
  ⟨k.cell 0,k.cell 1,k.cell 2,k.cell 3,k.lt⟩
 have KT:Hid (∀W,Below (w.heap.size+1) W0 W->Aet lp 40 #[.agg #[.int .i64 b.ag,.slice PA np pc,.slice A m c,.slice TA nt tc]] W λe w'=>e=.returned (.bool (sS b))/\Below (w.heap.size+1) W0 w'):=Afl λW hW=>by
  obtain⟨st,hs⟩:=ST.out W hW;exact(fit (bT.out.still st) (by omega)).mono λe w' ⟨h,hb⟩=>⟨h,hW.trans (hb.mono hs)⟩
 clear ai NU hm e1 e2 e3 r2 r3 rS ox il fe qG fX pg xH DC Vu N7 oZ PX An AJ eR PY rU RP fI;unfold c13 t13;simp only[Tryz.f13,Akg];go_wp2;rw[<-z8]
 go_at_call 40
 refine(KT.out _ (Aft _ _)).mono ?_
 rintro e w1 ⟨rfl,ae⟩;obtain⟨r0,r1,r2,r3,yF⟩:=S0.out w1 ae;have H1:=Afl ae;clear ae z8;cases hf:sS b with
 |false=>
  go_wp2
  go_at_call 21
  refine(P3 _).mono ?_
  rintro e w' ⟨rfl,rfl⟩;go_wp2;exact⟨rfl,rfl,rfl⟩
 |true=>
 have h0:=afa hf;have hv:=iy h0;have kH:1<=np/\np<=3:=by have:=hv.np;have:=EL.out.1;omega
 have QM:m<=3:=by have:=hv.nb;have:=EL.out.2.1;omega
 have xZ:nt<=4:=by have:=hv.nt;have:=EL.out.2.2.1;omega
 have HV:=Afl (Aee h0 hv);obtain⟨W2,jw⟩:∃W2,W2=w1.alloc (.cells #[.int .i64 b.ag,.slice PA np pc,.slice none 0 0,.slice none 0 0] 26):=⟨_,rfl⟩
 have Z2:W2.heap.size=w1.heap.size+1:=by rw[jw];simp
 have K2:Hid (Bk W2 w1.heap.size 26 #[.int .i64 b.ag,.slice PA np pc,.slice none 0 0,.slice none 0 0]):=Afl (by rw[jw];exact Bk.new _ _ _)
 have B2:Hid (Below w1.heap.size w1 W2):=Afl (by rw[jw];exact(Aft _ _).alloc (Ad4 _) _)
 have S1:Hid (∀W,Below w1.heap.size w1 W->(W.cell? ⟨w.heap.size,0,none⟩=some (.int .i64 b.ag)/\ W.cell? ⟨w.heap.size,1,none⟩=some (.slice PA np pc)/\ W.cell? ⟨w.heap.size,2,none⟩=some (.slice A m c)/\ W.cell? ⟨w.heap.size,3,none⟩=some (.slice TA nt tc)/\w.heap.size<W.heap.size)/\Hid (Still B w W)):=Afl λW hW=>by
  have h:=H1.out.trans (hW.mono (by omega))
  exact⟨S0.out W h,Afl (ST.out W h).1⟩
 have q1:Adf.wrap ((nt:Int) - 1)=(nt:Int) - 1:=Aj0 _ (by omega)
 have q2:Adf.wrap ((m:Int) - 1)=(m:Int) - 1:=Aj0 _ (by omega)
 clear hv h0 hf;go_wp2;rw[<-jw];go_loopw [8] (λu wr=>∃(j:Nat) (z:Int) (v7:Value),j<=nt/\u=.int .i64 z/\z=(nt:Int) - 1 - j/\Hid (wr.ownsRow (w1.heap.size+1) 95 3 v7 j ((ts.reverse.take j).flatMap eG))/\
  Hid (Bk wr w1.heap.size 26 #[.int .i64 b.ag,.slice PA np pc,.slice none 0 0,v7])/\Hid (Below w1.heap.size w1 wr)/\w1.heap.size+1<=wr.heap.size) (λu _=>(Ahb u+1).toNat)
 case atStart=>exact⟨0,_,_,Agl _,rfl,by omega,Afl ⟨rfl,.inl ⟨rfl,rfl⟩⟩,K2,B2,by omega⟩
 case round=>
  obtain⟨j,z,v7,hj,rfl,hz,h7,hk,hb,aI⟩:=hrel;obtain⟨A7,n7,c7,rfl⟩:=pw h7.out;clear r0 r1 r2 r3;obtain⟨⟨r0,r1,r2,r3,lt⟩,st⟩:=S1.out wr hb.out;have q5: wr.cell? ⟨w1.heap.size,3,none⟩=some (.slice A7 n7 c7):=hk.out.cell 3;by_cases al:j<nt
  ·obtain⟨k,qt⟩:∃k:Nat,k=nt - 1 - j:=⟨_,rfl⟩
   obtain rfl:z=(k:Int):=by omega
   have da:k<nt:=by omega
   have ap8:(k:Int)<nt:=by omega
   obtain⟨ad,x,cs,rfl,aC,hx,⟨rfl,Oj⟩,-,au⟩:=R3.out k da;obtain⟨x,kv⟩:=x;simp only at Oj;obtain⟨m5,rN⟩:∃k,k=x.pieces.length:=⟨_,rfl⟩
   obtain⟨A5,c5,rfl,-⟩:=id Oj;rw[<-rN] at hx au;have g0:=cC au st.out aC rfl;have g1:=bK au st.out aC 0 rfl;have g2:=bK au st.out aC 1 rfl;have xD:(ad.add (k * 3)).block<wr.heap.size:=by rw[cq];omega
   have HX:=Afl hx;have f3:=hk.out.frozen 3;have ae4:w1.heap.size<wr.heap.size:=by omega
   have UP:w.heap.size<w1.heap.size:=yF;have q6:Adf.wrap ((k:Int) - 1)=(k:Int) - 1:=Aj0 _ (by omega)
   have dn:w1.heap.size≠w.heap.size:=by omega
   have oL:=Afl (Aee qt hz);clear Oj rN au st hx qt hz;go_wp2;refine Ke ?_
   go_region_law (first
    | (refine ug rfl (.tmp 56) (.tmp 62) 24 rfl (w1.heap.size+1) 95 i9 (.agg #[.slice none 0 0,.int .i64 0,.int .i64 0]) 3 40 (U Tryz.underlying24) nX.out.1 nX.out.2.1 nX.out.2.2.1 nX.out.2.2.2 rfl (by decide) _ j ((ts.reverse.take j).flatMap eG) rfl ?c0 ⟨wr.heap.size,0,none⟩ 1 1 [.slice A5 m5 c5,.int .i64 x.sum.lo,.int .i64 x.sum.hi] rfl rfl ?c1 ?c2 ?c3 ?c4 ?c5 ?_
       case c0=>first|exact Ahl h7.out _|exact Pa (Ahl h7.out _) 1
       case c1=>exact LO (Bk.new wr 95 _).drew
       case c2=>simp[Value.oneCell']
       case c3=>simp only[Aes];omega
       case c4=>omega
       case c5=>simp;omega
       intro v8 w8 aG dS;have Q0:Hid (Bk w8 w1.heap.size 26 #[.int .i64 b.ag,.slice PA np pc,.slice none 0 0,.slice A7 n7 c7]):=Afl ((hk.out.alloc _).drew.grown dS (λe=>by have:=ei h7.out _ e.symm;omega))
       have Yy:Hid (Below w1.heap.size w1 w8):=Afl ((iY (hb.out.alloc (by omega) _)).grown dS (by simp;omega) (λk hk=>by have:=ei h7.out k hk;omega))
       obtain⟨⟨r0,r1,r2,r3,lt⟩,-⟩:=S1.out w8 Yy.out;have q5: w8.cell? ⟨w1.heap.size,3,none⟩=some (.slice A7 n7 c7):=Q0.out.cell 3;have f3: w8.frozen? ⟨w1.heap.size,3,none⟩=false:=Q0.out.frozen 3;have RX:w1.heap.size+1<=w8.heap.size:=Q0.out.lt;obtain⟨A8,n8,c8,rfl⟩:=pw aG;have Bq:=Afl aG;clear aG dS))
   all_goals
    simp only[dP];go_wp2;go_roundw;case rel=>exact⟨j+1,_,_,by omega,rfl,by have:=oL.out.1;have:=oL.out.2;omega,Afl (by rw[Z3 (k:=k) (by rw[EL.out.2.2.2.2];have:=oL.out.1;have:=oL.out.2;omega) HX.out,Ahv];simpa [eG] using eo (p:=⟨w1.heap.size,3,none⟩) (u:=.slice A8 n8 c8) Bq.out (by simp)),Afl (Q0.out.set 3 _),Afl (Yy.out.setCell (by simp) _),by simp;omega⟩
    case measure=>(simp[Ahb];try omega)
  ·obtain rfl:nt=j:=by omega
   obtain rfl:z= -1:=by omega
   clear hz;have KV:=Afl (show wr.ownsRow (w1.heap.size+1) 95 3 (.slice A7 n7 c7) nt (ts.reverse.flatMap eG) from by
    have:=h7.out;rwa[Agc (by rw[Ajc,EL.out.2.2.2.2];exact Ad4 _)] at this)
   clear h7;go_wp2;go_loopw [9] (λu wq=>∃(j':Nat) (z:Int) (v8:Value),j'<=m/\u=.int .i64 z/\z=(m:Int) - 1 - j'/\Hid (wq.ownsRow (w1.heap.size+1) 59 3 v8 j' ((bs.reverse.take j').flatMap eP))/\Hid (wq.ownsRow (w1.heap.size+1) 95 3 (.slice A7 n7 c7) nt (ts.reverse.flatMap eG))/\
    Hid (Bk wq w1.heap.size 26 #[.int .i64 b.ag,.slice PA np pc,v8,.slice A7 n7 c7])/\Hid (Below w1.heap.size w1 wq)/\w1.heap.size+1<=wq.heap.size) (λu _=>(Ahb u+1).toNat)
   case atStart=>exact⟨0,_,_,Agl _,rfl,by omega,Afl ⟨rfl,.inl ⟨rfl,rfl⟩⟩,KV,hk,hb,aI⟩
   case round=>
    rename Abc=>wq
    clear hk hb aI;obtain⟨j',z,v8,qq,rfl,Vs,h8,h7,hk,hb,aI⟩:=hrel;obtain⟨A8,n8,c8,rfl⟩:=pw h8.out;clear r0 r1 r2 r3 lt st q5 KV;obtain⟨⟨r0,r1,r2,r3,lt⟩,st⟩:=S1.out wq hb.out;have q5: wq.cell? ⟨w1.heap.size,2,none⟩=some (.slice A8 n8 c8):=hk.out.cell 2;by_cases NA:j'<m
    ·obtain⟨k,qt⟩:∃k:Nat,k=m - 1 - j':=⟨_,rfl⟩
     obtain rfl:z=(k:Int):=by omega
     have da:k<m:=by omega
     have ap8:(k:Int)<m:=by omega
     obtain⟨ad,x,cs,rfl,aC,hx,⟨rfl,Ib,Oj⟩,-,au⟩:=R2.out k da;obtain⟨x,kv⟩:=x;simp only at Oj Ib;obtain⟨m5,rN⟩:∃k,k=x.cM.length:=⟨_,rfl⟩
     obtain⟨A5,c5,rfl,-⟩:=id Oj;rw[<-rN] at hx au;have g0:=cC au st.out aC rfl;have g1:=bK au st.out aC 0 rfl;have g2:=bK au st.out aC 1 rfl;have xD:(ad.add (k * 3)).block<wq.heap.size:=by rw[cq];omega
     have HX:=Afl hx;have f3:=hk.out.frozen 2;have ae4:w1.heap.size<wq.heap.size:=by omega
     have UP:w.heap.size<w1.heap.size:=yF;have q6:Adf.wrap ((k:Int) - 1)=(k:Int) - 1:=Aj0 _ (by omega)
     have dn:w1.heap.size≠w.heap.size:=by omega
     have oL:=Afl (Aee qt Vs);clear Oj rN au st hx qt Vs;go_wp2;refine Ke ?_
     go_region_law (first
      | (refine ug rfl (.tmp 74) (.tmp 80) 23 rfl (w1.heap.size+1) 59 i5 (.agg #[.string {data:=#[]},.int .i64 0,.slice none 0 0]) 3 48 (U Tryz.underlying23) yl.out.1 yl.out.2.1 yl.out.2.2.1 yl.out.2.2.2 rfl (by decide) _ j' ((bs.reverse.take j').flatMap eP) rfl ?c0 ⟨wq.heap.size,0,none⟩ 1 1 [.string x.name,.int .i64 x.aH,.slice A5 m5 c5] rfl rfl ?c1 ?c2 ?c3 ?c4 ?c5 ?_
         case c0=>first|exact Ahl h8.out _|exact Pa (Ahl h8.out _) 1
         case c1=>exact LO (Bk.new wq 59 _).drew
         case c2=>simp[Value.oneCell']
         case c3=>simp only[Aes];omega
         case c4=>omega
         case c5=>simp;omega
         intro v9 w8 aG dS;have Q0:Hid (Bk w8 w1.heap.size 26 #[.int .i64 b.ag,.slice PA np pc,.slice A8 n8 c8,.slice A7 n7 c7]):=Afl ((hk.out.alloc _).drew.grown dS (λe=>by have:=ei h8.out _ e.symm;omega))
         have Yy:Hid (Below w1.heap.size w1 w8):=Afl ((iY (hb.out.alloc (by omega) _)).grown dS (by simp;omega) (λk hk=>by have:=ei h8.out k hk;omega))
         have H78:Hid (w8.ownsRow (w1.heap.size+1) 95 3 (.slice A7 n7 c7) nt (ts.reverse.flatMap eG)):=Afl (EJ (Pa (Ahl h7.out _) 1) dS (λk hk e=>afY h8.out h7.out (by decide) k hk e))
         obtain⟨⟨r0,r1,r2,r3,lt⟩,-⟩:=S1.out w8 Yy.out;have q5: w8.cell? ⟨w1.heap.size,2,none⟩=some (.slice A8 n8 c8):=Q0.out.cell 2;have f3: w8.frozen? ⟨w1.heap.size,2,none⟩=false:=Q0.out.frozen 2;have RX:w1.heap.size+1<=w8.heap.size:=Q0.out.lt;obtain⟨A9,n9,c9,rfl⟩:=pw aG;have Bq:=Afl aG;clear aG dS))
     all_goals
      simp only[dP];go_wp2;go_roundw;case rel=>exact⟨j'+1,_,_,by omega,rfl,by have:=oL.out.1;have:=oL.out.2;omega,Afl (by rw[Z3 (k:=k) (by rw[EL.out.2.2.2.1];have:=oL.out.1;have:=oL.out.2;omega) HX.out,Ahv];simpa [eP] using eo (p:=⟨w1.heap.size,2,none⟩) (u:=.slice A9 n9 c9) Bq.out (by simp)),Afl (eo H78.out (by simp)),Afl (Q0.out.set 2 _),Afl (Yy.out.setCell (by simp) _),by simp;omega⟩
      case measure=>(simp[Ahb];try omega)
    ·obtain rfl:m=j':=by omega
     obtain rfl:z= -1:=by omega
     clear Vs;have O3:wq.ownsRow (w1.heap.size+1) 59 3 (.slice A8 n8 c8) bs.length (bs.reverse.flatMap eP):=by
      have:=h8.out;rwa[Agc (by rw[Ajc,EL.out.2.2.2.1];exact Ad4 _),<-EL.out.2.2.2.1] at this
     have Fl:wq.ownsRow (w1.heap.size+1) 95 3 (.slice A7 n7 c7) ts.length (ts.reverse.flatMap eG):=by
      have:=h7.out;rwa[<-EL.out.2.2.2.2] at this
     have BO:Hid (bg wq wq.heap.size (bI b) (.slice PA np pc) (.slice A8 n8 c8) (.slice A7 n7 c7)):=Afl
      (anK (by have:=lt;omega) st.out bT.out HT.out.1 HT.out.2 Bo.out.1 Bo.out.2 Fl O3)
     have BD:Hid (Below w.heap.size w wq):=Afl ((BW.out.trans (H1.out.mono (by omega))).trans (hb.out.mono (by omega)))
     have KBq:Hid (Bk wq w.heap.size 26 #[.int .i64 b.ag,.slice PA np pc,.slice A m c,.slice TA nt tc]):=Afl (KB.out.below (H1.out.trans (hb.out.mono (by omega))) (by omega))
     have KOq:Hid (Bk wq w1.heap.size 26 #[.int .i64 b.ag,.slice PA np pc,.slice A8 n8 c8,.slice A7 n7 c7]):=hk;have G:Hid (∀W,Below wq.heap.size wq W->bg W W.heap.size b (.slice PA np pc) (.slice A m c) (.slice TA nt tc)/\bg W W.heap.size (bI b) (.slice PA np pc) (.slice A8 n8 c8) (.slice A7 n7 c7)/\gI W/\Row W W.heap.size 1 sd (.slice KA nk kc) ps/\wq.heap.size<=W.heap.size):=Afl λW hW=>by
      have hs:=hW.size;have Z1:Still B w W:=(Still.aK BD.out hB).trans (Still.aK hW (by have:=BD.out.size;omega))
      exact⟨LA (bT.out.still Z1) (by have:=BD.out.size;omega),LA (BO.out.still (Still.aK hW (Ad4 _))) hs,(HM.out.below BD.out HM.out.lt).below hW (by omega),(HPS.out.still Z1 λ_ _ h=>h).more (by have:=BD.out.size;omega),hs⟩
     have SX:Hid (∀W,Below wq.heap.size wq W->(W.cell? ⟨w.heap.size,0,none⟩=some (.int .i64 b.ag)/\ W.cell? ⟨w.heap.size,1,none⟩=some (.slice PA np pc)/\ W.cell? ⟨w.heap.size,2,none⟩=some (.slice A m c)/\ W.cell? ⟨w.heap.size,3,none⟩=some (.slice TA nt tc))/\
      (W.cell? ⟨w1.heap.size,0,none⟩=some (.int .i64 b.ag)/\ W.cell? ⟨w1.heap.size,1,none⟩=some (.slice PA np pc)/\ W.cell? ⟨w1.heap.size,2,none⟩=some (.slice A8 n8 c8)/\ W.cell? ⟨w1.heap.size,3,none⟩=some (.slice A7 n7 c7))/\w1.heap.size<W.heap.size):=Afl λW hW=>
      have k:=KBq.out.below hW (by omega)
      have k':=KOq.out.below hW (by omega)
      ⟨⟨k.cell 0,k.cell 1,k.cell 2,k.cell 3⟩,⟨k'.cell 0,k'.cell 1,k'.cell 2,k'.cell 3⟩,k'.lt⟩
     have hv:=HV.out.2;have h0:=HV.out.1;have dV:=Afl (anG h0);obtain⟨n,hn⟩:∃n,n=Gt b:=⟨_,rfl⟩
     obtain⟨s,hs⟩:∃s,s=cj b 0:=⟨_,rfl⟩
     obtain⟨M1,EO⟩:∃z,z=lR b j6:=⟨_,rfl⟩
     obtain⟨F1,lN⟩:∃z,z=sn b j6:=⟨_,rfl⟩
     obtain⟨M2,G2⟩:∃z,z=lR b (qM b):=⟨_,rfl⟩
     obtain⟨F2,GY⟩:∃z,z=sn b (qM b):=⟨_,rfl⟩
     obtain⟨i,hi⟩:∃i,i=p % np:=⟨_,rfl⟩
     obtain⟨LL,ZX⟩:∃l,l=xa b i:=⟨_,rfl⟩
     have him:i<np:=by rw[hi];exact Nat.mod_lt _ (by omega)
     have QK:i<b.pieces.length:=by rw[EL.out.1];exact him
     have apF:((p:Int).tmod (np:Int))=(i:Int):=by rw[hi,Int.tmod_eq_emod_of_nonneg (by omega)];simp
     have NN:(np:Int)≠0:=by omega
     have apH:((np:Int)==0)=false:=by simp;omega
     have C22:Hid (∀W,Below wq.heap.size wq W->Aet lp 22 #[.agg #[.int .i64 b.ag,.slice PA np pc,.slice A m c,.slice TA nt tc]] W λe w'=>e=.returned (.tuple #[.int .i64 n,.int .i64 0])/\Below W.heap.size W w'):=Afl λW hW=>by
      have:=ZL (Ad4 _) (G.out W hW).1;rwa[h0,<-hn] at this
     have D22:Hid (∀W,Below wq.heap.size wq W->Aet lp 22 #[.agg #[.int .i64 b.ag,.slice PA np pc,.slice A8 n8 c8,.slice A7 n7 c7]] W λe w'=>e=.returned (.tuple #[.int .i64 n,.int .i64 0])/\Below W.heap.size W w'):=Afl λW hW=>by
      have:=ZL (Ad4 _) (G.out W hW).2.1;rwa[Bm h0,anJ h0,<-hn] at this
     have C24:Hid (∀W,Below wq.heap.size wq W->Aet lp 24 #[.agg #[.int .i64 b.ag,.slice PA np pc,.slice A m c,.slice TA nt tc],.int .i64 i] W λe w'=>∃A n c,e=.returned (.tuple #[.slice A n c,.int .i64 s])/\Row w' w'.heap.size 1 cH (.slice A n c) LL/\Below W.heap.size W w'):=Afl λW hW=>by
      have:=Sc (Ad4 _) (G.out W hW).1 QK;rwa[<-hs,<-ZX] at this
     have D24:Hid (∀W,Below wq.heap.size wq W->Aet lp 24 #[.agg #[.int .i64 b.ag,.slice PA np pc,.slice A8 n8 c8,.slice A7 n7 c7],.int .i64 i] W λe w'=>∃A n c,e=.returned (.tuple #[.slice A n c,.int .i64 s])/\Row w' w'.heap.size 1 cH (.slice A n c) LL/\Below W.heap.size W w'):=Afl λW hW=>by
      have:=Sc (Ad4 _) (G.out W hW).2.1 QK;rwa[th h0,anQ h0,<-hs,<-ZX] at this
     have C33:Hid (∀W,Below wq.heap.size wq W->Aet lp 33 #[.agg #[.int .i64 b.ag,.slice PA np pc,.slice A m c,.slice TA nt tc]] W λe w'=>(∃A n c,e=.returned (.tuple #[.slice A n c,.int .i64 M1,.bool F1,.int .i64 s]))/\Below W.heap.size W w'):=Afl λW hW=>(Md (Ad4 _) (G.out W hW).1 (G.out W hW).2.2.1).mono λe w' h=>by
      obtain⟨A,n,c,rfl,hb⟩:=yQ h;exact⟨⟨A,n,c,by rw[EO,lN,hs]⟩,hb⟩
     have D33:Hid (∀W,Below wq.heap.size wq W->Aet lp 33 #[.agg #[.int .i64 b.ag,.slice PA np pc,.slice A8 n8 c8,.slice A7 n7 c7]] W λe w'=>(∃A n c,e=.returned (.tuple #[.slice A n c,.int .i64 M1,.bool F1,.int .i64 s]))/\Below W.heap.size W w'):=Afl λW hW=>(Md (b:=bI b) (Ad4 _) (G.out W hW).2.1 (G.out W hW).2.2.1).mono λe w' h=>by
      obtain⟨A,n,c,rfl,hb⟩:=yQ h;exact⟨⟨A,n,c,by rw[EO,lN,hs,dV.out.1,dV.out.2.1,th h0]⟩,hb⟩
     have C36:Hid (∀W,Below wq.heap.size wq W->Aet lp 36 #[.agg #[.int .i64 b.ag,.slice PA np pc,.slice A m c,.slice TA nt tc]] W λe w'=>(∃A n c,e=.returned (.tuple #[.slice A n c,.int .i64 M2,.bool F2,.int .i64 s]))/\Below W.heap.size W w'):=Afl λW hW=>(Xm (Ad4 _) (G.out W hW).1 (G.out W hW).2.2.1).mono λe w' h=>by
      obtain⟨A,n,c,rfl,hb⟩:=yQ h;exact⟨⟨A,n,c,by rw[G2,GY,hs]⟩,hb⟩
     have D36:Hid (∀W,Below wq.heap.size wq W->Aet lp 36 #[.agg #[.int .i64 b.ag,.slice PA np pc,.slice A8 n8 c8,.slice A7 n7 c7]] W λe w'=>(∃A n c,e=.returned (.tuple #[.slice A n c,.int .i64 M2,.bool F2,.int .i64 s]))/\Below W.heap.size W w'):=Afl λW hW=>(Xm (b:=bI b) (Ad4 _) (G.out W hW).2.1 (G.out W hW).2.2.1).mono λe w' h=>by
      obtain⟨A,n,c,rfl,hb⟩:=yQ h;exact⟨⟨A,n,c,by rw[G2,GY,hs,dV.out.2.2.1,dV.out.2.2.2,th h0]⟩,hb⟩
     have QJ:Hid (∀W A n c A' n' c',Row W W.heap.size 1 cH (.slice A n c) LL->Row W W.heap.size 1 cH (.slice A' n' c') LL->Aet lp 30 #[.slice A n c,.slice A' n' c'] W λe w'=>e=.returned (.bool true)/\Below W.heap.size W w'):=Afl λW A n c A' n' c' h1 h2=>by
      have:=GK h1 h2 (Ad4 _);rwa[show decide (LL=LL)=true from decide_eq_true rfl] at this
     have C41:Hid (0<m->∀W,Below wq.heap.size wq W->Aet lp 41 #[.agg #[.int .i64 b.ag,.slice PA np pc,.slice A m c,.slice TA nt tc],.slice KA nk kc] W λe w'=>∃A' c',e=.returned (.slice A' np c')/\Row w' w'.heap.size 2 Cut.R (.slice A' np c') (eM b ps)/\Below W.heap.size W w'):=Afl λDN W hW=>by
      have gy:0<b.aF.length:=by have:=EL.out.2.1;omega
      refine(aeD (G.out W hW).1 (G.out W hW).2.2.2.1 (Ad4 _) (by have:=EL.out.1;omega) gy (by have:=EL.out.2.1;omega)).mono ?_
      rintro e w' ⟨u,rfl,ho,hb⟩;obtain⟨A',n',c',rfl⟩:=j8 ho;have US:=Be ho;rw[EL.out.1] at US;subst US;exact⟨A',c',rfl,lu (l:=eM b ps) (f:=Cut.vs) (by rw[(yP gy ps).1];exact ho) (λ_=>rfl) (λ_ _=>rfl),hb⟩
     obtain⟨D,hD⟩:∃d,d=zP b (eM b ps):=⟨_,rfl⟩
     have QI:Hid (0<m->∀W v,Below wq.heap.size wq W->Row W W.heap.size 2 Cut.R v (eM b ps)->Aet lp 28 #[.agg #[.int .i64 b.ag,.slice PA np pc,.slice A m c,.slice TA nt tc],v] W λe w'=>e=.returned (.tuple #[.int .i64 D,.int .i64 s])/\Below W.heap.size W w'):=Afl λDN W v hW hr=>by
      have:=O0 (Ad4 _) (G.out W hW).1 hr (yP (by have:=EL.out.2.1;omega) ps)
      rwa[<-hD,<-hs] at this
     have K7:Hid (0<m->∀W v,Below wq.heap.size wq W->Row W W.heap.size 2 Cut.R v ((eM b ps).map (en b))->Aet lp 28 #[.agg #[.int .i64 b.ag,.slice PA np pc,.slice A8 n8 c8,.slice A7 n7 c7],v] W λe w'=>e=.returned (.tuple #[.int .i64 D,.int .i64 s])/\Below W.heap.size W w'):=Afl λDN W v hW hr=>by
      have hg:=yP (b:=b) (by have:=EL.out.2.1;omega) ps
      have:=O0 (Ad4 _) (G.out W hW).2.1 hr (U0 hg);rwa[anM h0 hg,th h0,<-hD,<-hs] at this
     have H4:Hid (Below wq.heap.size wq wq):=Afl (Aft _ _);have s4:wq.heap.size<=wq.heap.size:=Ad4 _;have e1:(n !=n)=false:=by simp
     have e2:(s !=s)=false:=by simp
     have e3:(M1 !=M1)=false:=by simp
     have e4:(M2 !=M2)=false:=by simp
     have e5:(F1 !=F1)=false:=by simp
     have e6:(s==s)=true:=by simp
     have e7:(D==D)=true:=by simp
     clear r0 r1 r2 r3 lt q5 O3 Fl h8 h7 hk st hv h0 hn hs EO lN G2 GY ZX hi hD HT Bo R3 R2 KT S1 S0 ST;obtain⟨⟨r0,r1,r2,r3⟩,⟨u0,u1,u2,u3⟩,lt⟩:=SX.out wq H4.out;go_wp2
     go_at_call 22
     refine(C22.out wq H4.out).mono ?_
     rintro e w5 ⟨rfl,jS⟩;have eR:=H4.out.trans (jS.mono s4);have s5:wq.heap.size<=w5.heap.size:=eR.size;clear r0 r1 r2 r3 u0 u1 u2 u3 lt;obtain⟨⟨r0,r1,r2,r3⟩,⟨u0,u1,u2,u3⟩,lt⟩:=SX.out w5 eR;have H5:=Afl eR;clear eR jS;go_wp2
     go_at_call 22
     refine(D22.out w5 H5.out).mono ?_
     rintro e w6 ⟨rfl,jS⟩;have fI:=H5.out.trans (jS.mono s5);have s6:wq.heap.size<=w6.heap.size:=fI.size;clear r0 r1 r2 r3 u0 u1 u2 u3 lt;obtain⟨⟨r0,r1,r2,r3⟩,⟨u0,u1,u2,u3⟩,lt⟩:=SX.out w6 fI;have H6:=Afl fI;clear fI jS;go_wp2
     go_at_call 24
     refine(C24.out w6 H6.out).mono ?_
     rintro e w7 ⟨XA,nx,cx,rfl,hx,jS⟩;have jx:=H6.out.trans (jS.mono s6);have s7:wq.heap.size<=w7.heap.size:=jx.size;clear r0 r1 r2 r3 u0 u1 u2 u3 lt;obtain⟨⟨r0,r1,r2,r3⟩,⟨u0,u1,u2,u3⟩,lt⟩:=SX.out w7 jx;have RX7:=Afl hx;clear hx;have H7:=Afl jx;clear jx jS;go_wp2
     go_at_call 24
     refine(D24.out w7 H7.out).mono ?_
     rintro e w8 ⟨YA,ny,cy,rfl,hx,jS⟩;have Ah:=H7.out.trans (jS.mono s7);have s8:wq.heap.size<=w8.heap.size:=Ah.size;clear r0 r1 r2 r3 u0 u1 u2 u3 lt;obtain⟨⟨r0,r1,r2,r3⟩,⟨u0,u1,u2,u3⟩,lt⟩:=SX.out w8 Ah;have RX8:=Afl (Px RX7.out jS);have RY8:=Afl hx;clear hx;have H8:=Afl Ah;clear Ah jS;go_wp2
     go_at_call 33
     refine(C33.out w8 H8.out).mono ?_
     rintro e w9 ⟨⟨a1,b1,d1,rfl⟩,jS⟩;have oZ:=H8.out.trans (jS.mono s8);have s9:wq.heap.size<=w9.heap.size:=oZ.size;clear r0 r1 r2 r3 u0 u1 u2 u3 lt;obtain⟨⟨r0,r1,r2,r3⟩,⟨u0,u1,u2,u3⟩,lt⟩:=SX.out w9 oZ;have RX9:=Afl (Px RX8.out jS);have RY9:=Afl (Px RY8.out jS);have H9:=Afl oZ;clear oZ jS;go_wp2
     go_at_call 33
     refine(D33.out w9 H9.out).mono ?_
     rintro e S6 ⟨⟨a2,b2,d2,rfl⟩,jS⟩;have yT:=H9.out.trans (jS.mono s9);have ET:wq.heap.size<=S6.heap.size:=yT.size;clear r0 r1 r2 r3 u0 u1 u2 u3 lt;obtain⟨⟨r0,r1,r2,r3⟩,⟨u0,u1,u2,u3⟩,lt⟩:=SX.out S6 yT;have adz:=Afl (Px RX9.out jS);have adH:=Afl (Px RY9.out jS);have TW:=Afl yT;clear yT jS;go_wp2
     go_at_call 36
     refine(C36.out S6 TW.out).mono ?_
     rintro e HU ⟨⟨a3,b3,d3,rfl⟩,jS⟩;have yW:=TW.out.trans (jS.mono ET);have E0:wq.heap.size<=HU.heap.size:=yW.size;clear r0 r1 r2 r3 u0 u1 u2 u3 lt;obtain⟨⟨r0,r1,r2,r3⟩,⟨u0,u1,u2,u3⟩,lt⟩:=SX.out HU yW;have adA:=Afl (Px adz.out jS);have adI:=Afl (Px adH.out jS);have TZ:=Afl yW;clear yW jS;go_wp2
     go_at_call 36
     refine(D36.out HU TZ.out).mono ?_
     rintro e Tf ⟨⟨a4,b4,d4,rfl⟩,jS⟩;have zl:=TZ.out.trans (jS.mono E0);have E4:wq.heap.size<=Tf.heap.size:=zl.size;clear r0 r1 r2 r3 u0 u1 u2 u3 lt;obtain⟨⟨r0,r1,r2,r3⟩,⟨u0,u1,u2,u3⟩,lt⟩:=SX.out Tf zl;have adB:=Afl (Px adA.out jS);have adJ:=Afl (Px adI.out jS);have H12:=Afl zl;clear zl jS;go_wp2
     go_at_call 30
     refine(QJ.out Tf _ _ _ _ _ _ adB.out adJ.out).mono ?_
     rintro e JY ⟨rfl,jS⟩;have zo:=H12.out.trans (jS.mono E4);have WX:wq.heap.size<=JY.heap.size:=zo.size;clear r0 r1 r2 r3 u0 u1 u2 u3 lt;obtain⟨⟨r0,r1,r2,r3⟩,⟨u0,u1,u2,u3⟩,lt⟩:=SX.out JY zo;have K8:=Afl zo;clear zo jS;rcases Agk m with rfl|DN
     ·have hmz:(((0:Nat):Int)==0)=true:=by simp
      go_wp2
      go_at_call 21
      refine(P3 _).mono ?_
      rintro e w' ⟨rfl,rfl⟩;go_wp2;exact⟨rfl,rfl,rfl⟩
     have hmz:((m:Int)==0)=false:=by simp;omega
     go_wp2
     go_at_call 41
     refine(C41.out DN JY K8.out).mono ?_
     rintro e o3 ⟨CA,cc,rfl,gP,jS⟩;have zq:=K8.out.trans (jS.mono WX);have V5:wq.heap.size<=o3.heap.size:=zq.size;clear r0 r1 r2 r3 u0 u1 u2 u3 lt;obtain⟨⟨r0,r1,r2,r3⟩,⟨u0,u1,u2,u3⟩,lt⟩:=SX.out o3 zq;have Bs:=Afl gP;clear gP;have K9:=Afl zq;clear zq jS;go_wp2;have HG:=Afl (yP (b:=b) (by have:=EL.out.2.1;omega) ps)
     have fY:Hid ((eM b ps).length=np):=Afl (by rw[HG.out.1,EL.out.1])
     obtain⟨CS,O5⟩:∃l,l=eM b ps:=⟨_,rfl⟩
     rw[<-O5] at Bs fY HG QI K7;have QN:=Bs.out;obtain⟨_,n',c',e',agF,-,-,gP⟩:=QN.open_;cases e';have RCC:=Afl gP;have afr:=K9.out.size;have PG:Hid (b.aF.length=m):=Afl EL.out.2.1;clear O5 QN agF gP;go_loopw [36,37] (λu v wr=>∃(q:Nat) (z:Value),q<=np/\v=.int .i64 q/\u=z/\Hid (wr.ownsRow o3.heap.size 56 2 z q (((CS.map (en b)).take q).flatMap Cut.vs))/\Hid (Below o3.heap.size o3 wr)) (λ_ v _=>np - (Ahb v).toNat)
     case atStart=>exact⟨0,_,Agl _,rfl,rfl,Afl ⟨rfl,.inl ⟨rfl,rfl⟩⟩,Afl (Aft _ _)⟩
     case round=>
      rename Abc=>wt
      obtain⟨q,z,hq,rfl,hz,aG,hb⟩:=hrel;obtain rfl:=hz.symm;have vb:=K9.out.trans (hb.out.mono afr);have ht:=hb.out.size;clear r0 r1 r2 r3 u0 u1 u2 u3 lt;obtain⟨⟨r0,r1,r2,r3⟩,⟨u0,u1,u2,u3⟩,lt⟩:=SX.out wt vb;have Bp:=Afl vb;clear vb;by_cases ae6:q<np
      ·obtain⟨ad,x,cs,rfl,aC,hx,rfl,-,au⟩:=RCC.out q ae6
       have st:Still o3.heap.size o3 wt:=Still.aK hb.out (Ad4 _);have g0:=cC au st aC rfl;have g1:=bK au st aC 0 rfl;have xD:(ad.add (q * 2)).block<wt.heap.size:=by rw[cq];omega
       have mD:(q:Int)<np:=by omega
       obtain⟨⟨k,dg,cP⟩,fh⟩:=HG.out.2 x (Agd hx);have Oi:0<=x.bp/\x.bp<m:=by rw[PG.out] at cP;omega
       have v1:Adf.wrap ((m:Int) - 1 - x.bp)=(m:Int) - 1 - x.bp:=Aj0 _ (by omega)
       have RO:Cut.vs (en b x)=[.int .i64 ((m:Int) - 1 - x.bp),.int .i64 x.from_]:=by unfold en Cut.vs;rw[PG.out]
       have HX:=Afl (Aee hx RO);clear au st hx dg cP fh RO;go_wp2;refine Ke ?_
       go_region_law (first
        | (go_simp;go_at_call 66;refine(di _ _ _).mono ?_;rintro e w' ⟨rfl,rfl⟩)
        | (refine ug rfl (.tmp 200) (.tmp 217) 27 rfl o3.heap.size 56 i6 (.agg #[.int .i64 0,.int .i64 0]) 2 16 (U Tryz.underlying27) yn.out.1 yn.out.2.1 yn.out.2.2.1 yn.out.2.2.2 rfl (by decide) _ q _ rfl (show World.ownsRow _ _ _ _ _ _ _ from(aG.out.alloc _).alloc _) ⟨wt.heap.size+1,0,none⟩ 1 1 [.int .i64 ((m:Int) - 1 - x.bp),.int .i64 x.from_] rfl rfl ?c1 ?c2 ?c3 ?c4 ?c5 ?_
           case c1=>(intro j u hu;match j,hu with|0,hu=>(simp at hu;subst hu;simp[go_sem,Addr.add]) |1,hu=>(simp at hu;subst hu;simp[go_sem,Addr.add]))
           case c2=>simp[Value.oneCell']
           case c3=>(simp only[Aes];omega)
           case c4=>omega
           case c5=>(simp;omega)
           intro v' wz cK dT;have gW:=Afl cK;have gV:=Afl dT;clear cK dT))
       all_goals
        simp only[dP];go_wp2;go_roundw;case rel=>exact⟨q+1,_,by omega,by go_num,rfl,Afl (by
            rw[List.take_add_one,Ahy,HX.out.1]
            simp only[Agt,Option.toList_some,Ahv,List.flatMap_cons,List.flatMap_nil,List.append_nil,HX.out.2];exact gW.out),Afl ((hb.out.trans (show Aj5 o3.heap.size wt _ from iY (((Aft _ _).alloc ht _).alloc (by simp;omega) _))).grown gV.out (by simp;omega) (λk hk=>ei aG.out k hk))⟩
        case measure=>(simp[Ahb];try omega)
      ·obtain rfl:np=q:=by omega
       have ai:Row wt wt.heap.size 2 Cut.R z (CS.map (en b)):=lu (l:=CS.map (en b)) (f:=Cut.vs) (by
        have:=aG.out;rwa[Agc (by rw[Aib,fY.out];exact Ad4 _),<-fY.out,<-Aib (en b)] at this) (λ_=>rfl) (λ_ _=>rfl)
       obtain⟨ZA,zn,zc,rfl⟩:=pw aG.out;have RZ:=Afl ai;have adv:=Afl (Px Bs.out hb.out);have aht:wq.heap.size<=wt.heap.size:=Bp.out.size;clear ai aG;go_wp2
       go_at_call 28
       refine(QI.out DN wt _ Bp.out adv.out).mono ?_
       rintro e w16 ⟨rfl,jS⟩;have B9:=Bp.out.trans (jS.mono aht);clear r0 r1 r2 r3 u0 u1 u2 u3 lt;obtain⟨⟨r0,r1,r2,r3⟩,⟨u0,u1,u2,u3⟩,lt⟩:=SX.out w16 B9;have adO:=Afl (Px RZ.out jS);have H16:=Afl B9;clear B9 jS;go_wp2
       go_at_call 28
       refine(K7.out DN w16 _ H16.out adO.out).mono ?_
       rintro e w17 ⟨rfl,jS⟩;clear jS;go_wp2
       go_at_call 21
       refine(P3 _).mono ?_
       rintro e w' ⟨rfl,rfl⟩;go_wp2;exact⟨rfl,rfl,rfl⟩
end Go.Jn
end
