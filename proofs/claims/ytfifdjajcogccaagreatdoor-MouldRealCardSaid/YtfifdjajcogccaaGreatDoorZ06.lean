import Derived.Test.YtfifdjajcogccaaGreatDoorZ01
import Derived.Test.YtfifdjajcogccaaGreatDoorZ00
import Derived.Test.YtfifdjajcogccaaGreatDoorZ02
import Derived.Test.YtfifdjajcogccaaGreatDoorZ03
import Derived.Orders
import Derived.IntWalk
import Derived.Laws.AppendOwn
import Derived.Conc.Holds
import Derived.ProofKit
import Derived.SizedLaws
import Derived.LaidMore
import Derived.Test.YtfifdjajcogccaaGreatDoorRows
import Derived.ChangeArms
import Derived.DataReads
import Derived.ChangeSame
import Derived.OpenShut
import Derived.Stop.Joined
import Derived.Conc.LeavingOf
import Derived.Test.YtfifdjajcogccaaGreatDoorCards
import Derived.LaidByTextLater
import Derived.SevenTiedAt
import Derived.LaidOnce
import Derived.KernelRfl
set_option linter.all false
set_option maxHeartbeats 64000000
set_option maxRecDepth 100000
open And renaming intro -> ϐ
open Array renaming replicate -> Θ, getElem?_of_mem -> Ajr, getElem?_eq_some_iff -> Ϟ, getElem?_setIfInBounds_ne -> Aa0, getElem?_map -> Aa1, size_setIfInBounds -> Aem, mem_iff_getElem -> Aay, getElem?_eq_getElem -> Aaz, getElem?_setIfInBounds_self_of_lt -> Ajs, append_empty -> Aag, mapM_eq_mapM_toList -> Aak, ext_getElem? -> Ajt, getElem?_setIfInBounds -> Aai, map_empty -> Aju, push_eq_append -> Aae, getElem?_push -> Aah, getD_eq_getD_getElem? -> Aaa, mem_replicate -> Aav, all_eq_true_iff_forall_mem -> Aal, mem_of_getElem? -> Aax, getElem?_eq_none -> Aan, ofFn -> Ajv, getElem_ofFn -> Ajw, getElem?_ofFn -> Ajx, getElem?_mapIdx -> Aep, getElem?_toList -> Ag4
open Bool renaming false_eq_true -> Aa2, and_eq_true -> Aa3, not_eq_true' -> Ajy
open Classical renaming choose -> Aa6, choose_spec -> Aa7
open Go renaming Program -> ϑ, Func -> Ϣ, Goroutine -> ώ, Frame -> Ϙ, Item -> Ajz, Deferred -> Abf, FuncId -> Ϫ, Code -> ϖ, CallKind -> Aj0, stepG -> ϛ, Oper -> Ϝ, Operand -> Abp, yielded -> Aj2, Event -> ϥ, goexitEntry -> Aj3, Trace -> ϭ, runNT -> Aj4, callDeferred -> Abw, unwind -> Abx, TypeId -> ό, TypeInfo -> Aj5, Calls -> ύ, MemPlace -> Aj6
open Go.Conc renaming served -> Ϭ
open Go.Frame renaming eval -> Ack, oper? -> Aj7, finish -> Acj, enter -> Aci
open Go.GStep renaming after -> Acm
open Go.Goroutine renaming callers -> Aj8
open Go.Proofs.Tryz renaming prog -> ϋ
open Go.Region renaming wanted -> Aj9, ready -> Aka, schedule -> Akb
open Go.Region.linearise renaming go -> Akc
open Go.Sem renaming bind -> Ϯ, runT -> ϧ, pure -> Akd
open Go.World renaming grownBy_alloc -> ϻ, cell?_of_block -> Aho, putObj_heap_same -> Ahl, putObj_heap_other -> Ahm, cell?_alloc_lt -> Afz, doorLaid -> Ake, cell?_setCell_far -> Aiv
open Go.stepG renaming exec -> Ad8, oper -> Akf, apply -> Ad7
open List renaming mem_of_getElem? -> ϩ, mapM_nil -> Akg, all_eq_true -> Akh, map_toArray -> Aki, map_cons -> Akj, map_nil -> Akk, mem_toArray -> Af1, mem_singleton -> Af2, mem_cons -> ϫ, not_mem_nil -> Λ, getElem?_eq_getElem -> Af9, getElem?_take -> Akl, drop -> Akm, take -> Akn
open Nat renaming le_refl -> ϊ, eq_zero_or_pos -> Ako, le_trans -> Ϥ, lt_of_lt_of_le -> Ϡ, le_succ_of_le -> Akp
open Option renaming map_some -> Ag3, getD_some -> Akq, map_eq_some_iff -> Aef, bind_eq_some_iff -> Akr
open Option.some renaming inj -> ϟ, injEq -> Aeh
open Bool renaming true -> θ, false -> χ
open Go renaming Value -> υ, undef -> ω, World -> Ψ
open Go.Ending renaming returned -> Ω
open Go.IntKind renaming i64 -> κ
open Go.Lib renaming hid -> ψ
open Go.Obj renaming cells -> Ξ
open Go.RowKit renaming Below -> Γ, Below -> Γ
open Go.Value renaming slice -> ζ, pointer -> π, tuple -> μ, agg -> η, int -> ξ
open Option renaming some -> φ, none -> ν
noncomputable section
namespace Go.Jn
open Go Go.Sim
def WY{P:ϑ}{F:Array Ϣ}{C:bQ}{S:Tl}{G:Nat->Bool}(E:Env P F C G)(hh:∀f,C.hole f=χ){Q:ώ->Ψ->Prop}{g:ώ}{w:Ψ}
 (h:Sim.Safe (tw P F) Q g w)(hi:Inv C S G g w):Sim.Safe (tw P F) (λg w=>Q g w/\bJ w.heap) g w:=by
 induction h with
 |stop hq=>exact .stop ⟨hq,hi.1⟩
 |step nx h _ ih=>
  refine .step nx h λT=>ih T ?_
  obtain⟨⟨es,h1⟩,h2⟩:=h T;exact(hi.aZ T).step E hh h1 h2
section
variable {P:ϑ}{F:Array Ϣ}{C:bQ}{G:Nat->Bool}
def Lu{S:Tl}{ρ:Ren}{b:Bool}{bh:List Ϙ}(h:Below C S ρ b [] bh):b=θ/\bh=S.callers:=by
 cases h;exact⟨rfl,rfl⟩
def VR{S:Tl}{ρ:Ren}{k':List Ajz}(h:oc C S ρ θ [.code di] k'):k'=S.items:=by
 cases h with
 |stop=>rfl
 |cons _ t=>cases t
def xf{S:Tl}{ρ:Ren}{k':List Abf}(h:jJ S ρ θ [cQ] k'):k'=S.defers:=by
 cases h with
 |stop=>rfl
 |cons _ t=>cases t
def amT(E:Env P F C G)(hh:∀f,C.hole f=χ){main:Bool}(S:Tl){M:aaa}{ρ:Ren}{f:Ϫ}{c:ϖ}(hc:C.clean c){a:Act}{t':Array υ}{w w':Ψ}(hk:(S.kind==.early)=χ)
 (hd:a.defers=[cQ]){QL:Exit->Act->Ψ->Prop}
 (hl:∀T,c.wp (tw P F) (λe bB aa=>(e=.normal/\bB.defers=[cQ]\/e=.ret)/\QL e bB aa) a (aZ w T))
 (hw:bV C ρ w w')(hg:∀g,G g=θ->ρ g g)(hf:Fits M ρ w)(gN:∀b,M.has b->b<w'.heap.size)(hn:bJ w.heap)(ht:aP ρ a.tmps t')
 {Stop:aaa->ώ->Ψ->Prop}
 (post:∀e bB aa bS aE eV aA,QL e bB aa->gX M ρ w w' bS aE aa aA->bV C aE aa aA->Fits bS aE aa->(∀b,bS.has b->b<aA.heap.size)->(∀g,G g=θ->aE g g)->bJ aa.heap->aP aE bB.tmps eV->
   (e=.normal->bB.defers=[cQ]->Stop bS (aO ⟨f,eV,S.items,S.defers,.run,S.kind,ν⟩ S.callers) aA)/\
   (e=.ret->∀sH D',jJ S aE θ bB.defers D'->Stop bS (aO ⟨f,eV,sH,D',.returning,S.kind,ν⟩ S.callers) aA)):
 Walk P main Stop M (aO ⟨f,t',.code c::S.items,S.defers,.run,S.kind,ν⟩ S.callers) w':=by
 let b:Ϙ:={ (default:Ϙ) with fn:=f,kind:=.normal}
 let Q:ώ->Ψ->Prop:=λg w=>∃T e bB todo m,QL e bB (aZ w T)/\g=aO ⟨f,bB.tmps,todo,bB.defers,m,.normal,ν⟩ []/\
  (e=.normal/\todo=[.code di]/\m=.run/\bB.defers=[cQ]\/e=.ret/\m=.returning)
 have b7:eS C S ρ θ (b.at a [.code c,.code di]) ⟨f,t',.code c::S.items,S.defers,.run,S.kind,ν⟩:=
  .mk f ht (.cons (.code c hc) .stop) (by rw[hd];exact .stop) .run .none ⟨λh=>by simp at h,λ_=>rfl,λh=>absurd rfl h,λh=>by simp at h,hk,λ_=>rfl⟩
 have eh:sP P (tw P F) C S ρ (aO (b.at a [.code c,.code di]) []) (aO ⟨f,t',.code c::S.items,S.defers,.run,S.kind,ν⟩ S.callers):=.inside b7 .base;have hi:Inv C S G (aO (b.at a [.code c,.code di]) []) w:=⟨hn,ρ,θ,_,_,_,_,w',rfl,hg,b7,.base,hw⟩;have N8:Sim.Safe (tw P F) Q (aO (b.at a [.code c,.code di]) []) w:=by
  refine PD (S:=S) E hh ?_ ?_ hi ?_
  ·rintro g w T ⟨T',e,bB,todo,m,h1,h2,h3⟩
   exact⟨T',e,bB,todo,m,h1,h2,h3⟩
  ·rintro g w ⟨T',e,bB,todo,m,h1,rfl,h3⟩ ch
   rcases h3 with⟨_,_,rfl,_⟩ | ⟨_,rfl⟩<;>simp
  ·intro T
   obtain⟨e,bB,aa,⟨h1,h2⟩,h3⟩:=hl T b [.code di] [];rcases h1 with⟨rfl,jT⟩ |rfl
   ·obtain⟨n,hr⟩:=h3
    exact⟨n,_,_,aa,hr,aa.tape,.normal,bB,[.code di],.run,h2,rfl,.inl ⟨rfl,rfl,rfl,jT⟩⟩
   ·obtain⟨todo,n,hr⟩:=h3
    exact⟨n,_,_,aa,hr,aa.tape,.ret,bB,todo,.returning,h2,rfl,.inr ⟨rfl,rfl⟩⟩
 refine X7 E main (WY E hh N8 hi) ⟨eh,hw,hg,hf,gN⟩ ?_
 intro bS aE dG aa eZ aA hR bY _ _ hq;obtain⟨gr,core,gL,fits,low⟩:=hR;cases gr with
 |hole f hf=>rw[hh] at hf;simp at hf
 |inside vg Dc=>
  obtain⟨⟨T,e,bB,todo,m,h1,h2,h3⟩,qx⟩:=hq.resolve_right λh=>h ⟨_,_,_,_,_,rfl,rfl,vg,Dc⟩
  have e1:=congrArg Goroutine.frame h2;have e2:=congrArg Aj8 h2;simp only at e1 e2;subst e1 e2;obtain⟨rfl,rfl⟩:=Lu Dc;have LU:bV C aE (aZ aa T) aA:=core.left rfl;cases vg with
  |mk _ ym dg jT rM ye gM=>
   cases ye;have PK:gX M ρ w w' bS aE (aZ aa T) aA:=⟨bY.le,bY.new,bY.mP,bY.fQ,bY.kE,bY.im,bY.R,bY.O,bY.On,bY.tape,bY.os,bY.e⟩;have qt:=gM.Cv rfl;subst qt;have:=post e bB (aZ aa T) bS aE _ aA h1 PK LU fits low gL qx ym;rcases h3 with⟨rfl,rfl,rfl,Ue⟩ | ⟨rfl,rfl⟩
   ·have hD:=jT
    rw[Ue] at hD;rw[VR dg,xf hD];exact this.1 rfl Ue
   ·exact this.2 rfl _ _ jT
end
end Go.Jn
namespace Go.Jn
open Go Go.Sim
abbrev rg(f:Ϫ)(t:Array υ)(k:List Ajz)(D:List Abf)(kd:Aj0)(cs:List Ϙ):ώ:=aO ⟨f,t,k,D,.run,kd,ν⟩ cs
def L2(M:aaa)(w:Ψ):M.grow w w=M:=by
 unfold aaa.grow;have:(λb=>M.O b\/(w.heap.size<=b/\b<w.heap.size))=M.O:=funext λb=>propext ⟨λh=>h.elim id λh=>absurd h.1 (by omega),.inl⟩
 rw[this]
section
variable {P:ϑ}{main:Bool}{Stop:aaa->ώ->Ψ->Prop}{M:aaa}{w:Ψ}
def kM{g g':ώ}(hr:g.status=.running)(h:∀aa,ϛ P main g aa=.go g' aa #[])(k:Walk P main Stop M g' w):Walk P main Stop M g w:=
 .step hr (λaa=>(g',aa,#[])) (λaa _=>⟨h aa,eO.idle M aa⟩) λaa hk=>by
  show Walk P main Stop (M.grow aa aa) g' aa;rw[L2];exact k.rely hk
variable {f:Ϫ}{t:Array υ}{k:List Ajz}{D:List Abf}{kd:Aj0}{cs:List Ϙ}
def fF{x y:ϖ}(h:Walk P main Stop M (rg f t (.code x:: .code y::k) D kd cs) w):Walk P main Stop M (rg f t (.code (.seq x y)::k) D kd cs) w:=
 kM rfl (λaa=>by simp[ϛ,Ad8]) h
def Qq(h:Walk P main Stop M (rg f t k D kd cs) w):Walk P main Stop M (rg f t (.code .skip::k) D kd cs) w:=
 kM rfl (λaa=>by simp[ϛ,Ad8]) h
def BL{id:Nat}{c:ϖ}(h:Walk P main Stop M (rg f t (.code c:: .inBlock id::k) D kd cs) w):Walk P main Stop M (rg f t (.code (.block id c)::k) D kd cs) w:=
 kM rfl (λaa=>by simp[ϛ,Ad8]) h
def Qn{id:Nat}(h:Walk P main Stop M (rg f t k D kd cs) w):Walk P main Stop M (rg f t (.inBlock id::k) D kd cs) w:=
 kM rfl (λaa=>by simp[ϛ,Ad8]) h
def Qp{c:ϖ}(h:Walk P main Stop M (rg f t (.code c:: .inLoop c::k) D kd cs) w):Walk P main Stop M (rg f t (.code (.loop c)::k) D kd cs) w:=
 kM rfl (λaa=>by simp[ϛ,Ad8]) h
def Qo{c:ϖ}(h:Walk P main Stop M (rg f t (.code c:: .inLoop c::k) D kd cs) w):Walk P main Stop M (rg f t (.inLoop c::k) D kd cs) w:=
 kM rfl (λaa=>by simp[ϛ,Ad8]) h
def Qm{id:Nat}{k':List Ajz}(hk:exitTo id k=φ k')(h:Walk P main Stop M (rg f t k' D kd cs) w):Walk P main Stop M (rg f t (.code (.exit id)::k) D kd cs) w:=
 kM rfl (λaa=>by simp[ϛ,Ad8,hk]) h
def Bl{n:Nat}{x y:ϖ}{q:Bool}(hq:t.getD n ω=.bool q)(h:Walk P main Stop M (rg f t (.code (if q then x else y)::k) D kd cs) w):Walk P main Stop M (rg f t (.code (.cond (.tmp n) x y)::k) D kd cs) w:=
 kM rfl (λaa=>by
  have:Ack ⟨f,t,.code (.cond (.tmp n) x y)::k,D,.run,kd,ν⟩ (.tmp n)=.bool q:=hq;simp[ϛ,Ad8,this]) h
def am2(h:Walk P main Stop M (aO ⟨f,t,.code .ret::k,D,.returning,kd,ν⟩ cs) w):Walk P main Stop M (rg f t (.code .ret::k) D kd cs) w:=
 kM rfl (λaa=>by simp[ϛ,Ad8]) h
def am0(h:Walk P main Stop M (aO ⟨f,t,[],D,.returning,kd,ν⟩ cs) w):Walk P main Stop M (rg f t [] D kd cs) w:=
 kM rfl (λaa=>by simp[ϛ,Ad8]) h
def gH{id:Nat}{ops:Array Ϝ}(h:Walk P main Stop M (rg f t (.inRegion ops (List.range ops.size)::k) D kd cs) w):Walk P main Stop M (rg f t (.code (.region id ops χ)::k) D kd cs) w:=
 kM rfl (λaa=>by simp[ϛ,Ad8]) h
def iA{ops:Array Ϝ}(h:Walk P main Stop M (rg f t k D kd cs) w):Walk P main Stop M (rg f t (.inRegion ops []::k) D kd cs) w:=
 kM rfl (λaa=>by simp[ϛ,Ad8]) h
end
end Go.Jn
namespace Go.Jn
open Go Go.Sim
def aS(t:Array υ):Abp->υ:=(Act.mk t []).eval
def tf{f:Ϫ}{t:Array υ}{k:List Ajz}{D:List Abf}{kd:Aj0}:Ack ⟨f,t,k,D,.run,kd,ν⟩=aS t:=by
 funext x;cases x<;>rfl
def ay(t:Array υ)(d:Option Tmp)(v:υ):Array υ:=match d with
 |some d=>t.setIfInBounds d v
 |none=>t
section
variable {P:ϑ}{main:Bool}{Stop:aaa->ώ->Ψ->Prop}{M:aaa}{w:Ψ}
variable {f:Ϫ}{t:Array υ}{k:List Ajz}{D:List Abf}{kd:Aj0}{cs:List Ϙ}
def Jd{ops:Array Ϝ}{i:Nat}{rest:List Nat}{o:Ϝ}(ho:ops[i]?=φ o)(hg:Aj9 o (Aj2 ops t)=θ)(hk:(kd==.early)=χ)
 {aa aq:Ψ}{v:υ}{es:Array ϥ}(hr:(execOp (aS t) o).runT P aa #[]=(.ok (.value v) aq,es)):
 ϛ P main (rg f t (.inRegion ops (i::rest)::k) D kd cs) aa=.go (rg f (ay t o.dst v) (.inRegion ops rest::k) D kd cs) aq (seen P f es):=by
 have e1:Ack ⟨f,t,.inRegion ops (i::rest)::k,D,.run,kd,ν⟩=aS t:=tf;simp only[ϛ,Ad8,ho,Ag3,hg,Akq,if_true,Akf,Aj7,Ad7,e1,hr];cases hd:o.dst<;>simp[Acj,ho,hd,ay,hk,Acm]
def Xy{ops:Array Ϝ}{i:Nat}{rest:List Nat}{o:Ϝ}(ho:ops[i]?=φ o)(hg:Aj9 o (Aj2 ops t)=θ)(hk:(kd==.early)=χ)
 {aa aq:Ψ}{es:Array ϥ}(hr:(execOp (aS t) o).runT P aa #[]=(.ok .skip aq,es)):
 ϛ P main (rg f t (.inRegion ops (i::rest)::k) D kd cs) aa=.go (rg f (ay t o.dst ω) (.inRegion ops rest::k) D kd cs) aq (seen P f es):=by
 have e1:Ack ⟨f,t,.inRegion ops (i::rest)::k,D,.run,kd,ν⟩=aS t:=tf;simp only[ϛ,Ad8,ho,Ag3,hg,Akq,if_true,Akf,Aj7,Ad7,e1,hr];cases hd:o.dst<;>simp[Acj,ho,hd,ay,hk,Acm]
def alR{ops:Array Ϝ}{i:Nat}{rest:List Nat}{o:Ϝ}(ho:ops[i]?=φ o)(hg:Aj9 o (Aj2 ops t)=θ)(hk:(kd==.early)=χ)
 {aa:Ψ}{d:Abf}(hr:(execOp (aS t) o).runT P aa #[]=(.ok (.defer d) aa,#[])):
 ϛ P main (rg f t (.inRegion ops (i::rest)::k) D kd cs) aa=.go (rg f (ay t o.dst ω) (.inRegion ops rest::k) (d::D) kd cs) aa #[]:=by
 have e1:Ack ⟨f,t,.inRegion ops (i::rest)::k,D,.run,kd,ν⟩=aS t:=tf;simp only[ϛ,Ad8,ho,Ag3,hg,Akq,if_true,Akf,Aj7,Ad7,e1,hr];cases hd:o.dst<;>simp[Acj,ho,hd,ay,hk,Acm,seen]
def Xz{ops:Array Ϝ}{i:Nat}{rest:List Nat}{o:Ϝ}(ho:ops[i]?=φ o)(hg:Aj9 o (Aj2 ops t)=θ)(hk:(kd==.early)=χ)
 {aa:Ψ}{d:Abf}(hn:d.target≠ .nil)(hr:(execOp (aS t) o).runT P aa #[]=(.ok (.spawn d) aa,#[])):
 ϛ P main (rg f t (.inRegion ops (i::rest)::k) D kd cs) aa=.spawn (rg f (ay t o.dst ω) (.inRegion ops rest::k) D kd cs)
  {frame:={ (default:Ϙ) with fn:=P.funcs.size,defers:=[d],mode:=.panicking [Aj3]},callers:=[],status:=.running,dying:=ν} aa #[]:=by
 have e1:Ack ⟨f,t,.inRegion ops (i::rest)::k,D,.run,kd,ν⟩=aS t:=tf;simp only[ϛ,Ad8,ho,Ag3,hg,Akq,if_true,Akf,Aj7,Ad7,e1,hr];obtain⟨tg,ar⟩:=d;cases tg<;>first|exact absurd rfl hn| (cases hd:o.dst<;>simp[Acj,ho,hd,ay,hk,Acm,seen])
def FG{ops:Array Ϝ}{i:Nat}{rest:List Nat}{o:Ϝ}(ho:ops[i]?=φ o)(hg:Aj9 o (Aj2 ops t)=θ)(hk:(kd==.early)=χ)
 {aa:Ψ}{cases:Array CommCase}{bl:Bool}{sh:CommShape}(hr:(execOp (aS t) o).runT P aa #[]=(.ok (.comm cases bl sh) aa,#[])):
 ϛ P main (rg f t (.inRegion ops (i::rest)::k) D kd cs) aa=.comm (rg f t (.inRegion ops (i::rest)::k) D kd cs) cases bl sh aa #[]:=by
 have e1:Ack ⟨f,t,.inRegion ops (i::rest)::k,D,.run,kd,ν⟩=aS t:=tf;simp only[ϛ,Ad8,ho,Ag3,hg,Akq,if_true,Akf,Aj7,Ad7,e1,hr];simp[hk,Acm,seen]
def BN{ops:Array Ϝ}{i:Nat}{rest:List Nat}{o:Ϝ}(ho:ops[i]?=φ o)(hg:Aj9 o (Aj2 ops t)=θ)(hk:(kd==.early)=χ)
 (h:∀aa,bN M w aa->∃v aq es,((execOp (aS t) o).runT P aa #[]=(.ok (.value v) aq,es)\/v=ω/\(execOp (aS t) o).runT P aa #[]=(.ok .skip aq,es))/\eO M aa aq es/\
   Walk P main Stop (M.grow aa aq) (rg f (ay t o.dst v) (.inRegion ops rest::k) D kd cs) aq):
 Walk P main Stop M (rg f t (.inRegion ops (i::rest)::k) D kd cs) w:=by
 have key:∀aa,∃y:ώ×Ψ×Array ϥ,bN M w aa->ϛ P main (rg f t (.inRegion ops (i::rest)::k) D kd cs) aa=.go y.1 y.2.1 y.2.2/\eO M aa y.2.1 y.2.2/\Walk P main Stop (M.grow aa y.2.1) y.1 y.2.1:=by
  intro aa;by_cases hw:bN M w aa
  ·obtain⟨v,aq,es,hr,hd,hW⟩:=h aa hw
   have fJ:eO M aa aq (seen P f es):=⟨hd.size,hd.kept,hd.tape,hd.os,hd.e,λe he=>hd.ev e (mem_seen he)⟩
   rcases hr with hr| ⟨rfl,hr⟩
   ·exact⟨(_,aq,seen P f es),λ_=>⟨Jd ho hg hk hr,fJ,hW⟩⟩
   ·exact⟨(_,aq,seen P f es),λ_=>⟨Xy ho hg hk hr,fJ,hW⟩⟩
  ·exact⟨(rg f t k D kd cs,w,#[]),λh=>absurd h hw⟩
 refine .step rfl (λaa=>Aa6 (key aa)) (λaa hw=>?_) λaa hw=>?_
 ·exact⟨(Aa7 (key aa) hw).1,(Aa7 (key aa) hw).2.1⟩
 ·exact(Aa7 (key aa) hw).2.2
def du{ops:Array Ϝ}{i:Nat}{rest:List Nat}{o:Ϝ}{v:υ}(ho:ops[i]?=φ o)(hg:Aj9 o (Aj2 ops t)=θ)(hk:(kd==.early)=χ)
 (hr:∀aa,bN M w aa->∃es,(execOp (aS t) o).runT P aa #[]=(.ok (.value v) aa,es)/\∀e∈es,wK M e)
 (h:Walk P main Stop M (rg f (ay t o.dst v) (.inRegion ops rest::k) D kd cs) w):Walk P main Stop M (rg f t (.inRegion ops (i::rest)::k) D kd cs) w:=
 BN ho hg hk λaa hw=>by
  obtain⟨es,h1,h2⟩:=hr aa hw;refine⟨v,aa,es,.inl h1,⟨ϊ _,λ_ _ _=>rfl,rfl,rfl,rfl,λe he=>by rw[L2];exact h2 e he⟩,?_⟩
  rw[L2];exact h.rely hw
def amZ{ops:Array Ϝ}{i:Nat}{rest:List Nat}{o:Ϝ}{d:Abf}(ho:ops[i]?=φ o)(hg:Aj9 o (Aj2 ops t)=θ)(hk:(kd==.early)=χ)
 (hr:∀aa,(execOp (aS t) o).runT P aa #[]=(.ok (.defer d) aa,#[]))
 (h:Walk P main Stop M (rg f (ay t o.dst ω) (.inRegion ops rest::k) (d::D) kd cs) w):Walk P main Stop M (rg f t (.inRegion ops (i::rest)::k) D kd cs) w:=
 kM rfl (λaa=>alR ho hg hk (hr aa)) h
end
end Go.Jn
namespace Go.Jn
open Go Go.Sim
section
variable {P:ϑ}{main:Bool}{Stop:aaa->ώ->Ψ->Prop}
variable {f:Ϫ}{k:List Ajz}{D:List Abf}{kd:Aj0}{cs:List Ϙ}
end
end Go.Jn
namespace Go.Jn
open Go Go.Sim Go.Conc
open Go.ConcN (sumTo upd sumTo_upd upd_ne upd_same)
def Cp(N:Nat)(es:Array ϥ):Prop:=∀e∈es,∀b,N<=b->e.loc≠ .obj b
inductive WalkE(P:ϑ)(main:Bool)(N:Nat)(Stop:aaa->ώ->Ψ->Prop):aaa->ώ->Ψ->Prop
 |stop {M:aaa} {g:ώ} {w:Ψ} (h:∀aa,bN M w aa->Stop M g aa):WalkE P main N Stop M g w
 |step {M:aaa} {g:ώ} {w:Ψ} (run:g.status=.running) (nx:Ψ->ώ×Ψ×Array ϥ)
   (h:∀aa,bN M w aa->ϛ P main g aa=.go (nx aa).1 (nx aa).2.1 (nx aa).2.2/\eO M aa (nx aa).2.1 (nx aa).2.2/\Cp N (nx aa).2.2)
   (hs:∀aa,bN M w aa->WalkE P main N Stop (M.grow aa (nx aa).2.1) (nx aa).1 (nx aa).2.1):WalkE P main N Stop M g w
section
variable {P:ϑ}{main:Bool}{N:Nat}{Stop:aaa->ώ->Ψ->Prop}
def WalkE.rely{M:aaa}{g:ώ}{w aa:Ψ}(h:WalkE P main N Stop M g w)(k:bN M w aa):WalkE P main N Stop M g aa:=by
 cases h with
 |stop h=>exact .stop λaq k2=>h aq (k.trans k2)
 |step run nx h hs=>exact .step run nx (λaq k2=>h aq (k.trans k2)) λaq k2=>hs aq (k.trans k2)
def X8{M:aaa}{w:Ψ}{g g':ώ}(hr:g.status=.running)(h:∀aa,ϛ P main g aa=.go g' aa #[])(k:WalkE P main N Stop M g' w):WalkE P main N Stop M g w:=
 .step hr (λaa=>(g',aa,#[])) (λaa _=>⟨h aa,eO.idle M aa,λe he=>absurd he (by simp)⟩) λaa hk=>by
  show WalkE P main N Stop (M.grow aa aa) g' aa;rw[L2];exact k.rely hk
variable {f:Ϫ}{k:List Ajz}{D:List Abf}{kd:Aj0}{cs:List Ϙ}
def X9{M:aaa}{w:Ψ}{t:Array υ}{ops:Array Ϝ}(h:WalkE P main N Stop M (rg f t k D kd cs) w):WalkE P main N Stop M (rg f t (.inRegion ops []::k) D kd cs) w:=
 X8 rfl (λaa=>by simp[ϛ,Ad8]) h
def amW{M:aaa}{w:Ψ}{t:Array υ}{ops:Array Ϝ}{i:Nat}{rest:List Nat}{o:Ϝ}(ho:ops[i]?=φ o)(hg:Aj9 o (Aj2 ops t)=θ)(hk:(kd==.early)=χ)
 (h:∀aa,bN M w aa->∃v aq es,((execOp (aS t) o).runT P aa #[]=(.ok (.value v) aq,es)\/v=ω/\(execOp (aS t) o).runT P aa #[]=(.ok .skip aq,es))/\eO M aa aq es/\(∀e∈es,∀b,e.loc≠ .obj b)/\
   WalkE P main N Stop (M.grow aa aq) (rg f (ay t o.dst v) (.inRegion ops rest::k) D kd cs) aq):
 WalkE P main N Stop M (rg f t (.inRegion ops (i::rest)::k) D kd cs) w:=by
 have key:∀aa,∃y:ώ×Ψ×Array ϥ,bN M w aa->(ϛ P main (rg f t (.inRegion ops (i::rest)::k) D kd cs) aa=.go y.1 y.2.1 y.2.2/\eO M aa y.2.1 y.2.2/\Cp N y.2.2)/\WalkE P main N Stop (M.grow aa y.2.1) y.1 y.2.1:=by
  intro aa;by_cases hw:bN M w aa
  ·obtain⟨v,aq,es,hr,hd,aw,hW⟩:=h aa hw
   have fJ:eO M aa aq (seen P f es):=⟨hd.size,hd.kept,hd.tape,hd.os,hd.e,λe he=>hd.ev e (Sim.mem_seen he)⟩
   have dM:Cp N (seen P f es):=λe he b _=>aw e (Sim.mem_seen he) b
   rcases hr with hr| ⟨rfl,hr⟩
   ·exact⟨(_,aq,seen P f es),λ_=>⟨⟨Jd ho hg hk hr,fJ,dM⟩,hW⟩⟩
   ·exact⟨(_,aq,seen P f es),λ_=>⟨⟨Xy ho hg hk hr,fJ,dM⟩,hW⟩⟩
  ·exact⟨(rg f t k D kd cs,w,#[]),λh=>absurd h hw⟩
 refine .step rfl (λaa=>Aa6 (key aa)) (λaa hw=>?_) λaa hw=>?_
 ·exact(Aa7 (key aa) hw).1
 ·exact(Aa7 (key aa) hw).2
def amV{ops:Array Ϝ}(hk:(kd==.early)=χ)(I:Nat->Array Bool->Array υ->aaa->Ψ->Prop)
 (Nu:∀n l t M w aa,I n l t M w->bN M w aa->I n l t M aa)
 (dq:∀n l t M w i,I n l t M w->i∈Aka .any ops l->∃o v aq es,ops[i]?=φ o/\Aj9 o (Aj2 ops t)=θ/\
   ((execOp (aS t) o).runT P w #[]=(.ok (.value v) aq,es)\/v=ω/\(execOp (aS t) o).runT P w #[]=(.ok .skip aq,es))/\eO M w aq es/\(∀e∈es,∀b,e.loc≠ .obj b)/\I (n+1) (l.setIfInBounds i θ) (ay t o.dst v) (M.grow w aq) aq)
 (qk:∀n l t M w,I n l t M w->(Aka .any ops l=[]\/n=ops.size)->WalkE P main N Stop M (rg f t k D kd cs) w):
 ∀(fuel n s:Nat) (l:Array Bool) (t:Array υ) (M:aaa) (w:Ψ),n+fuel=ops.size->I n l t M w->
  WalkE P main N Stop M (rg f t (.inRegion ops (Akc .any ops fuel s l [])::k) D kd cs) w:=by
 intro fuel;induction fuel with
 |zero=>
  intro n s l t M w hn hI;have:Akc .any ops 0 s l []=[]:=by simp[Akc]
  rw[this];exact X9 (qk n l t M w hI (.inr (by omega)))
 |succ fuel ih=>
  intro n s l t M w hn hI;simp only[Akc];change WalkE P main N Stop M (rg f t (.inRegion ops (match(Aka .any ops l)[s % (Aka .any ops l).length]? with
   |some i=>Akc .any ops fuel (s / (Aka .any ops l).length) (l.setIfInBounds i θ) [i]
   |none=> [].reverse)::k) D kd cs) w
  cases hi:(Aka .any ops l)[s % (Aka .any ops l).length]? with
  |none=>
   have NJ:Aka .any ops l=[]:=by
    cases hr:Aka .any ops l with
    |nil=>rfl
    |cons x xs=>
     rw[hr] at hi;have al:s % (x::xs).length<(x::xs).length:=Nat.mod_lt _ (by simp)
     simp at hi;simp at al;omega
   exact X9 (qk n l t M w hI (.inl NJ))
  |some i=>
   simp only[];rw[linearise_go_acc,List.reverse_singleton,List.singleton_append];have mB:= ϩ hi;obtain⟨o0,-,-,-,UZ,Hi,-,-,-,-⟩:=dq n l t M w i hI mB;refine amW UZ Hi hk λaa hw=>?_
   obtain⟨o,v,aq,es,ho,hg,hr,hd,aw,xz⟩:=dq n l t M aa i (Nu _ _ _ _ _ _ hI hw) mB;rw[UZ] at ho;cases ho
   exact⟨v,aq,es,hr,hd,aw,ih (n+1) _ _ _ _ _ (by omega) xz⟩
def amU(hm:P.follows .mixedOrders=θ){id:Nat}{ops:Array Ϝ}(hk:(kd==.early)=χ)(I:Nat->Array Bool->Array υ->aaa->Ψ->Prop)
 (Nu:∀n l t M w aa,I n l t M w->bN M w aa->I n l t M aa)
 (dq:∀n l t M w i,I n l t M w->i∈Aka .any ops l->∃o v aq es,ops[i]?=φ o/\Aj9 o (Aj2 ops t)=θ/\
   ((execOp (aS t) o).runT P w #[]=(.ok (.value v) aq,es)\/v=ω/\(execOp (aS t) o).runT P w #[]=(.ok .skip aq,es))/\eO M w aq es/\(∀e∈es,∀b,e.loc≠ .obj b)/\I (n+1) (l.setIfInBounds i θ) (ay t o.dst v) (M.grow w aq) aq)
 (qk:∀n l t M w,I n l t M w->(Aka .any ops l=[]\/n=ops.size)->WalkE P main N Stop M (rg f t k D kd cs) w)
 {t:Array υ}{M:aaa}{w:Ψ}(h0:I 0 (Θ ops.size χ) t M w):
 WalkE P main N Stop M (rg f t (.code (.region id ops θ)::k) D kd cs) w:=by
 have key:=amV (P:=P) (main:=main) (N:=N) (Stop:=Stop) (f:=f) (k:=k) (D:=D) (cs:=cs) hk I Nu dq qk;refine .step rfl (λaa=>(rg f t (.inRegion ops (Akb θ ops ((Question.order f id).cut (aa.tape aa.drawn (.order f id))))::k) D kd cs,aa.at (aa.drawn+1),#[])) (λaa hw=>⟨?_,?_,λe he=>absurd he (by simp)⟩) λaa hw=>?_
 ·simp[ϛ,Ad8,choose,Sem.run,Question.forced,hm]
  rfl
 ·exact⟨ϊ _,λ_ _ _=>rfl,rfl,rfl,rfl,λe he=>absurd he (by simp)⟩
 ·have hg:M.grow aa (aa.at (aa.drawn+1))=M:=L2 M aa
  show WalkE P main N Stop (M.grow aa (aa.at (aa.drawn+1))) _ _;rw[hg];have:WalkE P main N Stop M (rg f t (.inRegion ops (Akb θ ops ((Question.order f id).cut (aa.tape aa.drawn (.order f id))))::k) D kd cs) w:=by
   simp only[Akb,Bool.true_or,if_true];exact key ops.size 0 _ _ _ _ _ (by simp) h0
  exact this.rely (hw.trans (bN.of_heap rfl rfl rfl rfl))
def lK(N:Nat)(t:ϭ):Prop:=∀op∈t,∀a,op.act.touch? =φ a->∀b,N<=b->a.loc≠ .obj b
def lK.app{t u:ϭ}(h:lK N t)(k:lK N u):lK N (t++u):=λop ab=>(Array.mem_append.1 ab).elim (h op) (k op)
def lK.events{g:Nat}{fn:Ϫ}{pos:String}{es:Array ϥ}(h:Cp N es):lK N (MemOp.ofEvents g fn pos es):=by
 intro op ab a ha b hb;obtain⟨e,he,rfl⟩:=Go.Conc.mem_ofEvents ab;have:=h e he b hb;simp only at ha;obtain⟨loc,wr,sy⟩:=e;cases loc with
 |mark m=>cases m<;>cases wr<;>cases sy<;>simp[MemAct.ofEvent,MemAct.touch?] at ha<;>(subst ha;intro hx;cases hx)
 |_=>cases wr<;>cases sy<;>simp[MemAct.ofEvent,MemAct.touch?] at ha<;>subst ha<;>first|exact this| (intro hx;cases hx)
def lK.of_low{t:ϭ}(h:∀op∈t,op.act.low N):lK N t:=by
 intro op ab a ha b hb e;obtain⟨k,hk⟩:=Ajr ab
 have:touchAt t k=φ a:=by rw[touchAt_of hk];exact ha
 have:=Qa h this (.inl e);omega
def Tn{gs:Array ώ}{w aa:Ψ}{sl:Option (Nat×Nat)}{t:ϭ}{q:Nat->Nat}{g dG:ώ}{es:Array ϥ}{M:aaa}(h:Fr P gs w t q g)(hs:ϛ P θ g w=.go dG aa es)(hd:eO M w aa es)(hM:∀b,M.has b->b<w.heap.size)
 (aw:Cp N es)(ht:lK N t):∃aT ops,runT P (crowd gs w sl) 0=(.next (crowd aT aa sl),ops)/\aT.size=gs.size/\Fr P aT aa (t++ops) q dG/\lK N (t++ops):=by
 obtain⟨h0,hL,hP,hN,hG⟩:=h;have tJ:=runT_crowd_go (P:=P) (sl:=sl) (i:=0) h0 (show ϛ P (0==0) g w=_ from hs)
 have al:0<gs.size:=(Ϟ.1 h0).1
 refine⟨_,_,tJ,by simp,⟨by simp[al],λj x hj hx=>?_,(hP.mono hd.size).own λe he=>L9 (hd.ev e he) λb hb=>?_,hN.app (O4 hd.ev),λop ab=>?_⟩,ht.app (.events aw)⟩
 ·have aw:0≠j:=by omega
  rw[Aa0 aw,Aa1] at hx
  obtain⟨y,hy,rfl⟩:=Aef.1 hx;have hq:=hL j y hj hy;rw[Sim.woken_quits hq];exact hq
 ·exact zU hd hM b hb
 ·rw[Aem,Array.size_map]
  rcases Array.mem_append.1 ab with ab|ab
  ·exact hG op ab
  ·obtain⟨e,_,rfl⟩:=Go.Conc.mem_ofEvents ab
   exact al
def Tp{gs:Array ώ}{w:Ψ}{sl:Option (Nat×Nat)}{t:ϭ}{q:Nat->Nat}{g:ώ}(h:Fr P gs w t q g)(bz:g.status=.running):
 (∃d bm,stepT P (crowd gs w sl)=runT P (crowd gs (w.at d) bm) 0)\/
 ∃aT d bm q',stepT P (crowd gs w sl)=(.next (crowd aT (w.at d) bm),#[])/\aT.size=gs.size/\sumTo aT.size q'<sumTo gs.size q/\Fr P aT (w.at d) t q' g:=by
 obtain⟨h0,hL,hP,hN,hG⟩:=h;have tz:∀g∈gs,awake g:=by
  intro x hx;obtain⟨i,hi,rfl⟩:=Aay.1 hx;rcases Ako i with rfl|rP
  ·have:gs[0]=g:=by simpa [Aaz hi] using h0
   rw[this];exact awake_of (.inl bz)
  ·exact awake_of ((hL i _ rP (Aaz hi)).status.elim .inl λx=>.inr (.inr x))
 obtain⟨i,x,d,bm,hi,hg,aQ⟩:=crowd_pick (P:=P) (w:=w) (sl:=sl) tz ⟨0,g,h0,bz⟩;rcases Ako i with rfl|rP
 ·exact .inl ⟨d,bm,aQ⟩
 ·right
  have hq:=hL i x rP hi;have cR:(i==0)=χ:=by simp;omega
  have al:i<gs.size:=(Ϟ.1 hi).1
  cases pe:q i with
  |zero=>rw[pe] at hq;rw[show x.status=.finished from hq] at hg;cases hg
  |succ k=>
   rw[pe] at hq;rcases hq with hf| ⟨_,g',aej,mD⟩
   ·rw[hf] at hg;cases hg
   have tJ:=runT_crowd_go (P:=P) (sl:=bm) (i:=i) hi (by rw[cR];exact aej (w.at d))
   rw[nM] at tJ;have aI:((gs.map (woken P x g' (w.at d))).setIfInBounds i g').size=gs.size:=by simp
   have Zb:sumTo gs.size (upd q i k)+(k+1)=sumTo gs.size q+k:=by
    have:=sumTo_upd q k id al;simpa [pe] using this
   refine⟨(gs.map (woken P x g' (w.at d))).setIfInBounds i g',d,bm,upd q i k,aQ.trans tJ,aI,by rw[aI];omega,?_,λj y hj hy=>?_,hP,hN,λop ab=>by rw[aI];exact hG op ab⟩
   ·have aw:i≠0:=by omega
    rw[Aa0 aw,Aa1,h0]
    simp[woken_run bz]
   ·by_cases pa:i=j
    ·subst pa
     rw[Ajs (by simpa using al)] at hy
     obtain rfl:=ϟ hy;rw[upd_same];exact mD
    ·rw[Aa0 pa,Aa1] at hy
     obtain⟨z,hz,rfl⟩:=Aef.1 hy;have yd:=hL j z hj hz;rw[Sim.woken_quits yd,upd_ne q k (Ne.symm pa)];exact yd
def Zw{M:aaa}{g:ώ}{w:Ψ}(h:WalkE P θ N Stop M g w):
 ∀(gs:Array ώ) (sl:Option (Nat×Nat)) (t:ϭ) (q:Nat->Nat),Fr P gs w t q g->(∀b,M.has b->b<w.heap.size)->lK N t->
  ∃(n:Nat) (aT:Array ώ) (M':aaa) (g':ώ) (w':Ψ) (bm:Option (Nat×Nat)) (t':ϭ) (q':Nat->Nat),
    Aj4 P n (crowd gs w sl) t=(.next (crowd aT w' bm),t')/\aT.size=gs.size/\Stop M' g' w'/\Fr P aT w' t' q' g'/\lK N t':=by
 induction h with
 | @stop M g w h=>exactλgs sl t q hF hM hT=>⟨0,gs,M,g,w,sl,t,q,rfl,rfl,h w (bN.refl M w),hF,hT⟩
 | @step M g w run nx h hs ih=>
   have key:∀(n:Nat) (gs:Array ώ) (sl:Option (Nat×Nat)) (t:ϭ) (q:Nat->Nat) (aq:Ψ),sumTo gs.size q<=n->bN M w aq->Fr P gs aq t q g->(∀b,M.has b->b<aq.heap.size)->lK N t->
    ∃(n:Nat) (aT:Array ώ) (M':aaa) (g':ώ) (w':Ψ) (bm:Option (Nat×Nat)) (t':ϭ) (q':Nat->Nat),
     Aj4 P n (crowd gs aq sl) t=(.next (crowd aT w' bm),t')/\aT.size=gs.size/\Stop M' g' w'/\Fr P aT w' t' q' g'/\lK N t':=by
    intro n;induction n with
    |zero=>
     intro gs sl t q aq hn k hF hM hT;rcases Tp (sl:=sl) hF run with⟨d,bm,aQ⟩ | ⟨aT,d,bm,q',_,_,al,_⟩
     ·have k2:=k.trans (yy M aq d)
      obtain⟨h1,h2,h3⟩:=h _ k2;obtain⟨iK,ops,hr,aI,lN,xC⟩:=Tn (sl:=bm) (w:=aq.at d) (M:=M) ⟨hF.zero,hF.lv,hF.gD,hF.nd,hF.gb⟩ h1 h2 hM h3 hT;obtain⟨N',aT,M',g',w',mQ,t',q',r1,r2,r3,r4⟩:=ih _ k2 iK bm _ q lN (zU h2 hM) xC;exact⟨N'+1,aT,M',g',w',mQ,t',q',by simp only[Aj4,aQ,hr];exact r1,r2.trans aI,r3,r4⟩
     ·omega
    |succ n En=>
     intro gs sl t q aq hn k hF hM hT;rcases Tp (sl:=sl) hF run with⟨d,bm,aQ⟩ | ⟨aT,d,bm,q',aQ,aI,al,lN⟩
     ·have k2:=k.trans (yy M aq d)
      obtain⟨h1,h2,h3⟩:=h _ k2;obtain⟨iK,ops,hr,aI,lN,xC⟩:=Tn (sl:=bm) (w:=aq.at d) (M:=M) ⟨hF.zero,hF.lv,hF.gD,hF.nd,hF.gb⟩ h1 h2 hM h3 hT;obtain⟨N',aT,M',g',w',mQ,t',q',r1,r2,r3,r4⟩:=ih _ k2 iK bm _ q lN (zU h2 hM) xC;exact⟨N'+1,aT,M',g',w',mQ,t',q',by simp only[Aj4,aQ,hr];exact r1,r2.trans aI,r3,r4⟩
     ·obtain⟨N',xu,M',g',w',mQ,t',Pf,r1,r2,r3,r4⟩:=En aT bm t q' (aq.at d) (by omega) (k.trans (yy M aq d)) lN hM hT
      exact⟨N'+1,xu,M',g',w',mQ,t',Pf,by simp only[Aj4,aQ,Aag];exact r1,r2.trans aI,r3,r4⟩
   exactλgs sl t q hF hM hT=>key _ gs sl t q w (ϊ _) (bN.refl M w) hF hM hT
end
end Go.Jn
namespace Go.Jn
open Go Go.Sim Go.Conc
def Gr(w:Ψ):Base w w:=⟨ϊ _,rfl,rfl,rfl⟩
def rn{a b c:Ψ}(h:Base a b)(k:Base b c):Base a c:=⟨Ϥ h.size k.size,k.tape.trans h.tape,k.os.trans h.os,k.e.trans h.e⟩
def Gq{M:Sim.aaa}{a b:Ψ}(k:bN M a b):Base a b:=⟨k.size,k.tape,k.os,k.e⟩
def RH{M:Sim.aaa}{a b:Ψ}{es:Array ϥ}(k:eO M a b es):Base a b:=⟨k.size,k.tape,k.os,k.e⟩
def FM{P:ϑ}{main:Bool}{Stop:Sim.aaa->ώ->Ψ->Prop}{M:Sim.aaa}{g:ώ}{w:Ψ}(h:Walk P main Stop M g w):∀ {w0:Ψ},Base w0 w->Walk P main (λM g w'=>Stop M g w'/\Base w0 w') M g w:=by
 induction h with
 |stop h=>exactλhb=>.stop λaa k=>⟨h aa k,rn hb (Gq k)⟩
 |step run nx h hs ih=>exactλhb=>.step run nx h λaa k=>ih aa k (rn (rn hb (Gq k)) (RH (h aa k).2))
def amR{P:ϑ}{main:Bool}{N:Nat}{Stop:Sim.aaa->ώ->Ψ->Prop}{M:Sim.aaa}{g:ώ}{w:Ψ}(h:WalkE P main N Stop M g w):∀ {w0:Ψ},Base w0 w->WalkE P main N (λM g w'=>Stop M g w'/\Base w0 w') M g w:=by
 induction h with
 |stop h=>exactλhb=>.stop λaa k=>⟨h aa k,rn hb (Gq k)⟩
 |step run nx h hs ih=>exactλhb=>.step run nx h λaa k=>ih aa k (rn (rn hb (Gq k)) (RH (h aa k).2.1))
def uc{P:ϑ}{b:Nat}{m':Machine}{t':ϭ}{r:Stepped×ϭ}:∀(a:Nat) (m:Machine) (t:ϭ),Aj4 P a m t=(.next m',t')->Aj4 P b m' t'=r->Aj4 P (a+b) m t=r:=by
 intro a;induction a with
 |zero=>intro m t h k;simp only[Aj4,Prod.mk.injEq,Stepped.next.injEq] at h;obtain⟨rfl,rfl⟩:=h;rw[Nat.zero_add];exact k
 |succ a ih=>
  intro m t h k;rw[Nat.succ_add];simp only[Aj4] at h |-
  cases hs:Go.stepT P m with
  |mk e ops=>
   rw[hs] at h;cases e with
   |next m1=>exact ih _ _ h k
   |ended o w=>simp at h
end Go.Jn
namespace Go.Jn
open Go Go.Sim Go.Conc
def dp(P:ϑ):Ϙ:={ (default:Ϙ) with fn:=P.funcs.size,defers:=[],mode:=.panicking [Aj3]}
def born(P:ϑ)(d:Abf):ώ:={frame:={ (default:Ϙ) with fn:=P.funcs.size,defers:=[d],mode:=.panicking [Aj3]},callers:=[],status:=.running,dying:=ν}
def ud(P:ϑ)(f:Ϫ):seen P f #[]=#[]:=by simp[seen]
section
variable {P:ϑ}{main:Bool}{Stop:aaa->ώ->Ψ->Prop}{M:aaa}{w:Ψ}
def alP{f:Ϫ}{eQ args:Array υ}{aa:Ψ}(hr:(callFunc f (args++eQ)).runT P aa #[]=(.ok (.enter f (args++eQ)) aa,#[])):
 ϛ P main (born P {target:=.fn (.func f) eQ,args}) aa=.go (aO (Aci P f (args++eQ) .deferred) [dp P]) aa #[]:=by
 have hi:invoke (.fn (.func f) eQ) args=callFunc f (args++eQ):=rfl;have e:Abw P (dp P) [] ν {target:=.fn (.func f) eQ,args} aa=.go (aO (Aci P f (args++eQ) .deferred) [dp P]) aa #[]:=by
  unfold Abw;simp only[hi,hr,ud,Acm,Bool.false_and,Aa2,if_false];rfl
 exact e
def zQ{f:Ϫ}{fn:Ϣ}{c:ϖ}(hf:P.funcs[f]?=φ fn)(hb:fn.body=φ c)(x:Array υ)(kd:Aj0):
 Aci P f x kd=⟨f,x++Θ (fn.ntmps - x.size) ω,[.code c],[],.run,kd,ν⟩:=by
 simp[Aci,hf,hb]
def Ya{f:Ϫ}{eQ args:Array υ}{fn:Ϣ}{c:ϖ}(hf:P.funcs[f]?=φ fn)(hb:fn.body=φ c)(hr:∀aa,(callFunc f (args++eQ)).runT P aa #[]=(.ok (.enter f (args++eQ)) aa,#[]))
 (h:Walk P main Stop M (rg f ((args++eQ)++Θ (fn.ntmps - (args++eQ).size) ω) [.code c] [] .deferred [dp P]) w):Walk P main Stop M (born P {target:=.fn (.func f) eQ,args}) w:=
 kM rfl (λaa=>(alP (hr aa)).trans (by rw[zQ hf hb])) h
def ad3{f:Ϫ}{fn:Ϣ}{c:ϖ}(hf:P.funcs[f]?=φ fn)(hb:fn.body=φ c)(hn:(fn.name== "runtime.NumGoroutine")=χ)(args:Array υ)(aa:Ψ):(callFunc f args).runT P aa #[]=(.ok (.enter f args) aa,#[]):=by
 simp only[callFunc,Go.program,bind,Ϯ,ϧ,hf,hb,hn,Option.isNone_some,Aa2,if_false];rfl
def results_none{fn:Ϣ}(hr:fn.results=#[])(t:Array υ)(aa:Ψ):(results fn t).runT P aa #[]=(.ok (μ #[]) aa,#[]):=by
 have e:results fn t=Akd (μ #[]):=by
  unfold results;rw[hr];simp only[Aak,Akg];rfl
 rw[e];rfl
def alV{f:Ϫ}{t:Array υ}{k:List Ajz}{fn:Ϣ}(hf:P.funcs[f]?=φ fn)(hr:fn.results=#[])(aa:Ψ):
 ϛ P χ (aO ⟨f,t,k,[],.returning,.deferred,ν⟩ [dp P]) aa=.go (aO (dp P) []) aa #[]:=by
 have e:Abx P χ ⟨f,t,k,[],.returning,.deferred,ν⟩ [dp P] ν aa=.go (aO (dp P) []) aa #[]:=by
  unfold Abx;simp only[hf,results_none hr,ud,Acm,doReturn];rfl
 exact e
def alT(aa:Ψ)(hc:(dp P).catches P=χ):ϛ P χ (aO (dp P) []) aa=.go {frame:=dp P,callers:=[],status:=.finished,dying:=ν} aa #[]:=by
 have e:Abx P χ (dp P) [] ν aa=.go {frame:=dp P,callers:=[],status:=.finished,dying:=ν} aa #[]:=by
  have e1:(dp P).defers=[]:=rfl;have e2:(dp P).mode=.panicking [Aj3]:=rfl;unfold Abx;simp only[e1,e2,hc,Aa2,if_false];rfl
 exact e
def acQ(P:ϑ):(dp P).catches P=χ:=by
 have e:(dp P).todo=[]:=rfl;have e2:P.funcs[(dp P).fn]?=ν:=by show P.funcs[P.funcs.size]?=ν;simp
 unfold Frame.catches;rw[e,e2]
def WD{f:Ϫ}{t:Array υ}{k:List Ajz}{fn:Ϣ}(hf:P.funcs[f]?=φ fn)(hr:fn.results=#[]):QuitsIn P 2 (aO ⟨f,t,k,[],.returning,.deferred,ν⟩ [dp P]):=
 .inr ⟨rfl,_,λaa=>alV hf hr aa,.inr ⟨rfl,_,λaa=>alT aa (acQ P),rfl⟩⟩
end
end Go.Jn
namespace Go.Jn
open Go Go.Proofs Go.Sim
def bO:ϖ->ϖ
 | .seq a _=>a
 |c=>c
def a8:ϖ->ϖ
 | .seq _ b=>b
 |c=>c
def opsOf:ϖ->Array Ϝ
 | .region _ ops _=>ops
 |_=>#[]
def zJ:ϖ:=(Tryz.f38.body).getD .skip
def iP:Array Ϝ:=opsOf (bO (a8 (a8 zJ)))
def bn(b:Bool):Nat:=if b then 1 else 0
def uO(i:Nat)(a0 a1 a2 a3 a4 a5:Bool):Bool:=match i with
 |0=> !a0
 |1=> !a1
 |2=> !a2
 |3=> !a3
 |4=> !a4 && a0 && a2
 |5=> !a5 && a1 && a3
 |_=>χ
def uJ:List Bool:=[χ,θ]
def Gj(p:Bool->Bool->Bool->Bool->Bool->Bool->Bool):Bool:=uJ.all λa0=>uJ.all λa1=>uJ.all λa2=>uJ.all λa3=>uJ.all λa4=>uJ.all λa5=>p a0 a1 a2 a3 a4 a5
def Ru{p:Bool->Bool->Bool->Bool->Bool->Bool->Bool}(h:Gj p=θ)(a0 a1 a2 a3 a4 a5:Bool):p a0 a1 a2 a3 a4 a5=θ:=by
 unfold Gj at h;simp only[Akh] at h;have hb:∀b:Bool,b∈uJ:=by intro b;cases b<;>simp[uJ]
 exact h a0 (hb _) a1 (hb _) a2 (hb _) a3 (hb _) a4 (hb _) a5 (hb _)
def ajO:Gj (λa0 a1 a2 a3 a4 a5=>(Aka .any iP #[a0,a1,a2,a3,a4,a5]).all λi=>uO i a0 a1 a2 a3 a4 a5)=θ:=by decide+kernel
def abf:Gj (λa0 a1 a2 a3 a4 a5=> !(Aka .any iP #[a0,a1,a2,a3,a4,a5]).isEmpty|| (a0 && a1 && a2 && a3 && a4 && a5))=θ:=by decide+kernel
def ajd:∃o,iP[0]?=φ o/\o.op=.makeChan 154 (.const (ξ κ 0))/\o.dst=φ 19/\o.guard=ν:=⟨_,rfl,rfl,rfl,rfl⟩
def aje:∃o,iP[1]?=φ o/\o.op=.makeChan 155 (.const (ξ κ 0))/\o.dst=φ 20/\o.guard=ν:=⟨_,rfl,rfl,rfl,rfl⟩
def ajf:∃o,iP[2]?=φ o/\o.op=.alloc 154/\o.dst=φ 6/\o.guard=ν:=⟨_,rfl,rfl,rfl,rfl⟩
def ajg:∃o,iP[3]?=φ o/\o.op=.alloc 155/\o.dst=φ 7/\o.guard=ν:=⟨_,rfl,rfl,rfl,rfl⟩
def ajh:∃o,iP[4]?=φ o/\o.op=.store 154 (.tmp 6) (.tmp 19)/\o.dst=ν/\o.guard=ν:=⟨_,rfl,rfl,rfl,rfl⟩
def aji:∃o,iP[5]?=φ o/\o.op=.store 155 (.tmp 7) (.tmp 20)/\o.dst=ν/\o.guard=ν:=⟨_,rfl,rfl,rfl,rfl⟩
def alu:iP.size=6:=rfl
def bI{o:Ϝ}{y:Nat->Option Bool}(h:o.guard=ν):Aj9 o y=θ:=by unfold Aj9;rw[h]
def WU{P:ϑ}(t:Array υ){ty e:ό}{dir:ChanDir}{o:Ϝ}(ho:o.op=.makeChan ty (.const (ξ κ 0)))(hu:P.underlying ty=φ (.chan dir e))(w:Ψ)
 (hi:∃i,P.info? e=φ i):(execOp (aS t) o).runT P w #[]=(.ok (.value (.chan (φ w.heap.size))) (w.alloc (.chan 0 #[] χ 0 0 χ)),#[]):=by
 obtain⟨i,hi⟩:=hi;have h1:¬ ((0:Int)<0\/(0:Int)>IntKind.i64.max\/(i.bytes:Int) * 0>2 ^ 48 - 112):=by
  rintro(h|h|h)
  ·omega
  ·exact absurd h (by decide)
  ·omega
 unfold execOp;rw[ho];simp only[Instr.makeChan,aS,Act.eval,asInt,asIntOf,Go.underlying,Go.typeInfo,Go.program,bind,Ϯ,ϧ,hu,hi,pure,newObj,World.alloc];rw[if_neg h1];rfl
def Py{P:ϑ}(t:Array υ){ty:ό}{o:Ϝ}(ho:o.op=.alloc ty){i:Aj5}(hi: P.info? ty=φ i){v:υ}(hz:i.zero=φ v)(hv:v.cells=#[v])(w:Ψ):
 (execOp (aS t) o).runT P w #[]=(.ok (.value (π (φ ⟨w.heap.size,0,ν⟩))) (w.alloc (Ξ #[v] ty)),#[]):=by
 unfold execOp;rw[ho];simp only[Instr.alloc,Go.zeroValue,Go.typeInfo,Go.program,bind,Ϯ,ϧ,hi,hz,pure,newVar,newRow,newObj,World.alloc,hv]
def Pd:TypeDesc->Bool
 | .struct _| .array _ _=>χ
 |_=>θ
def agk{P:ϑ}{ty:ό}{d:TypeDesc}(hu:P.underlying ty=φ d)(hd:Pd d=θ)(w:Ψ)(es:Array ϥ):(Go.isAgg ty).runT P w es=(.ok χ w,es):=by
 simp only[Go.isAgg,Go.underlying,Go.program,bind,Ϯ,ϧ,hu,pure];cases d<;>first|rfl|exact absurd hd (by simp[Pd])
def PC{P:ϑ}(t:Array υ){ty:ό}{n m:Nat}{o:Ϝ}(ho:o.op=.store ty (.tmp n) (.tmp m)){b:Nat}(ht:t.getD n ω=π (φ ⟨b,0,ν⟩)){v:υ}(hm:t.getD m ω=v)(hv:v.cells=#[v])(h1:EI v=θ)
 {i:Aj5}(hi: P.info? ty=φ i)(hs:i.size=1)
 (w:Ψ){v0:υ}{e:ό}(hw:w.heap[b]?=φ (Ξ #[v0] e (0,0))):
 (execOp (aS t) o).runT P w #[]=(.ok .skip {w with heap:=w.heap.setIfInBounds b (Ξ #[v] e (0,0))},#[⟨.cell ⟨b,0,ν⟩,θ,χ⟩]):=by
 have hc: w.cell? ⟨b,0,ν⟩=φ v0:=lL hw rfl rfl;have hf: w.frozen? ⟨b,0,ν⟩=χ:=by rw[xm hw];rfl
 have e1:aS t (.tmp n)=π (φ ⟨b,0,ν⟩):=ht;have e3:aS t (.tmp m)=v:=hm;have jy:w.setCell ⟨b,0,ν⟩ v={w with heap:=w.heap.setIfInBounds b (Ξ #[v] e (0,0))}:=by
  have hh:(w.setCell ⟨b,0,ν⟩ v).heap=w.heap.setIfInBounds b (Ξ #[v] e (0,0)):=by
   apply Ajt;intro i;rw[Bx hw rfl i,Aai]
   by_cases hi:i=b
   ·subst hi
    have al:=(Ϟ.1 hw).1
    simp only[if_true,al];rfl
   ·simp only[hi,Ne.symm hi,if_false]
  rw[<-hh];rfl
 have e2:execOp (aS t) o=(storeVar ty ⟨b,0,ν⟩ v>>=λ_=>pure .skip):=by
  unfold execOp;rw[ho];simp only[Instr.storeAt,e1,e3,Instr.sureAddr,bind,Ϯ,pure]
 rw[e2];have aQ:∀es,(Go.store ⟨b,0,ν⟩ v).runT P w es=(.ok () (w.setCell ⟨b,0,ν⟩ v),es.push ⟨.cell ⟨b,0,ν⟩,θ,χ⟩):=by
  intro es;cases v<;>first| (unfold Go.store;simp only[ϧ,hc,hf,Aa2,if_false];rfl) |cases h1
 rw[<-jy];have aw:¬ (#[v].size≠1):=by simp
 simp only[storeVar,hv,storeCells,sizeOf,Go.typeInfo,Go.program,bind,Ϯ,ϧ,hi,hs,pure];rw[if_neg aw];have ha:(⟨b,0,ν⟩:Addr).add 0=⟨b,0,ν⟩:=rfl;rw[ha];show(((Go.store ⟨b,0,ν⟩ v).bind λ_=>Akd ()).bind λ_=>Akd Next.skip).runT P w #[]=_
 rw[pA,pA,aQ];rfl
end Go.Jn
namespace Go.Jn
open Go Go.Sim Go.Conc
section
variable {P:ϑ}(t:Array υ){o:Ϝ}(w:Ψ)
def run_move{x:Abp}(ho:o.op=.move x):(execOp (aS t) o).runT P w #[]=(.ok (.value (aS t x)) w,#[]):=by
 unfold execOp;rw[ho];rfl
def run_assign{x:Abp}(ho:o.op=.assign x):(execOp (aS t) o).runT P w #[]=(.ok (.value (aS t x)) w,#[]):=by
 unfold execOp;rw[ho];rfl
def Pz{f:Ϫ}{cp:Array Abp}(ho:o.op=.makeFunc (.func f) #[] cp):(execOp (aS t) o).runT P w #[]=(.ok (.value (.func (.func f) #[] (cp.map (aS t)))) w,#[]):=by
 unfold execOp;rw[ho]
 simp only[Aju,Instr.makeFunc];rfl
def WO{n:Nat}{ts:Array ό}{f:Ϫ}{eQ:Array υ}(ho:o.op=.go {callee:=.value (.tmp n),args:=#[],argTypes:=ts})(hn:t.getD n ω=.func (.func f) #[] eQ):
 (execOp (aS t) o).runT P w #[]=(.ok (.spawn {target:=.fn (.func f) eQ,args:=#[]}) w,#[]):=by
 have e1:aS t (.tmp n)=.func (.func f) #[] eQ:=hn;unfold execOp;rw[ho];simp only[resolve,e1,Deferred.ofValue,Aju,Aag];rfl
def akt{n:Nat}{ts:Array ό}{f:Ϫ}{eQ:Array υ}(ho:o.op=.defer {callee:=.value (.tmp n),args:=#[],argTypes:=ts})(hn:t.getD n ω=.func (.func f) #[] eQ):
 (execOp (aS t) o).runT P w #[]=(.ok (.defer {target:=.fn (.func f) eQ,args:=#[]}) w,#[]):=by
 have e1:aS t (.tmp n)=.func (.func f) #[] eQ:=hn;unfold execOp;rw[ho];simp only[resolve,e1,Deferred.ofValue,Aju,Aag];rfl
def WV{n:Nat}{x:Abp}{c:Nat}(ho:o.op=.send (.tmp n) x)(hn:t.getD n ω=.chan (φ c)):
 (execOp (aS t) o).runT P w #[]=(.ok (.comm #[scase c (aS t x) (μ #[])] θ .send) w,#[]):=by
 have e1:aS t (.tmp n)=.chan (φ c):=hn;unfold execOp;rw[ho];simp only[e1];rfl
def PB{n:Nat}{ty e:ό}{dir:ChanDir}{ok:Bool}{c:Nat}(ho:o.op=.recv ty (.tmp n) ok)(hn:t.getD n ω=.chan (φ c))(hu:P.underlying ty=φ (.chan dir e)){i:Aj5}(hi: P.info? e=φ i){z:υ}(hz:i.zero=φ z):
 (execOp (aS t) o).runT P w #[]=(.ok (.comm #[rcase c z] θ (.recv ok)) w,#[]):=by
 have e1:aS t (.tmp n)=.chan (φ c):=hn;unfold execOp;rw[ho]
 simp only[e1,Go.underlying,Go.zeroValue,Go.typeInfo,Go.program,bind,Ϯ,ϧ,hu,hi,hz,pure];rfl
def Ft{n i:Nat}{x:Array υ}{v:υ}(ho:o.op=.extract (.tmp n) i)(hn:t.getD n ω=.tuple x)(hx:x[i]?=φ v):
 (execOp (aS t) o).runT P w #[]=(.ok (.value v) w,#[]):=by
 have e1:aS t (.tmp n)=.tuple x:=hn;unfold execOp;rw[ho]
 simp only[e1,Instr.extract,hx];rfl
def I3{x y:Abp}{ty Qj:ό}{a b:Int}(ho:o.op=.binOp .lss ty x y Qj)(hx:aS t x=ξ κ a)(hy:aS t y=ξ κ b):
 (execOp (aS t) o).runT P w #[]=(.ok (.value (.bool (decide (a<b)))) w,#[]):=by
 unfold execOp;rw[ho]
 simp only[hx,hy];rfl
def WL{x y:Abp}{ty Qj:ό}{a b:Int}(ho:o.op=.binOp .add ty x y Qj)(hx:aS t x=ξ κ a)(hy:aS t y=ξ κ b):
 (execOp (aS t) o).runT P w #[]=(.ok (.value (ξ κ (IntKind.i64.wrap (a+b)))) w,#[]):=by
 unfold execOp;rw[ho]
 simp only[hx,hy];rfl
def WQ{n:Nat}{ty e:ό}{b:Option Addr}{l c:Nat}(ho:o.op=.call {callee:=.builtin .len,args:=#[.tmp n],argTypes:=#[ty]})(hn:t.getD n ω=.slice b l c)(hu:P.underlying ty=φ (.slice e)):
 (execOp (aS t) o).runT P w #[]=(.ok (.value (goInt l)) w,#[]):=by
 have e1:aS t (.tmp n)=.slice b l c:=hn;unfold execOp;rw[ho]
 simp only[resolve,Aki,Akj,Akk,e1];show((Builtin.len_ #[ty] o.type #[.slice b l c]).bind λv=>Akd (Next.value v)).runT P w #[]=_
 have e2:(Builtin.len_ #[ty] o.type #[.slice b l c]).runT P w #[]=(.ok (goInt l) w,#[]):=by
  unfold Builtin.len_;simp only[Go.underlying,Go.program,bind,Ϯ,ϧ,pure,List.getElem?_toArray,List.getElem?_cons_zero,hu]
 rw[pA,e2];rfl
def WN{n f:Nat}{ty:ό}(ho:o.op=.fieldAddr ty (.tmp n) f){a:Addr}(hn:t.getD n ω=π (φ a)){fs:Array Field}(hu:P.underlying ty=φ (.struct fs)){fd:Field}(hf:fs[f]?=φ fd){i:Aj5}(hi: P.info? fd.type=φ i)(hs:i.size≠0):
 (execOp (aS t) o).runT P w #[]=(.ok (.value (π (φ (a.add fd.offset)))) w,#[]):=by
 have e1:aS t (.tmp n)=π (φ a):=hn;unfold execOp;rw[ho]
 simp only[e1,Instr.fieldAt,Instr.sureAddr,fieldPlace,sizeOf,Go.underlying,Go.typeInfo,Go.program,bind,Ϯ,ϧ,pure,hu,hf,hi,if_neg hs]
def sx{ty:ό}{n:Nat}(ho:o.op=.load ty (.tmp n)){a:Addr}(hn:t.getD n ω=π (φ a)){d:TypeDesc}(hu:P.underlying ty=φ d)(hd:Pd d=θ){v:υ}(hc: w.cell? a=φ v):
 (execOp (aS t) o).runT P w #[]=(.ok (.value v) w,#[⟨.cell a,χ,χ⟩]):=by
 have e1:aS t (.tmp n)=π (φ a):=hn;have e2:execOp (aS t) o=(do let x <-(do if <-Go.isAgg ty then pure (.agg (<-loadCells a (<-sizeOf ty))) else Go.load a);pure (.value x)):=by
  unfold execOp;rw[ho];simp only[Instr.loadAt,e1,Instr.sureAddr,loadVar,bind,Ϯ,pure]
 rw[e2];simp only[bind,Go.load];rw[pA,pA,agk hu hd];simp only[Aa2,if_false,ϧ,hc,Aae];rfl
def aks{n:Nat}{ty:ό}{c s r:Nat}(ho:o.op=.call {callee:=.builtin .close,args:=#[.tmp n],argTypes:=#[ty]})(hn:t.getD n ω=.chan (φ c))(hw:w.heap[c]?=φ (.chan 0 #[] χ s r χ)):
 (execOp (aS t) o).runT P w #[]=(.ok (.value (μ #[])) (w.shut c s r χ),#[⟨.obj c,χ,θ⟩,⟨.obj c,θ,θ⟩]):=by
 have e1:aS t (.tmp n)=.chan (φ c):=hn;unfold execOp;rw[ho]
 simp only[resolve,Aki,Akj,Akk,e1];show((Builtin.close_ #[ty] o.type #[.chan (φ c)]).bind λv=>Akd (Next.value v)).runT P w #[]=_
 have e2:(Builtin.close_ #[ty] o.type #[.chan (φ c)]).runT P w #[]=(.ok (μ #[]) (w.shut c s r χ),#[⟨.obj c,χ,θ⟩,⟨.obj c,θ,θ⟩]):=by
  have e3:Builtin.close_ #[ty] o.type #[.chan (φ c)]=(do
   let .chan room buf closed alj ajQ timer <-Go.getObj c|Go.stuck "close: no channel in this block"
   if closed then runtimePanic (.plain "close of closed channel")
   Go.setObj c (.chan room buf θ alj ajQ timer)
   pure (μ #[])):=rfl
  rw[e3];simp only[Go.getObj,Go.setObj,bind,Ϯ,ϧ,hw,Aa2,if_false,pure,Aae];rfl
 rw[pA,e2];rfl
end
end Go.Jn
namespace Go.Jn
open Go Go.Proofs Go.Sim
def ChanAt(t:Array υ)(M:aaa)(w0 w:Ψ)(s c:Nat):Prop:=t[s]?=φ (.chan (φ c))/\M.O c/\w0.heap.size<=c/\w.heap[c]?=φ (.chan 0 #[] χ 0 0 χ)
def nU(t:Array υ)(M:aaa)(w0 w:Ψ)(s p:Nat)(v:υ)(ty:ό):Prop:=t[s]?=φ (π (φ ⟨p,0,ν⟩))/\M.O p/\w0.heap.size<=p/\w.heap[p]?=φ (Ξ #[v] ty (0,0))
def kB{w:Ψ}{o:Obj}{b:Nat}(h:b<w.heap.size):(w.alloc o).heap[b]?=w.heap[b]?:=by
 show(w.heap.push o)[b]?=_;rw[Aah,if_neg (by omega)]
def jO{w:Ψ}{o:Obj}:(w.alloc o).heap[w.heap.size]?=φ o:=by
 show(w.heap.push o)[w.heap.size]?=_;rw[Aah,if_pos rfl]
def eM{w:Ψ}{o:Obj}:(w.alloc o).heap.size=w.heap.size+1:=by
 show(w.heap.push o).size=_;rw[Array.size_push]
def xe{M:aaa}{w:Ψ}{o:Obj}:eO M w (w.alloc o) #[]:=
 ⟨by rw[eM];omega,λb hb _=>kB hb,rfl,rfl,rfl,λe he=>absurd he (by simp)⟩
def jh(w:Ψ)(p:Nat)(o:Obj):Ψ:={w with heap:=w.heap.setIfInBounds p o}
def qS{w:Ψ}{p:Nat}{o:Obj}:(jh w p o).heap.size=w.heap.size:=Aem
def wa{w:Ψ}{p b:Nat}{o:Obj}(h:p≠b):(jh w p o).heap[b]?=w.heap[b]?:=by
 show(w.heap.setIfInBounds p o)[b]?=_;rw[Aai,if_neg h]
def PM{w:Ψ}{p:Nat}{o:Obj}(h:p<w.heap.size):(jh w p o).heap[p]?=φ o:=by
 show(w.heap.setIfInBounds p o)[p]?=_;rw[Aai,if_pos rfl,if_pos h]
def LZ{M:aaa}{w:Ψ}{p:Nat}{o:Obj}(hO:M.O p):eO M w (jh w p o) #[⟨.cell ⟨p,0,ν⟩,θ,χ⟩]:=
 ⟨by rw[qS];exact ϊ _,λb _ hb=>wa (by rintro rfl;exact hb hO),rfl,rfl,rfl,λe he=>by
   simp only[Af1,Af2] at he;subst he;exact .inl ⟨p,.inr ⟨⟨p,0,ν⟩,rfl,rfl⟩,rfl,.inl (.inl hO),λ_=>.inl hO⟩⟩
def GQ{M:aaa}{w:Ψ}{p:Nat}{o:Obj}:M.grow w (jh w p o)=M:=by
 have:=L2 M w;unfold aaa.grow at this |-
 rw[qS];exact this
section
variable {t:Array υ}{M:aaa}{w0 w:Ψ}{s c:Nat}
def ChanAt.alloc(h:ChanAt t M w0 w s c)(hl:∀b,M.has b->b<w.heap.size){d:Nat}(hd:d≠s){v:υ}{o:Obj}:ChanAt (t.setIfInBounds d v) (M.grow w (w.alloc o)) w0 (w.alloc o) s c:=
 ⟨by rw[Aai,if_neg hd];exact h.1,.inl h.2.1,h.2.2.1,(kB (hl _ (.inl h.2.1))).trans h.2.2.2⟩
def nU.alloc{v0:υ}{ty:ό}(h:nU t M w0 w s c v0 ty)(hl:∀b,M.has b->b<w.heap.size){d:Nat}(hd:d≠s){v:υ}{o:Obj}:nU (t.setIfInBounds d v) (M.grow w (w.alloc o)) w0 (w.alloc o) s c v0 ty:=
 ⟨by rw[Aai,if_neg hd];exact h.1,.inl h.2.1,h.2.2.1,(kB (hl _ (.inl h.2.1))).trans h.2.2.2⟩
def ChanAt.set(h:ChanAt t M w0 w s c){p:Nat}{v:υ}{ty:ό}(hp:w.heap[p]?=φ (Ξ #[v] ty (0,0))){o:Obj}:ChanAt t M w0 (jh w p o) s c:=
 ⟨h.1,h.2.1,h.2.2.1,(wa (by rintro rfl;rw[h.2.2.2] at hp;exact absurd hp (by simp))).trans h.2.2.2⟩
def nU.set{v0:υ}{ty:ό}(h:nU t M w0 w s c v0 ty){p:Nat}(hp:p≠c){o:Obj}:nU t M w0 (jh w p o) s c v0 ty:=
 ⟨h.1,h.2.1,h.2.2.1,(wa hp).trans h.2.2.2⟩
def ChanAt.keep(h:ChanAt t M w0 w s c){aa:Ψ}(k:bN M w aa):ChanAt t M w0 aa s c:=⟨h.1,h.2.1,h.2.2.1,(k.kept _ (.inl h.2.1)).trans h.2.2.2⟩
def nU.keep{v0:υ}{ty:ό}(h:nU t M w0 w s c v0 ty){aa:Ψ}(k:bN M w aa):nU t M w0 aa s c v0 ty:=⟨h.1,h.2.1,h.2.2.1,(k.kept _ (.inl h.2.1)).trans h.2.2.2⟩
end
structure I4(t0:Array υ)(M0:aaa)(w0:Ψ)(n:Nat)(l:Array Bool)(t:Array υ)(M:aaa)(w:Ψ):Prop where
 ex:∃a0 a1 a2 a3 a4 a5:Bool,∃cN cL p6 p7:Nat,l=#[a0,a1,a2,a3,a4,a5]/\n=bn a0+bn a1+bn a2+bn a3+bn a4+bn a5/\
  (a0=θ->ChanAt t M w0 w 19 cN)/\(a1=θ->ChanAt t M w0 w 20 cL)/\
  (a2=θ->nU t M w0 w 6 p6 (if a4 then .chan (φ cN) else .chan ν) 154)/\(a3=θ->nU t M w0 w 7 p7 (if a5 then .chan (φ cL) else .chan ν) 155)/\
  (a4=θ->a0=θ/\a2=θ)/\(a5=θ->a1=θ/\a3=θ)/\(a0=θ->a1=θ->cN≠cL)/\(a2=θ->a3=θ->p6≠p7)
 nR:t.size=41
 same:∀j,j≠19->j≠20->j≠6->j≠7->t[j]?=t0[j]?
 O:∀b,M0.O b->M.O b
 On:∀b,M.O b->M0.O b\/w0.heap.size<=b
 R:M.R=M0.R
 kept:∀b,M0.has b->w.heap[b]?=w0.heap[b]?
 size:w0.heap.size<=w.heap.size
 oF:∀b,M0.has b->b<w0.heap.size
 low:∀b,M.has b->b<w.heap.size
 tape:w.tape=w0.tape
 os:w.os=w0.os
 e:w.output=w0.output
section
variable {t0 t:Array υ}{M0 M:aaa}{w0 w:Ψ}{n:Nat}{l:Array Bool}
def I4.keep(h:I4 t0 M0 w0 n l t M w){aa:Ψ}(k:bN M w aa):I4 t0 M0 w0 n l t M aa:=by
 obtain⟨⟨a0,a1,a2,a3,a4,a5,cN,cL,p6,p7,e1,e2,f0,f1,f2,f3,f4,f5,f6,f7⟩,nR,same,O,On,R,kept,size,oF,low,tape,os,out⟩:=h;exact⟨⟨a0,a1,a2,a3,a4,a5,cN,cL,p6,p7,e1,e2,λh=>(f0 h).keep k,λh=>(f1 h).keep k,λh=>(f2 h).keep k,λh=>(f3 h).keep k,f4,f5,f6,f7⟩,nR,same,O,On,R,
  λb hb=>(k.kept b (hb.imp (O b) λx=>by rw[R];exact x)).trans (kept b hb),Ϥ size k.size,oF,λb hb=>Ϡ (low b hb) k.size,k.tape.trans tape,k.os.trans os,k.e.trans out⟩
end
end Go.Jn
namespace Go.Jn
open Go Go.Proofs Go.Sim
def BG:∃dir,ϋ.underlying 154=φ (.chan dir 3):=⟨_,rfl⟩
def Qi:∃dir,ϋ.underlying 155=φ (.chan dir 4):=⟨_,rfl⟩
def in3:∃i,ϋ.info? 3=φ i:=⟨_,rfl⟩
def in4:∃i,ϋ.info? 4=φ i:=⟨_,rfl⟩
def Vx:∃i,ϋ.info? 154=φ i/\i.zero=φ (.chan ν)/\i.size=1:=⟨_,rfl,rfl,rfl⟩
def Vy:∃i,ϋ.info? 155=φ i/\i.zero=φ (.chan ν)/\i.size=1:=⟨_,rfl,rfl,rfl⟩
section
variable {t0 t:Array υ}{M0 M:aaa}{w0 w:Ψ}{n:Nat}{l:Array Bool}
def I4.step(h:I4 t0 M0 w0 n l t M w){i:Nat}(hi:i∈Aka .any iP l):
 ∃o v aq es,iP[i]?=φ o/\Aj9 o (Aj2 iP t)=θ/\
  ((execOp (aS t) o).runT ϋ w #[]=(.ok (.value v) aq,es)\/v=ω/\(execOp (aS t) o).runT ϋ w #[]=(.ok .skip aq,es))/\eO M w aq es/\(∀e∈es,∀b,e.loc≠ .obj b)/\I4 t0 M0 w0 (n+1) (l.setIfInBounds i θ) (ay t o.dst v) (M.grow w aq) aq:=by
 obtain⟨⟨a0,a1,a2,a3,a4,a5,cN,cL,p6,p7,rfl,e2,f0,f1,f2,f3,f4,f5,f6,f7⟩,nR,same,O,On,R,kept,size,oF,low,tape,os,out⟩:=h;have hr:=Ru ajO a0 a1 a2 a3 a4 a5;rw[Akh] at hr;have hc:=hr i hi;have Iy:∀(o:Obj) b,(M.grow w (w.alloc o)).has b->b<(w.alloc o).heap.size:=by
  intro o b hb;rw[eM];rcases hb with(hb|hb) |hb
  ·have:=low b (.inl hb);omega
  ·rw[eM] at hb;omega
  ·have:=low b (.inr hb);omega
 have Iw:∀(o:Obj) b,(M.grow w (w.alloc o)).O b->M0.O b\/w0.heap.size<=b:=by
  rintro o b (hb|hb)
  ·exact On b hb
  ·right;omega
 have Iv:∀(o:Obj) b,M0.has b->(w.alloc o).heap[b]?=w0.heap[b]?:=λo b hb=>(kB (by have:=oF b hb;omega)).trans (kept b hb)
 have Ix:∀o:Obj,w0.heap.size<=(w.alloc o).heap.size:=λo=>by rw[eM];omega
 have own:∀o:Obj,(M.grow w (w.alloc o)).O w.heap.size:=λo=>.inr ⟨ϊ _,by rw[eM];omega⟩
 have sm:∀(d:Nat) (v:υ),(d=19\/d=20\/d=6\/d=7)->∀j,j≠19->j≠20->j≠6->j≠7->(t.setIfInBounds d v)[j]?=t0[j]?:=by
  intro d v hd j h1 h2 h3 h4;rw[Aai,if_neg (by rcases hd with rfl|rfl|rfl|rfl<;>omega)]
  exact same j h1 h2 h3 h4
 have at_:∀(d:Nat) (v:υ),d<41->(t.setIfInBounds d v)[d]?=φ v:=by
  intro d v hd;rw[Aai,if_pos rfl,if_pos (by omega)]
 have cJ:∀ {s:Nat} {v:υ},t[s]?=φ v->t.getD s ω=v:=by
  intro s v h;rw[Aaa,h];rfl
 match i,hc with
 |0,hc=>
  have ha:a0=χ:=by simpa [uO] using hc
  subst ha;obtain⟨o,ho,ab,hd,hg⟩:=ajd;obtain⟨dir,hu⟩:=BG;have h4:a4=χ:=by cases a4;rfl;exact absurd (f4 rfl).1 (by simp)
  subst h4;refine⟨o,_,_,_,ho,bI hg,.inl (WU t ab hu w in3),xe,by simp,?_⟩
  rw[hd];refine⟨⟨θ,a1,a2,a3,χ,a5,w.heap.size,cL,p6,p7,rfl,by simp only[bn] at *;simp at *;omega,λ_=>⟨at_ 19 _ (by omega),own _,size,jO⟩,λh=>(f1 h).alloc low (by omega),λh=>?_,λh=>(f3 h).alloc low (by omega),by simp,f5,λ_ h=>?_,f7⟩,
   by simp[ay,nR],sm 19 _ (by simp),λb hb=>.inl (O b hb),Iw _,R,Iv _,Ix _,oF,Iy _,tape,os,out⟩
  ·have:=(f2 h).alloc low (d:=19) (v:=.chan (φ w.heap.size)) (o:=.chan 0 #[] χ 0 0 χ) (by omega)
   simpa [ay] using this
  ·have:=low cL (.inl (f1 h).2.1);omega
 |1,hc=>
  have ha:a1=χ:=by simpa [uO] using hc
  subst ha;obtain⟨o,ho,ab,hd,hg⟩:=aje;obtain⟨dir,hu⟩:=Qi;have h5:a5=χ:=by cases a5;rfl;exact absurd (f5 rfl).1 (by simp)
  subst h5;refine⟨o,_,_,_,ho,bI hg,.inl (WU t ab hu w in4),xe,by simp,?_⟩
  rw[hd];refine⟨⟨a0,θ,a2,a3,a4,χ,cN,w.heap.size,p6,p7,rfl,by simp only[bn] at *;simp at *;omega,λh=>(f0 h).alloc low (by omega),λ_=>⟨at_ 20 _ (by omega),own _,size,jO⟩,λh=>(f2 h).alloc low (by omega),λh=>?_,f4,by simp,λh _=>?_,f7⟩,
   by simp[ay,nR],sm 20 _ (by simp),λb hb=>.inl (O b hb),Iw _,R,Iv _,Ix _,oF,Iy _,tape,os,out⟩
  ·have:=(f3 h).alloc low (d:=20) (v:=.chan (φ w.heap.size)) (o:=.chan 0 #[] χ 0 0 χ) (by omega)
   simpa [ay] using this
  ·have:=low cN (.inl (f0 h).2.1);omega
 |2,hc=>
  have ha:a2=χ:=by simpa [uO] using hc
  subst ha;obtain⟨o,ho,ab,hd,hg⟩:=ajf;obtain⟨ti,lU,hz,_⟩:=Vx;have h4:a4=χ:=by cases a4;rfl;exact absurd (f4 rfl).2 (by simp)
  subst h4;refine⟨o,_,_,_,ho,bI hg,.inl (Py t ab lU hz rfl w),xe,by simp,?_⟩
  rw[hd];refine⟨⟨a0,a1,θ,a3,χ,a5,cN,cL,w.heap.size,p7,rfl,by simp only[bn] at *;simp at *;omega,λh=>(f0 h).alloc low (by omega),λh=>(f1 h).alloc low (by omega),λ_=>⟨at_ 6 _ (by omega),own _,size,jO⟩,λh=>(f3 h).alloc low (by omega),by simp,f5,f6,λ_ h=>?_⟩,
   by simp[ay,nR],sm 6 _ (by simp),λb hb=>.inl (O b hb),Iw _,R,Iv _,Ix _,oF,Iy _,tape,os,out⟩
  have:=low p7 (.inl (f3 h).2.1);omega
 |3,hc=>
  have ha:a3=χ:=by simpa [uO] using hc
  subst ha;obtain⟨o,ho,ab,hd,hg⟩:=ajg;obtain⟨ti,lU,hz,_⟩:=Vy;have h5:a5=χ:=by cases a5;rfl;exact absurd (f5 rfl).2 (by simp)
  subst h5;refine⟨o,_,_,_,ho,bI hg,.inl (Py t ab lU hz rfl w),xe,by simp,?_⟩
  rw[hd];refine⟨⟨a0,a1,a2,θ,a4,χ,cN,cL,p6,w.heap.size,rfl,by simp only[bn] at *;simp at *;omega,λh=>(f0 h).alloc low (by omega),λh=>(f1 h).alloc low (by omega),λh=>(f2 h).alloc low (by omega),λ_=>⟨at_ 7 _ (by omega),own _,size,jO⟩,f4,by simp,f6,λh _=>?_⟩,
   by simp[ay,nR],sm 7 _ (by simp),λb hb=>.inl (O b hb),Iw _,R,Iv _,Ix _,oF,Iy _,tape,os,out⟩
  have:=low p6 (.inl (f2 h).2.1);omega
 |4,hc=>
  have ha:(a4=χ/\a0=θ)/\a2=θ:=by simpa [uO] using hc
  obtain⟨⟨rfl,rfl⟩,rfl⟩:=ha;obtain⟨o,ho,ab,hd,hg⟩:=ajh;obtain⟨ti,lU,_,hs⟩:=Vx;have g0:=f0 rfl;have g2:=f2 rfl;refine⟨o,ω,jh w p6 (Ξ #[.chan (φ cN)] 154 (0,0)),_,ho,bI hg,.inr ⟨rfl,PC t ab (cJ g2.1) (cJ g0.1) rfl rfl lU hs w g2.2.2.2⟩,LZ g2.2.1,by simp,?_⟩
  rw[hd,GQ];refine⟨⟨θ,a1,θ,a3,θ,a5,cN,cL,p6,p7,rfl,by simp only[bn] at *;simp at *;omega,λ_=>g0.set g2.2.2.2,λh=>(f1 h).set g2.2.2.2,λ_=>⟨g2.1,g2.2.1,g2.2.2.1,PM (low _ (.inl g2.2.1))⟩,λh=>(f3 h).set (f7 rfl h),λ_=>⟨rfl,rfl⟩,f5,f6,f7⟩,
   nR,same,O,On,R,λb hb=>(wa (by have:=oF b hb;have:=g2.2.2.1;omega)).trans (kept b hb),by rw[qS];exact size,oF,λb hb=>by rw[qS];exact low b hb,tape,os,out⟩
 |5,hc=>
  have ha:(a5=χ/\a1=θ)/\a3=θ:=by simpa [uO] using hc
  obtain⟨⟨rfl,rfl⟩,rfl⟩:=ha;obtain⟨o,ho,ab,hd,hg⟩:=aji;obtain⟨ti,lU,_,hs⟩:=Vy;have g1:=f1 rfl;have g3:=f3 rfl;refine⟨o,ω,jh w p7 (Ξ #[.chan (φ cL)] 155 (0,0)),_,ho,bI hg,.inr ⟨rfl,PC t ab (cJ g3.1) (cJ g1.1) rfl rfl lU hs w g3.2.2.2⟩,LZ g3.2.1,by simp,?_⟩
  rw[hd,GQ];refine⟨⟨a0,θ,a2,θ,a4,θ,cN,cL,p6,p7,rfl,by simp only[bn] at *;simp at *;omega,λh=>(f0 h).set g3.2.2.2,λ_=>g1.set g3.2.2.2,λh=>(f2 h).set (Ne.symm (f7 h rfl)),λ_=>⟨g3.1,g3.2.1,g3.2.2.1,PM (low _ (.inl g3.2.1))⟩,f4,λ_=>⟨rfl,rfl⟩,f6,f7⟩,
   nR,same,O,On,R,λb hb=>(wa (by have:=oF b hb;have:=g3.2.2.1;omega)).trans (kept b hb),by rw[qS];exact size,oF,λb hb=>by rw[qS];exact low b hb,tape,os,out⟩
 |n+6,hc=>exact absurd hc (by simp[uO])
structure R4(t0:Array υ)(M0:aaa)(w0:Ψ)(cN cL p6 p7:Nat)(t:Array υ)(M:aaa)(w:Ψ):Prop where
 n:ChanAt t M w0 w 19 cN
 l:ChanAt t M w0 w 20 cL
 vn:nU t M w0 w 6 p6 (.chan (φ cN)) 154
 vl:nU t M w0 w 7 p7 (.chan (φ cL)) 155
 nl:cN≠cL
 np:p6≠p7
 nR:t.size=41
 same:∀j,j≠19->j≠20->j≠6->j≠7->t[j]?=t0[j]?
 O:∀b,M0.O b->M.O b
 On:∀b,M.O b->M0.O b\/w0.heap.size<=b
 R:M.R=M0.R
 kept:∀b,M0.has b->w.heap[b]?=w0.heap[b]?
 size:w0.heap.size<=w.heap.size
 low:∀b,M.has b->b<w.heap.size
 tape:w.tape=w0.tape
 os:w.os=w0.os
 e:w.output=w0.output
def I4.done(h:I4 t0 M0 w0 n l t M w)(hd:Aka .any iP l=[]\/n=iP.size):∃cN cL p6 p7,R4 t0 M0 w0 cN cL p6 p7 t M w:=by
 obtain⟨⟨a0,a1,a2,a3,a4,a5,cN,cL,p6,p7,rfl,e2,f0,f1,f2,f3,f4,f5,f6,f7⟩,nR,same,O,On,R,kept,size,oF,low,tape,os,out⟩:=h;have nO:a0=θ/\a1=θ/\a2=θ/\a3=θ/\a4=θ/\a5=θ:=by
  rcases hd with hd|hd
  ·have:=Ru abf a0 a1 a2 a3 a4 a5
   rw[hd] at this;simpa [and_assoc] using this
  ·rw[alu] at hd
   rw[e2] at hd;cases a0<;>cases a1<;>cases a2<;>cases a3<;>cases a4<;>cases a5<;>simp_all [bn]
 obtain⟨rfl,rfl,rfl,rfl,rfl,rfl⟩:=nO;exact⟨cN,cL,p6,p7,f0 rfl,f1 rfl,f2 rfl,f3 rfl,f6 rfl rfl,f7 rfl rfl,nR,same,O,On,R,kept,size,low,tape,os,out⟩
def mixed:ϋ.follows .mixedOrders=θ:=by decide+kernel
def am1{main:Bool}{N:Nat}{Stop:aaa->ώ->Ψ->Prop}{f:Ϫ}{k:List Ajz}{D:List Abf}{kd:Aj0}{cs:List Ϙ}(hk:(kd==.early)=χ)
 (hs:t0.size=41)(gN:∀b,M0.has b->b<w0.heap.size)
 (h:∀cN cL p6 p7 t M w,R4 t0 M0 w0 cN cL p6 p7 t M w->WalkE ϋ main N Stop M (rg f t k D kd cs) w):
 WalkE ϋ main N Stop M0 (rg f t0 (.code (.region 4 iP θ)::k) D kd cs) w0:=by
 refine amU mixed hk (I4 t0 M0 w0) (λn l t M w aa hI kp=>hI.keep kp) (λn l t M w i hI hi=>hI.step hi) (λn l t M w hI hd=>?_) ?_
 ·obtain⟨cN,cL,p6,p7,hR⟩:=hI.done hd
  exact h _ _ _ _ _ _ _ hR
 ·refine⟨⟨χ,χ,χ,χ,χ,χ,0,0,0,0,rfl,rfl,by simp,by simp,by simp,by simp,by simp,by simp,by simp,by simp⟩,hs,λ_ _ _ _ _=>rfl,λ_ h=>h,λ_ h=>.inl h,rfl,λ_ _=>rfl,ϊ _,gN,gN,rfl,rfl,rfl⟩
end
end Go.Jn
namespace Go.Jn
open Go Go.Proofs Go.Sim Go.Conc
def qV:ϖ->ϖ
 | .block _ c=>c
 | .loop c=>c
 |c=>c
def Lx:ϖ:=(Tryz.f124.body).getD .skip
def pS:ϖ:=qV (qV (a8 (bO Lx)))
def qA:Array Ϝ:=opsOf (bO (bO Lx))
def qB:Array Ϝ:=opsOf (bO pS)
def qC:Array Ϝ:=opsOf (qV (bO (a8 (a8 pS))))
def qD:Array Ϝ:=opsOf (a8 (a8 (a8 pS)))
def qE:Array Ϝ:=opsOf (a8 Lx)
def Sa:Tryz.f124.body=φ (.seq (.seq (.region 0 qA χ) (.block 0 (.loop pS))) (.region 4 qE χ)):=rfl
def Rj:pS=.seq (.region 1 qB χ) (.seq (.cond (.tmp 7) .skip (.exit 0)) (.seq (.block 1 (.region 2 qC χ)) (.region 3 qD χ))):=rfl
def cA0:∃o,qA[0]?=φ o/\o.op=.fieldAddr 26 (.tmp 0) 2/\o.dst=φ 3/\o.guard=ν:=⟨_,rfl,rfl,rfl,rfl⟩
def EU:∃o,qA[1]?=φ o/\o.op=.load 23 (.tmp 3)/\o.dst=φ 4/\o.guard=ν:=⟨_,rfl,rfl,rfl,rfl⟩
def EV:∃o,qA[2]?=φ o/\o.op=.call {callee:=.builtin .len,args:=#[.tmp 4],argTypes:=#[23]}/\o.dst=φ 5/\o.guard=ν:=⟨_,rfl,rfl,rfl,rfl⟩
def cA3:∃o,qA[3]?=φ o/\o.op=.move (.const (ξ κ 0))/\o.dst=φ 6/\o.guard=ν:=⟨_,rfl,rfl,rfl,rfl⟩
def Si:∃o,qB[0]?=φ o/\o.op=.binOp .lss 3 (.tmp 6) (.tmp 5) 3/\o.dst=φ 7/\o.guard=ν:=⟨_,rfl,rfl,rfl,rfl⟩
def Z4:∃o,qC[0]?=φ o/\o.op=.load 155 (.tmp 1)/\o.dst=φ 8/\o.guard=ν:=⟨_,rfl,rfl,rfl,rfl⟩
def cC1:∃o,qC[1]?=φ o/\o.op=.recv 155 (.tmp 8) χ/\o.dst=φ 9/\o.guard=ν:=⟨_,rfl,rfl,rfl,rfl⟩
def Z6:∃o,qD[0]?=φ o/\o.op=.binOp .add 3 (.tmp 6) (.const (ξ κ 1)) 3/\o.dst=φ 10/\o.guard=ν:=⟨_,rfl,rfl,rfl,rfl⟩
def Z7:∃o,qD[1]?=φ o/\o.op=.move (.tmp 10)/\o.dst=φ 6/\o.guard=ν:=⟨_,rfl,rfl,rfl,rfl⟩
def Z8:∃o,qE[0]?=φ o/\o.op=.load 154 (.tmp 2)/\o.dst=φ 11/\o.guard=ν:=⟨_,rfl,rfl,rfl,rfl⟩
def Sj:∃o,qE[1]?=φ o/\o.op=.call {callee:=.builtin .close,args:=#[.tmp 11],argTypes:=#[154]}/\o.dst=ν/\o.guard=ν:=⟨_,rfl,rfl,rfl,rfl⟩
def zA:qA.size=4:=rfl
def zB:qB.size=1:=rfl
def zC:qC.size=2:=rfl
def zD:qD.size=2:=rfl
def zE:qE.size=2:=rfl
def agb:∃i,ϋ.info? 4=φ i/\i.zero=φ (.bool χ):=⟨_,rfl,rfl⟩
def XU:∃fs fd i,ϋ.underlying 26=φ (.struct fs)/\fs[2]?=φ fd/\fd.offset=2/\ ϋ.info? fd.type=φ i/\i.size≠0:=⟨_,_,_,rfl,rfl,rfl,rfl,by decide⟩
def XT:∃e,ϋ.underlying 23=φ (.slice e):=⟨_,rfl⟩
def vY{M:aaa}{b:Nat}(h:M.has b)(a:Addr)(ha:a.block=b):∀e∈(#[⟨.cell a,χ,χ⟩]:Array ϥ),wK M e:=λe he=>by
 simp only[Af1,Af2] at he;subst he;exact .inl ⟨b,.inr ⟨a,rfl,ha⟩,rfl,h,λh=>absurd h (by simp)⟩
def cS{M:aaa}:∀e∈(#[]:Array ϥ),wK M e:=λe he=>absurd he (by simp)
end Go.Jn
namespace Go.Jn
open Go Go.Proofs Go.Sim Go.Conc
def cJ{t:Array υ}{s:Nat}{v:υ}(h:t[s]?=φ v):t.getD s ω=v:=by
 rw[Aaa,h];rfl
def tY{t:Array υ}{d:Nat}{v:υ}(h:d<t.size):(t.setIfInBounds d v)[d]?=φ v:=by
 rw[Aai,if_pos rfl,if_pos h]
def bL{t:Array υ}{d s:Nat}{v:υ}(h:d≠s):(t.setIfInBounds d v)[s]?=t[s]?:=by
 rw[Aai,if_neg h]
section
variable {n N0 cL cN:Nat}{eU:Nat->Bool}{val:Nat->υ}{End:List Nat->aaa->ώ->Ψ->Prop}
def aaQ{M:aaa}{w:Ψ}{t:Array υ}(ht:t.getD 11 ω=.chan (φ cN)):
 AtClose (Pm.mk ϋ n N0 cL cN eU val End) M (rg 124 t [.inRegion qE [1]] [] .deferred [dp ϋ]) w:=by
 refine⟨rfl,?_,λs r hw=>?_⟩
 ·obtain⟨o,ho,ab,hd,hg⟩:=Sj
  show mayWake ϋ (rg 124 t [.inRegion qE [1]] [] .deferred [dp ϋ])=θ;simp[mayWake,Aj7,ho,ab]
 ·obtain⟨o,ho,ab,hd,hg⟩:=Sj
  have aQ:=Jd (P:=ϋ) (main:=χ) (f:=124) (k:=[]) (D:=[]) (kd:=.deferred) (cs:=[dp ϋ]) (rest:=[]) ho (bI hg) rfl (aks t w ab ht hw);rw[hd] at aQ;refine⟨rg 124 t [.inRegion qE []] [] .deferred [dp ϋ],4,aQ.trans ?_,?_⟩
  ·have e:seen ϋ 124 #[⟨.obj cN,χ,θ⟩,⟨.obj cN,θ,θ⟩]=#[⟨.obj cN,χ,θ⟩,⟨.obj cN,θ,θ⟩]:=by simp[seen]
   rw[e];rfl
  ·refine .inr ⟨rfl,rg 124 t [] [] .deferred [dp ϋ],λaa=>by simp[ϛ,Ad8,ay],.inr ⟨rfl,aO ⟨124,t,[],[],.returning,.deferred,ν⟩ [dp ϋ],λaa=>by simp[ϛ,Ad8],WD Tryz.func124 rfl⟩⟩
def ib{t:Array υ}{d:Nat}{v:υ}(h:d<t.size):(ay t (φ d) v).getD d ω=v:=cJ (tY h)
def wrap_small{x:Int}(h0:0<=x)(h1:x<2 ^ 62):IntKind.i64.wrap x=x:=by
 rw[IntWalk.i64_left];exact IntWalk.wrap64_in x (by omega)
def aaR{M:aaa}{w:Ψ}{p6 p7:Nat}{e6 e7:ό}{f6 f7:Nat×Nat}(m6:M.has p6)(m7:M.has p7)(h6:w.heap[p6]?=φ (Ξ #[.chan (φ cN)] e6 f6))(h7:w.heap[p7]?=φ (Ξ #[.chan (φ cL)] e7 f7))(hn:n<2 ^ 61):
 ∀(r:Nat) (t:Array υ),r<=n->t.size=12->t[1]?=φ (π (φ ⟨p7,0,ν⟩))->t[2]?=φ (π (φ ⟨p6,0,ν⟩))->t[5]?=φ (ξ κ n)->t[6]?=φ (ξ κ ((n:Int) - r))->
  Walk ϋ χ (pW (Pm.mk ϋ n N0 cL cN eU val End) r) M (rg 124 t [.code pS,.inLoop pS,.inBlock 0,.code (.region 4 qE χ)] [] .deferred [dp ϋ]) w:=by
 intro r;induction r with
 |zero=>
  intro t hr hs t1 t2 t5 t6;rw[Rj];refine fF (gH ?_)
  rw[zB];obtain⟨o,ho,ab,hd,hg⟩:=Si;refine du ho (bI hg) rfl (λaa _=>⟨_,I3 t aa ab (cJ t6) (cJ t5),cS⟩) ?_
  rw[hd];refine iA (fF (Bl (q:=χ) ?_ ?_))
  ·have:¬ ((n:Int) - ((0:Nat):Int)<n):=by omega
   exact(ib (by omega)).trans (congrArg Value.bool (by simp only[this,decide_true,decide_false]))
  ·refine Qm (k':=[.code (.region 4 qE χ)]) rfl (gH ?_)
   rw[zE];obtain⟨o,ho,ab,hd,hg⟩:=Z8;obtain⟨dir,hu⟩:=BG;refine du ho (bI hg) rfl (λaa hk=>⟨_,sx _ aa ab (cJ ((bL (by omega)).trans t2)) hu rfl (lL ((hk.kept _ m6).trans h6) rfl rfl),vY m6 _ rfl⟩) ?_
   rw[hd];exact .stop λaa _=>aaQ (cJ (tY (by simp[ay];omega)))
 |succ r ih=>
  intro t hr hs t1 t2 t5 t6;rw[Rj];refine fF (gH ?_)
  rw[zB];obtain⟨o,ho,ab,hd,hg⟩:=Si;refine du ho (bI hg) rfl (λaa _=>⟨_,I3 t aa ab (cJ t6) (cJ t5),cS⟩) ?_
  rw[hd];refine iA (fF (Bl (q:=θ) ?_ ?_))
  ·have:(n:Int) - ((r+1:Nat):Int)<n:=by omega
   exact(ib (by omega)).trans (congrArg Value.bool (by simp only[this,decide_true,decide_false]))
  ·refine Qq (fF (BL (gH ?_)))
   rw[zC];obtain⟨o,ho,ab,hd,hg⟩:=Z4;obtain⟨dir,hu⟩:=Qi;refine du ho (bI hg) rfl (λaa hk=>⟨_,sx _ aa ab (cJ ((bL (by omega)).trans t1)) hu rfl (lL ((hk.kept _ m7).trans h7) rfl rfl),vY m7 _ rfl⟩) ?_
   rw[hd];suffices rest:∀T:Array υ,T.size=12->T[8]?=φ (.chan (φ cL))->(∀j,j≠7->j≠8->T[j]?=t[j]?)->
    Walk ϋ χ (pW (Pm.mk ϋ n N0 cL cN eU val End) (r+1)) M (rg 124 T (.inRegion qC [1]:: .inBlock 1:: .code (.region 3 qD χ):: .inLoop pS:: .inBlock 0:: [.code (.region 4 qE χ)]) [] .deferred [dp ϋ]) w from
    rest _ (by simp[ay,hs]) (tY (by simp[ay];omega)) (λj h1 h2=>(bL (Ne.symm h2)).trans (bL (Ne.symm h1)))
   intro T MI WC xQ;obtain⟨o,ho,ab,hd,hg⟩:=cC1;obtain⟨i,hi,hz⟩:=agb;refine .stop λaa hk=>⟨rfl,rfl,⟨.bool χ,FG ho (bI hg) rfl (PB T aa ab (cJ WC) hu hi hz)⟩,?_⟩
   have ad5:Ϭ (rg 124 T (.inRegion qC [1]:: .inBlock 1:: .code (.region 3 qD χ):: .inLoop pS:: .inBlock 0:: [.code (.region 4 qE χ)]) [] .deferred [dp ϋ]) (recvd χ (.bool θ) θ)=
    rg 124 (T.setIfInBounds 9 (.bool θ)) (.inRegion qC []:: .inBlock 1:: .code (.region 3 qD χ):: .inLoop pS:: .inBlock 0:: [.code (.region 4 qE χ)]) [] .deferred [dp ϋ]:=by
    simp[Ϭ,Acj,ho,hd,recvd]
   show Walk ϋ χ (pW (Pm.mk ϋ n N0 cL cN eU val End) r) M (Ϭ (rg 124 T (.inRegion qC [1]:: .inBlock 1:: .code (.region 3 qD χ):: .inLoop pS:: .inBlock 0:: [.code (.region 4 qE χ)]) [] .deferred [dp ϋ]) (recvd χ (.bool θ) θ)) aa;rw[ad5];refine Walk.rely ?_ hk
   refine iA (Qn (gH ?_))
   rw[zD];obtain⟨o,ho,ab,hd,hg⟩:=Z6;have hU:∀j,j≠7->j≠8->j≠9->(T.setIfInBounds 9 (.bool θ))[j]?=t[j]?:=λj h1 h2 h3=>(bL (Ne.symm h3)).trans (xQ j h1 h2)
   refine du ho (bI hg) rfl (λaa _=>⟨_,WL _ aa ab (cJ ((hU 6 (by omega) (by omega) (by omega)).trans t6)) rfl,cS⟩) ?_
   rw[hd];obtain⟨o,ho,ab,hd,hg⟩:=Z7;refine du ho (bI hg) rfl (λaa _=>⟨_,run_move _ aa ab,cS⟩) ?_
   rw[hd];refine iA (Qo ?_)
   have hw:IntKind.i64.wrap ((n:Int) - ((r+1:Nat):Int)+1)=(n:Int) - r:=by rw[wrap_small (by omega) (by omega)];omega
   rw[hw];have N7:(T.setIfInBounds 9 (.bool θ)).size=12:=by simp[MI]
   refine ih _ (by omega) (by simp[ay,MI]) ?_ ?_ ?_ ?_
   ·exact(bL (by omega)).trans ((bL (by omega)).trans ((hU 1 (by omega) (by omega) (by omega)).trans t1))
   ·exact(bL (by omega)).trans ((bL (by omega)).trans ((hU 2 (by omega) (by omega) (by omega)).trans t2))
   ·exact(bL (by omega)).trans ((bL (by omega)).trans ((hU 5 (by omega) (by omega) (by omega)).trans t5))
   ·refine(tY (by simp[ay,MI])).trans ?_
    exact congrArg φ (cJ (tY (by omega)))
def aiM:(Tryz.f124.name== "runtime.NumGoroutine")=χ:=by decide+kernel
def closer{M:aaa}{w:Ψ}{bk p6 p7:Nat}{e6 e7 eb:ό}{f6 f7 fb:Nat×Nat}{bc:Array υ}{A:Option Addr}{c:Nat}(mb:M.has bk)(m6:M.has p6)(m7:M.has p7)(hb:w.heap[bk]?=φ (.cells bc eb fb))(hc:bc[2]?=φ (.slice A n c))
 (h6:w.heap[p6]?=φ (Ξ #[.chan (φ cN)] e6 f6))(h7:w.heap[p7]?=φ (Ξ #[.chan (φ cL)] e7 f7))(hn:n<2 ^ 61):
 Walk ϋ χ (pW (Pm.mk ϋ n N0 cL cN eU val End) n) M (born ϋ {target:=.fn (.func 124) #[π (φ ⟨bk,0,ν⟩),π (φ ⟨p7,0,ν⟩),π (φ ⟨p6,0,ν⟩)],args:=#[]}) w:=by
 refine Ya Tryz.func124 Sa (λaa=>ad3 Tryz.func124 Sa aiM _ aa) ?_
 have ht:((#[]++#[π (φ ⟨bk,0,ν⟩),π (φ ⟨p7,0,ν⟩),π (φ ⟨p6,0,ν⟩)])++Θ (Tryz.f124.ntmps - (#[]++#[π (φ ⟨bk,0,ν⟩),π (φ ⟨p7,0,ν⟩),π (φ ⟨p6,0,ν⟩)]:Array υ).size) ω:Array υ)=
  #[π (φ ⟨bk,0,ν⟩),π (φ ⟨p7,0,ν⟩),π (φ ⟨p6,0,ν⟩),ω,ω,ω,ω,ω,ω,ω,ω,ω]:=rfl
 rw[ht];generalize hT:(#[π (φ ⟨bk,0,ν⟩),π (φ ⟨p7,0,ν⟩),π (φ ⟨p6,0,ν⟩),ω,ω,ω,ω,ω,ω,ω,ω,ω]:Array υ)=t;have hs:t.size=12:=by rw[<-hT];rfl
 have t0:t[0]?=φ (π (φ ⟨bk,0,ν⟩)):=by rw[<-hT];rfl
 have t1:t[1]?=φ (π (φ ⟨p7,0,ν⟩)):=by rw[<-hT];rfl
 have t2:t[2]?=φ (π (φ ⟨p6,0,ν⟩)):=by rw[<-hT];rfl
 clear hT ht;refine fF (fF (gH ?_))
 rw[zA];obtain⟨o,ho,ab,hd,hg⟩:=cA0;obtain⟨fs,fd,fi,hu,hf,NT,hi,aI⟩:=XU;refine du ho (bI hg) rfl (λaa _=>⟨_,WN t aa ab (cJ t0) hu hf hi aI,cS⟩) ?_
 rw[hd,NT];obtain⟨o,ho,ab,hd,hg⟩:=EU;obtain⟨e,D7⟩:=XT;refine du ho (bI hg) rfl (λaa hk=>⟨_,sx _ aa ab (cJ (tY (by omega))) D7 rfl (lL ((hk.kept _ mb).trans hb) rfl hc),vY mb _ rfl⟩) ?_
 rw[hd];obtain⟨o,ho,ab,hd,hg⟩:=EV;refine du ho (bI hg) rfl (λaa _=>⟨_,WQ _ aa ab (cJ (tY (by simp[ay];omega))) D7,cS⟩) ?_
 rw[hd];obtain⟨o,ho,ab,hd,hg⟩:=cA3;refine du ho (bI hg) rfl (λaa _=>⟨_,run_move _ aa ab,cS⟩) ?_
 rw[hd];refine iA (BL (Qp ?_))
 refine aaR m6 m7 h6 h7 hn n _ (ϊ _) (by simp[ay,hs]) ?_ ?_ ?_ ?_
 ·exact(bL (by omega)).trans ((bL (by omega)).trans ((bL (by omega)).trans ((bL (by omega)).trans t1)))
 ·exact(bL (by omega)).trans ((bL (by omega)).trans ((bL (by omega)).trans ((bL (by omega)).trans t2)))
 ·exact(bL (by omega)).trans ((tY (by simp[ay];omega)).trans rfl)
 ·refine(tY (by simp[ay];omega)).trans ?_
  have:(n:Int) - n=0:=by omega
  rw[this];rfl
end
end Go.Jn
namespace Go.Jn
open Go Go.Proofs Go.Sim Go.Conc
def yN:Array Ϝ:=opsOf ((Tryz.f121.body).getD .skip)
def ahJ:Tryz.f121.body=φ (.region 0 yN χ):=rfl
def ZV:∃o,yN[0]?=φ o/\o.op=.load 155 (.tmp 0)/\o.dst=φ 1/\o.guard=ν:=⟨_,rfl,rfl,rfl,rfl⟩
def ZW:∃o,yN[1]?=φ o/\o.op=.send (.tmp 1) (.const (.bool θ))/\o.dst=ν/\o.guard=ν:=⟨_,rfl,rfl,rfl,rfl⟩
def ann:yN.size=2:=rfl
def aiL:(Tryz.f121.name== "runtime.NumGoroutine")=χ:=by decide+kernel
def alS{P:ϑ}{main:Bool}{g f:Ϫ}{t eQ:Array υ}{k:List Ajz}{D:List Abf}{kd:Aj0}{cs:List Ϙ}{fn:Ϣ}{c:ϖ}(hf:P.funcs[f]?=φ fn)(hb:fn.body=φ c){aa:Ψ}(hr:(callFunc f (#[]++eQ)).runT P aa #[]=(.ok (.enter f (#[]++eQ)) aa,#[])):
 ϛ P main (aO ⟨g,t,k,{target:=.fn (.func f) eQ,args:=#[]}::D,.returning,kd,ν⟩ cs) aa=.go (rg f ((#[]++eQ)++Θ (fn.ntmps - (#[]++eQ:Array υ).size) ω) [.code c] [] .deferred (⟨g,t,k,D,.returning,kd,ν⟩::cs)) aa #[]:=by
 have hi:invoke (.fn (.func f) eQ) #[]=callFunc f (#[]++eQ):=rfl;have e:Abw P ⟨g,t,k,D,.returning,kd,ν⟩ cs ν {target:=.fn (.func f) eQ,args:=#[]} aa=.go (aO (Aci P f (#[]++eQ) .deferred) (⟨g,t,k,D,.returning,kd,ν⟩::cs)) aa #[]:=by
  unfold Abw;simp only[hi,hr,ud,Acm,Bool.false_and,Aa2,if_false];rfl
 exact e.trans (by rw[zQ hf hb])
def alO{P:ϑ}{f g:Ϫ}{t t':Array υ}{k k':List Ajz}{kd:Aj0}{cs:List Ϙ}{fn:Ϣ}(hf:P.funcs[f]?=φ fn)(hr:fn.results=#[])(aa:Ψ):
 ϛ P χ (aO ⟨f,t,k,[],.returning,.deferred,ν⟩ (⟨g,t',k',[],.returning,kd,ν⟩::cs)) aa=.go (aO ⟨g,t',k',[],.returning,kd,ν⟩ cs) aa #[]:=by
 have e:Abx P χ ⟨f,t,k,[],.returning,.deferred,ν⟩ (⟨g,t',k',[],.returning,kd,ν⟩::cs) ν aa=.go (aO ⟨g,t',k',[],.returning,kd,ν⟩ cs) aa #[]:=by
  unfold Abx;simp only[hf,results_none hr,ud,Acm,doReturn];rfl
 exact e
section
variable {n N0 cL cN:Nat}{eU:Nat->Bool}{val:Nat->υ}{End:List Nat->aaa->ώ->Ψ->Prop}
def am8{M:aaa}{w:Ψ}{p7:Nat}{e7:ό}{f7:Nat×Nat}(m7:M.has p7)(h7:w.heap[p7]?=φ (Ξ #[.chan (φ cL)] e7 f7)){t:Array υ}{k:List Ajz}(aft:Tryz.f120.results=#[]):
 Walk ϋ χ (W2 (Pm.mk ϋ n N0 cL cN eU val End)) M (aO ⟨120,t,k,[{target:=.fn (.func 121) #[π (φ ⟨p7,0,ν⟩)],args:=#[]}],.returning,.deferred,ν⟩ [dp ϋ]) w:=by
 refine kM rfl (λaa=>alS Tryz.func121 ahJ (ad3 Tryz.func121 ahJ aiL _ aa)) ?_
 have ht:((#[]++#[π (φ ⟨p7,0,ν⟩)])++Θ (Tryz.f121.ntmps - (#[]++#[π (φ ⟨p7,0,ν⟩)]:Array υ).size) ω:Array υ)=#[π (φ ⟨p7,0,ν⟩),ω]:=rfl;rw[ht];refine gH ?_
 rw[ann];obtain⟨o,ho,ab,hd,hg⟩:=ZV;obtain⟨dir,hu⟩:=Qi;refine du ho (bI hg) rfl (λaa hk=>⟨_,sx _ aa ab (v:=.chan (φ cL)) (a:=⟨p7,0,ν⟩) rfl hu rfl (lL ((hk.kept _ m7).trans h7) rfl rfl),vY m7 _ rfl⟩) ?_
 rw[hd];obtain⟨o,ho,ab,hd,hg⟩:=ZW;refine .stop λaa _=>⟨rfl,rfl,⟨μ #[],FG ho (bI hg) rfl (WV _ aa ab rfl)⟩,5,?_⟩
 have ad5:Ϭ (rg 121 #[π (φ ⟨p7,0,ν⟩),.chan (φ cL)] [.inRegion yN [1]] [] .deferred [⟨120,t,k,[],.returning,.deferred,ν⟩,dp ϋ]) ω=
  rg 121 #[π (φ ⟨p7,0,ν⟩),.chan (φ cL)] [.inRegion yN []] [] .deferred [⟨120,t,k,[],.returning,.deferred,ν⟩,dp ϋ]:=by
  simp[Ϭ,Acj,ho,hd]
 show QuitsIn ϋ 5 (Ϭ (rg 121 #[π (φ ⟨p7,0,ν⟩),.chan (φ cL)] [.inRegion yN [1]] [] .deferred [⟨120,t,k,[],.returning,.deferred,ν⟩,dp ϋ]) ω);rw[ad5];refine .inr ⟨rfl,rg 121 #[π (φ ⟨p7,0,ν⟩),.chan (φ cL)] [] [] .deferred [⟨120,t,k,[],.returning,.deferred,ν⟩,dp ϋ],λaa=>by simp[ϛ,Ad8],?_⟩
 refine .inr ⟨rfl,aO ⟨121,#[π (φ ⟨p7,0,ν⟩),.chan (φ cL)],[],[],.returning,.deferred,ν⟩ [⟨120,t,k,[],.returning,.deferred,ν⟩,dp ϋ],λaa=>by simp[ϛ,Ad8],?_⟩
 exact .inr ⟨rfl,_,λaa=>alO Tryz.func121 rfl aa,WD Tryz.func120 aft⟩
def Cy:ϖ:=(Tryz.f120.body).getD .skip
def IN:Array Ϝ:=opsOf (bO Cy)
def pz:Array Ϝ:=opsOf (a8 (a8 (a8 Cy)))
def ur:ϖ:=bO (a8 Cy)
def sL:ϖ:=bO (a8 (a8 Cy))
def R8:Tryz.f120.body=φ (.seq (.region 0 IN χ) (.seq ur (.seq sL (.region 3 pz χ)))):=rfl
def ZQ:∃o,IN[0]?=φ o/\o.op=.makeFunc (.func 121) #[] #[.tmp 0]/\o.dst=φ 6/\o.guard=ν:=⟨_,rfl,rfl,rfl,rfl⟩
def ZR:∃o,IN[1]?=φ o/\o.op=.defer {callee:=.value (.tmp 6),args:=#[],argTypes:=#[]}/\o.dst=ν/\o.guard=ν:=⟨_,rfl,rfl,rfl,rfl⟩
def ZS:∃o,pz[0]?=φ o/\o.op=.load 154 (.tmp 3)/\o.dst=φ 16/\o.guard=ν:=⟨_,rfl,rfl,rfl,rfl⟩
def ZT:∃o,pz[1]?=φ o/\o.op=.load 3 (.tmp 2)/\o.dst=φ 17/\o.guard=ν:=⟨_,rfl,rfl,rfl,rfl⟩
def ZU:∃o,pz[2]?=φ o/\o.op=.send (.tmp 16) (.tmp 17)/\o.dst=ν/\o.guard=ν:=⟨_,rfl,rfl,rfl,rfl⟩
def ano:IN.size=2:=rfl
def anp:pz.size=3:=rfl
def ty3:ϋ.underlying 3=φ (.int .i64):=rfl
def aiK:(Tryz.f120.name== "runtime.NumGoroutine")=χ:=by decide+kernel
def am9{Stop:aaa->ώ->Ψ->Prop}{M:aaa}{w:Ψ}{bk p6 p7 pk:Nat}
 (h:∀t:Array υ,t.size=18->t[0]?=φ (π (φ ⟨p7,0,ν⟩))->t[1]?=φ (π (φ ⟨bk,0,ν⟩))->t[2]?=φ (π (φ ⟨pk,0,ν⟩))->t[3]?=φ (π (φ ⟨p6,0,ν⟩))->
   t[6]?=φ (.func (.func 121) #[] #[π (φ ⟨p7,0,ν⟩)])->(∀j,4<=j->j<18->j≠6->t[j]?=φ ω)->
   Walk ϋ χ Stop M (rg 120 t [.code (.seq ur (.seq sL (.region 3 pz χ)))] [{target:=.fn (.func 121) #[π (φ ⟨p7,0,ν⟩)],args:=#[]}] .deferred [dp ϋ]) w):
 Walk ϋ χ Stop M (born ϋ {target:=.fn (.func 120) #[π (φ ⟨p7,0,ν⟩),π (φ ⟨bk,0,ν⟩),π (φ ⟨pk,0,ν⟩),π (φ ⟨p6,0,ν⟩)],args:=#[]}) w:=by
 refine Ya Tryz.func120 R8 (λaa=>ad3 Tryz.func120 R8 aiK _ aa) ?_
 have hn:Tryz.f120.ntmps=18:=rfl;have ht:∀a b c d:υ,((#[]++#[a,b,c,d])++Θ (18 - (#[]++#[a,b,c,d]:Array υ).size) ω:Array υ)=#[a,b,c,d,ω,ω,ω,ω,ω,ω,ω,ω,ω,ω,ω,ω,ω,ω]:=λ_ _ _ _=>by simp[Θ]
 rw[hn];rw[ht];generalize hT:(#[π (φ ⟨p7,0,ν⟩),π (φ ⟨bk,0,ν⟩),π (φ ⟨pk,0,ν⟩),π (φ ⟨p6,0,ν⟩),ω,ω,ω,ω,ω,ω,ω,ω,ω,ω,ω,ω,ω,ω]:Array υ)=T;have hs:T.size=18:=by rw[<-hT];rfl
 have t0:T[0]?=φ (π (φ ⟨p7,0,ν⟩)):=by rw[<-hT];rfl
 have t1:T[1]?=φ (π (φ ⟨bk,0,ν⟩)):=by rw[<-hT];rfl
 have t2:T[2]?=φ (π (φ ⟨pk,0,ν⟩)):=by rw[<-hT];rfl
 have t3:T[3]?=φ (π (φ ⟨p6,0,ν⟩)):=by rw[<-hT];rfl
 have tu:∀j,4<=j->j<18->T[j]?=φ ω:=by
  intro j h4 GV;have:j=4\/j=5\/j=6\/j=7\/j=8\/j=9\/j=10\/j=11\/j=12\/j=13\/j=14\/j=15\/j=16\/j=17:=by omega
  rw[<-hT];rcases this with rfl|rfl|rfl|rfl|rfl|rfl|rfl|rfl|rfl|rfl|rfl|rfl|rfl|rfl<;>rfl
 clear hT ht;refine fF (gH ?_)
 rw[ano];obtain⟨o,ho,ab,hd,hg⟩:=ZQ;have hv:(#[Operand.tmp 0].map (aS T))=#[π (φ ⟨p7,0,ν⟩)]:=by
  have:aS T (.tmp 0)=π (φ ⟨p7,0,ν⟩):=cJ t0;simp only[Aki,Akj,Akk,this]
 refine du ho (bI hg) rfl (λaa _=>⟨_,(Pz T aa ab).trans (by rw[hv]),cS⟩) ?_
 rw[hd];obtain⟨o,ho,ab,hd,hg⟩:=ZR;refine amZ ho (bI hg) rfl (d:={target:=.fn (.func 121) #[π (φ ⟨p7,0,ν⟩)],args:=#[]}) (λaa=>akt _ aa ab (ib (by omega))) ?_
 rw[hd];refine iA (h _ ?_ ?_ ?_ ?_ ?_ ?_ ?_)
 ·simp[ay,hs]
 ·exact(bL (by omega)).trans t0
 ·exact(bL (by omega)).trans t1
 ·exact(bL (by omega)).trans t2
 ·exact(bL (by omega)).trans t3
 ·exact tY (by omega)
 ·exactλj h4 GV h6=>(bL (Ne.symm h6)).trans (tu j h4 GV)
end
end Go.Jn
namespace Go.Sim
open Go
def Th{α σ:Type}{f:α->σ->Option (ForInStep σ)}(I:σ->Prop)(hf:∀x s r,I s->f x s=φ r->I r.value):∀(l:List α) (s s':σ),I s->forIn l s f=φ s'->I s'
 | [],s,s',hs,h=>by
   simp only[List.forIn_nil] at h;cases h;exact hs
 |x::l,s,s',hs,h=>by
  rw[List.forIn_cons] at h;simp only[bind,Akr] at h;obtain⟨r,h1,h2⟩:=h;have hr:=hf x s r hs h1;cases r with
  |done b=>cases h2;exact hr
  |yield b=>exact Th I hf l b s' hr h2
def Rr(z:Option (Array υ)):Prop:=∀c,z=φ c->aP (λ_ _=>False) c c
def ajR{info:ό->Option Aj5}(hi:∀t i v,info t=φ i->i.zero=φ v->Flat v){fs:Array Field}{i:Aj5}(h:Made.reckonStruct info fs=φ i){v:υ}(hv:i.zero=φ v):Flat v:=by
 unfold Made.reckonStruct at h;simp only[bind,Akr] at h;obtain⟨r,h1,h2⟩:=h;have inv:Rr r.2.2.2.2.2.2.2.1:=by
  rw[<-Array.forIn_toList] at h1;refine Th (λs=>Rr s.2.2.2.2.2.2.2.1) ?_ _ _ _ ?_ h1
  ·intro x s r hs h
   simp only[Akr] at h;obtain⟨j,hj,h⟩:=h;have key:r.value.2.2.2.2.2.2.2.1=(if s.2.1+j.size>Made.mostCells then ν else s.2.2.2.2.2.2.2.1.bind λa=>j.zero.bind λb=>φ (a++b.cells)):=by
    by_cases e1:j.str.isEmpty=θ
    ·simp[e1] at h
    by_cases e2:x.embedded=θ
    ·simp[e1,e2] at h
    by_cases e3:x.tag.isEmpty=θ<;>by_cases e4:j.bytes=0<;>simp only[e1,e2,e3,e4,if_true,if_false,Akr,pure,Aeh,Aa2] at h<;>obtain⟨tag,ht,rfl⟩:=h<;>rfl
   intro c hc;rw[key] at hc;split at hc
   ·exact absurd hc (by simp)
   ·simp only[Akr] at hc
    obtain⟨a,ha,b,hb,hc⟩:=hc;cases hc;exact(hs a ha).append (ah.cells (hi _ _ _ hj hb))
  ·intro c hc;cases hc;exact .empty
 have hz:i.zero=Option.map Value.agg r.2.2.2.2.2.2.2.1:=by
  split at h2<;>cases h2<;>rfl
 rw[hz] at hv;cases hr:r.2.2.2.2.2.2.2.1 with
 |none=>rw[hr] at hv;exact absurd hv (by simp)
 |some c=>rw[hr] at hv;cases hv;exact .uF (inv c hr)
def aj8{c:Array υ}(h:aP (λ_ _=>False) c c):∀n:Nat,aP (λ_ _=>False) (Θ n c).flatten (Θ n c).flatten:=by
 intro n;refine bU.refl λa ha=>?_
 simp only[Array.mem_flatten,Aav] at ha;obtain⟨x,⟨_,rfl⟩,hx⟩:=ha;obtain⟨i,hi,rfl⟩:=Aay.1 hx;exact h.2 i hi hi
def ajS{info:ό->Option Aj5}(hi:∀t i v,info t=φ i->i.zero=φ v->Flat v){d:TypeDesc}{i:Aj5}(h:Made.reckon info d=φ i){v:υ}(hv:i.zero=φ v):Flat v:=by
 unfold Made.reckon at h;split at h
 ·simp only[bind,Akr] at h
  obtain⟨j,h1,h2⟩:=h;split at h2
  ·exact absurd h2 (by simp)
  ·split at h2
   ·exact absurd h2 (by simp)
   ·simp only[Akr,pure,Aeh] at h2
    obtain⟨_,_,rfl⟩:=h2;cases hv;exact .ptrNone
  ·simp only[Akr,pure,Aeh] at h2
   obtain⟨_,_,rfl⟩:=h2;cases hv;exact .ptrNone
 ·simp only[bind,Akr,pure,Aeh] at h
  obtain⟨_,_,_,_,rfl⟩:=h;cases hv;exact .sliceNone _ _
 ·simp only[bind,Akr,pure,Aeh] at h
  obtain⟨_,_,_,_,_,_,_,_,rfl⟩:=h;cases hv;exact .mapNone
 ·simp only[bind,Akr,pure,Aeh] at h
  obtain⟨_,_,_,_,rfl⟩:=h;cases hv;exact .chanNone
 ·simp only[bind,Akr,pure,Aeh] at h
  obtain⟨_,_,rfl⟩:=h;cases hv;exact .nilFunc
 ·simp only[bind,Akr,pure,Aeh] at h
  obtain⟨j,hj,_,_,rfl⟩:=h;simp only at hv;split at hv
  ·exact absurd hv (by simp)
  ·split at hv
   ·cases hv;exact .uF .empty
   ·cases hz:j.zero with
    |none=>rw[hz] at hv;exact absurd hv (by simp)
    |some z=>rw[hz] at hv;cases hv;exact .uF (aj8 (ah.cells (hi _ _ _ hj hz)) _)
 ·exact ajR hi h hv
 ·exact absurd h (by simp)
def VF{T:Tables}(h0:∀(t:Nat) (i:Aj5) (v:υ),T.types[t]?=φ i->i.zero=φ v->Flat v):∀(f:Nat) (t:ό) (i:Aj5) (v:υ),Made.infoAt T f t=φ i->i.zero=φ v->Flat v
 |0,_,_,_,h,_=>absurd h (by simp[Made.infoAt])
 |f+1,t,i,v,h,hv=>by
  unfold Made.infoAt at h;split at h
  ·exact h0 _ _ _ h hv
  ·simp only[Akr] at h
   obtain⟨d,_,h2⟩:=h;exact ajS (VF h0 f) h2 hv
def agf{P:ϑ}(h0:∀(t:Nat) (i:Aj5) (v:υ),P.types[t]?=φ i->i.zero=φ v->Flat v):oe P where
 zero t i v h hv:=by
  have h':(if t<P.types.size then P.types[t]? else Made.infoAt P.toTables Made.depth t)=φ i:=h
  split at h'
  ·exact h0 _ _ _ h' hv
  ·exact VF (T:=P.toTables) h0 _ _ _ _ h' hv
end Go.Sim
namespace Go.Jn
open Go Go.Proofs Go.Sim
def G0:Nat->Bool:=λg=>g==0
def Sb(P:ϑ)(fn:Ϣ):Bool:=match fn.body with
 |some c=>cr P G0 c && !(fn.name== "runtime.NumGoroutine") && (readies c).isEmpty
 |none=>χ
def okB(P:ϑ)(i:Nat):Bool:=Tw.vH i||match P.funcs[i]? with
 |some fn=>Sb P fn
 |none=>χ
def nF:Nat:=241
def ajb:(List.range nF).all (okB ϋ)=θ:=by decide+kernel
def E8:ϋ.funcs.size=nF:=by decide+kernel
def QA(i:Aj5):Bool:=match i.zero with
 |some v=>kF 10 v
 |none=>θ
def anr:ϋ.types.all QA=θ:=by decide+kernel
def Mg:ϋ.follows .staticDataAhead=θ:=by decide+kernel
def GG:QS Tw.dead where
 name:=by decide+kernel
 body:=rfl
 next:=by decide+kernel
 row:=by decide+kernel
 init:=by decide+kernel
end Go.Jn
namespace Go.Jn
open Go Go.Proofs Go.Sim
def Qf(P:ϑ)(F:Array Ϣ):∀(d:Nat) (t:ό),gK (tw P F) d t=gK P d t
 |0,_=>rfl
 |d+1,t=>by
  unfold gK;have e:gK (tw P F) d=gK P d:=funext λt=>Qf P F d t
  rw[ly,jH,e]
def XN(P:ϑ)(F:Array Ϣ)(G:Nat->Bool):∀c:ϖ,cr (tw P F) G c=cr P G c:=by
 have e0:CR (tw P F)=CR P:=funext λt=>by unfold CR;rw[Qf,Jk,BF]
 have e1:zK (tw P F)=zK P:=funext λt=>by unfold zK;rw[jH]
 have e2:zO (tw P F)=zO P:=funext λs=>funext λd=>by unfold zO;rw[jH,jH,e1]
 have e3:CV (tw P F)=CV P:=funext λs=>funext λi=>by
  unfold CV;rw[jH]
  have:(tw P F).info? = P.info? :=funext λt=>ly P F t
  simp only[this]
 have e4:yG (tw P F)=yG P:=funext λt=>by
  unfold yG;rw[jH]
  have:gK (tw P F) 20=gK P 20:=funext λt=>Qf P F _ t
  simp only[this]
 have e5:EH (tw P F)=EH P:=funext λt=>by
  unfold EH;have:(tw P F).underlying=P.underlying:=funext λt=>jH P F t
  simp only[this]
 have e6:uL (tw P F)=uL P:=funext λts=>funext λn=>funext λb=>by unfold uL;rw[e5]
 have e7:iO (tw P F)=iO P:=funext λo=>by unfold iO;rw[e0,e2,e3,e4,e6]
 have e8:j7 (tw P F) G=j7 P G:=funext λo=>by unfold j7;rw[e7]
 intro c;induction c with
 |region id ops d=>simp only[cr,e8]
 |seq a b El Em=>simp only[cr,El,Em]
 |cond c a b El Em=>simp only[cr,El,Em]
 |block n b ih=>simp only[cr,ih]
 |loop b ih=>simp only[cr,ih]
 |scope b ih=>simp only[cr,ih]
 |rangeFunc f ps a b El Em=>simp only[cr,El,Em]
 |_=>simp only[cr]
def okF(f:Nat):Bool:=decide (f<nF) && !Tw.vH f
def self(P:ϑ)(F:Array Ϣ):ϑ:={P with funcs:=F}
def Qh(P:ϑ)(F:Array Ϣ):tw (self P F) F=tw P F:=rfl
def Xf(P:ϑ)(F:Array Ϣ):(self P F).funcs=F:=rfl
def Xe(P:ϑ)(F:Array Ϣ)(G:Nat->Bool)(c:ϖ):cr (self P F) G c=cr P G c:=by
 rw[<-XN (self P F) F G c,Qh,XN]
def ale(P:ϑ)(F:Array Ϣ)(t:ό):(self P F).info? t= P.info? t:=by
 rw[<-ly (self P F) F t,Qh,ly]
def Qg(P:ϑ)(F:Array Ϣ):(tw P F).follows .staticDataAhead=P.follows .staticDataAhead:=rfl
def sG:oe ϋ:=agf λt i v h hv=>by
 have hz:QA i=θ:=by
  have:=anr;rw[Aal] at this;exact this i (Aax h)
 unfold QA at hz;rw[hv] at hz
 exact Tb 10 hz
@[reducible] def iQ:Tw.aR:=⟨Tw.dead⟩
def kg:Array Ϝ:=#[⟨φ 1,.assign (.const (.bool θ)),4,"",#[],ν⟩,⟨ν,.extract (.const (.bool θ)) 0,4,"",#[],φ (0,θ)⟩,⟨φ 0,.assign (.const (.bool θ)),4,"",#[],ν⟩]
def stub:Ϣ:={Tryz.f21 with body:=φ (.seq (.region 0 kg χ) .ret),ntmps:=1,results:=#[.tmp 0]}
@[reducible] def jg:Tw.aR:=⟨stub⟩
section
variable [Tw.aR]
def IC{f:Nat}(h:okF f=θ):∃fn c,ϋ.funcs[f]?=φ fn/\Tw.F[f]?=φ fn/\fn.body=φ c/\cr ϋ G0 c=θ/\(fn.name== "runtime.NumGoroutine")=χ/\readies c=[]:=by
 unfold okF at h;simp only[Aa3,decide_eq_true_eq,Ajy] at h;have h1:=ajb;rw[Akh] at h1;have h2:=h1 f (List.mem_range.2 h.1);unfold okB at h2;rw[h.2,Bool.false_or] at h2;cases e:ϋ.funcs[f]? with
 |none=>rw[e] at h2;exact absurd h2 (by simp)
 |some fn=>
  rw[e] at h2;simp only[Sb] at h2;cases eb:fn.body with
  |none=>rw[eb] at h2;exact absurd h2 (by simp)
  |some c=>
   rw[eb] at h2;simp only[Aa3,Ajy,List.isEmpty_iff] at h2;exact⟨fn,c,rfl,(Tw.QU f h.2).trans e,eb,h2.1.1,h2.1.2,h2.2⟩
def Yt:Tw.F.size=nF:=by
 unfold Tw.F;rw[Aem,Array.size_mapIdx,E8]
def Cd(f:Nat):okF f=θ\/f=21\/Tw.F[f]?=ν\/Tw.F[f]?=φ Tw.dead:=by
 by_cases h:okF f=θ
 ·exact .inl h
 by_cases rC:f=21
 ·exact .inr (.inl rC)
 right;right
 by_cases hn:f<nF
 ·have:Tw.vH f=θ:=by
   unfold okF at h;simp only[Aa3,decide_eq_true_eq,Ajy,not_and,Bool.not_eq_false] at h;exact h hn
  exact Tw.Ys f this (Ne.symm rC)
 ·left;exact Aan (by rw[Yt];omega)
def Wi(hs:∀c,Tw.aR.I7.body=φ c->readies c=[])(g:Nat):Tw.prog.stepOf g=ν:=by
 unfold Program.stepOf;rw[Tw.Pe,Array.findIdx?_eq_none_iff]
 intro fn Du;obtain⟨f,hf⟩:=Ajr Du
 rcases Cd f with h|rfl|h|h
 ·obtain⟨fn',c,_,h1,h2,_,_,h3⟩:=IC h
  rw[hf] at h1;cases h1
  rw[h2];simp[h3]
 ·rw[Tw.zh] at hf;cases hf
  cases e:Tw.aR.I7.body with
  |none=>rfl
  |some c=>simp[hs c e]
 ·rw[hf] at h;exact absurd h (by simp)
 ·rw[hf] at h;cases h;rfl
end
def C0:bQ:=⟨okF,λ_=>χ,λc=>cr ϋ G0 c=θ⟩
def GJ:Env ϋ (@Tw.F iQ) C0 G0 where
 sG:=sG
 clean _:=Iff.rfl
 get f h:=by letI:=iQ;obtain⟨fn,c,h1,h2,h3,h4,h5,_⟩:=IC h;exact⟨fn,c,h2,h1,h3,h4,h5⟩
 dead f h _:=by
  letI:=iQ
  rcases Cd f with k|rfl|k|k
  ·rw[show okF f=χ from h] at k;exact absurd k (by simp)
  ·exact .inr ⟨_,Tw.zh,GG⟩
  ·exact .inl k
  ·exact .inr ⟨_,k,GG⟩
 DT f h:=absurd h (by simp[C0])
 ahead:=(Qg _ _).trans Mg
 steps:=by letI:=iQ;exact Wi λc h=>absurd h (by show Tw.dead.body≠_;simp[Tw.dead])
def C1:bQ:=⟨okF,λf=>f==21,λc=>cr ϋ G0 c=θ⟩
def CA:bQ:=⟨λf=>okF f||f==21,λ_=>χ,λc=>cr ϋ G0 c=θ⟩
def PA:ϑ:=self ϋ (@Tw.F jg)
def Ji:tw PA (@Tw.F jg)= @Tw.prog jg:=by unfold PA Tw.prog;exact Qh _ _
def Je:∃c,stub.body=φ c/\cr ϋ G0 c=θ/\readies c=[]:=⟨_,rfl,by decide+kernel,rfl⟩
def agW:(stub.name== "runtime.NumGoroutine")=χ:=by decide+kernel
def ak2:∃c,Tryz.f21.body=φ c:=⟨_,rfl⟩
def ak5:(Tryz.f21.name== "runtime.NumGoroutine")=χ:=by decide+kernel
def stepT(g:Nat):(@Tw.prog jg).stepOf g=ν:=by
 letI:=jg
 refine Wi (λc h=>?_) g
 obtain⟨c',h1,_,h2⟩:=Je;have:stub.body=φ c:=h;rw[h1] at this;cases this;exact h2
def abO:Env ϋ (@Tw.F jg) C1 G0 where
 sG:=sG
 clean _:=Iff.rfl
 get f h:=by letI:=jg;obtain⟨fn,c,h1,h2,h3,h4,h5,_⟩:=IC h;exact⟨fn,c,h2,h1,h3,h4,h5⟩
 dead f h h':=by
  letI:=jg
  rcases Cd f with k|rfl|k|k
  ·rw[show okF f=χ from h] at k;exact absurd k (by simp)
  ·exact absurd h' (by decide)
  ·exact .inl k
  ·exact .inr ⟨_,k,GG⟩
 DT f h:=by
  have h:f=21:=by simpa [C1] using h
  subst h;obtain⟨c,h1,_⟩:=Je;obtain⟨c',h2⟩:=ak2;exact⟨stub,_,c,c',@Tw.zh jg,Tryz.func21,h1,h2,agW,ak5⟩
 ahead:=(Qg _ _).trans Mg
 steps:=stepT
def abN:Env PA (@Tw.F jg) CA G0 where
 sG:=⟨λt i v h hv=>sG.zero t i v ((ale ϋ _ t).symm.trans h) hv⟩
 clean c:=by show cr ϋ G0 c=θ↔cr PA G0 c=θ;rw[show cr PA G0 c=cr ϋ G0 c from Xe _ _ _ _]
 get f h:=by
  letI:=jg
  have hc:∀c,cr PA G0 c=cr ϋ G0 c:=λc=>Xe _ _ _ _
  have h:okF f=θ\/f=21:=by simpa [CA] using h
  rcases h with h|rfl
  ·obtain⟨fn,c,h1,h2,h3,h4,h5,_⟩:=IC h;exact⟨fn,c,h2,(congrArg (·[f]?) (Xf _ _)).trans h2,h3,by rw[hc];exact h4,h5⟩
  ·obtain⟨c,h1,h2,_⟩:=Je
   exact⟨stub,c,Tw.zh,(congrArg (·[21]?) (Xf _ _)).trans Tw.zh,h1,by rw[hc];exact h2,agW⟩
 dead f h _:=by
  letI:=jg
  rcases Cd f with k|rfl|k|k
  ·simp[CA,k] at h
  ·exact absurd h (by decide)
  ·exact .inl k
  ·exact .inr ⟨_,k,GG⟩
 DT f h:=absurd h (by simp[CA])
 ahead:=by rw[Ji];exact(Qg _ _).trans Mg
 steps g:=by rw[Ji];exact stepT g
end Go.Jn
namespace Go.Jn
open Go Go.Proofs Go.Sim Go.Conc
def aaw:C0.clean ur:=by show cr ϋ G0 ur=θ;decide+kernel
def aax:C0.clean sL:=by show cr ϋ G0 sL=θ;decide+kernel
def Qd:tw ϋ (@Tw.F iQ)= @Tw.prog iQ:=rfl
def piece{main:Bool}(S:Tl){M:aaa}{ρ:Ren}{f:Ϫ}{c:ϖ}(hc:C0.clean c){a:Act}{t':Array υ}{w w':Ψ}(hk:(S.kind==.early)=χ)
 (hd:a.defers=[cQ]){QL:Exit->Act->Ψ->Prop}
 (hl:∀T,c.wp (@Tw.prog iQ) (λe bB aa=>(e=.normal/\bB.defers=[cQ]\/e=.ret)/\QL e bB aa) a (aZ w T))
 (hw:bV C0 ρ w w')(hg:ρ 0 0)(hf:Fits M ρ w)(gN:∀b,M.has b->b<w'.heap.size)(hn:bJ w.heap)(ht:aP ρ a.tmps t')
 {Stop:aaa->ώ->Ψ->Prop}
 (post:∀e bB aa bS aE eV aA,QL e bB aa->gX M ρ w w' bS aE aa aA->bV C0 aE aa aA->Fits bS aE aa->(∀b,bS.has b->b<aA.heap.size)->(∀g,G0 g=θ->aE g g)->bJ aa.heap->aP aE bB.tmps eV->
   (e=.normal->bB.defers=[cQ]->Walk ϋ main Stop bS (aO ⟨f,eV,S.items,S.defers,.run,S.kind,ν⟩ S.callers) aA)/\
   (e=.ret->∀sH D',jJ S aE θ bB.defers D'->Walk ϋ main Stop bS (aO ⟨f,eV,sH,D',.returning,S.kind,ν⟩ S.callers) aA)):
 Walk ϋ main Stop M (aO ⟨f,t',.code c::S.items,S.defers,.run,S.kind,ν⟩ S.callers) w':=by
 refine Walk.bind (amT GJ (λ_=>rfl) S hc hk hd (λT=>by rw[Qd];exact hl T) hw (λg oy=>?_) hf gN hn ht post) λ_ _ _ h=>h
 have:g=0:=by simpa [G0] using oy
 subst this;exact hg
def akw{P:ϑ}{r:Nat}{w:Ψ}(h:w.heap[r]?=φ (.deferred (φ []))):(Instr.takeDeferred r).runT P w #[]=(.ok [] (jh w r (.deferred ν)),#[⟨.obj r,χ,χ⟩,⟨.obj r,θ,χ⟩]):=by
 unfold Instr.takeDeferred;simp only[Go.getObj,Go.setObj,bind,Ϯ,ϧ,h,pure,Aae];rfl
def abd{M:aaa}{w:Ψ}{r:Nat}{o:Obj}(hO:M.O r){es:Array ϥ}(rF:∀e∈es,e=⟨.obj r,χ,χ⟩\/e=⟨.obj r,θ,χ⟩):eO M w (jh w r o) es:=
 ⟨by rw[qS];exact ϊ _,λb _ hb=>wa (by rintro rfl;exact hb hO),rfl,rfl,rfl,λe he=>by
   rcases rF e he with rfl|rfl
   ·exact .inl ⟨r,.inl rfl,rfl,.inl (.inl hO),λh=>absurd h (by simp)⟩
   ·exact .inl ⟨r,.inl rfl,rfl,.inl (.inl hO),λ_=>.inl hO⟩⟩
def amY{P:ϑ}{main:Bool}{Stop:aaa->ώ->Ψ->Prop}{M:aaa}{w:Ψ}{f:Ϫ}{t:Array υ}{k:List Ajz}{D:List Abf}{x:Array υ}{kd:Aj0}{cs:List Ϙ}{r:Nat}(hO:M.O r)(hr:w.heap[r]?=φ (.deferred (φ [])))
 (h:∀aa,bN M w aa->Walk P main Stop M (aO ⟨f,t,k,D,.returning,kd,ν⟩ cs) (jh aa r (.deferred ν))):
 Walk P main Stop M (aO ⟨f,t,k,⟨.collected r,x⟩::D,.returning,kd,ν⟩ cs) w:=by
 have aQ:∀aa,bN M w aa->ϛ P main (aO ⟨f,t,k,⟨.collected r,x⟩::D,.returning,kd,ν⟩ cs) aa=.go (aO ⟨f,t,k,D,.returning,kd,ν⟩ cs) (jh aa r (.deferred ν)) (seen P f #[⟨.obj r,χ,χ⟩,⟨.obj r,θ,χ⟩]):=by
  intro aa hk;have e:Abx P main ⟨f,t,k,⟨.collected r,x⟩::D,.returning,kd,ν⟩ cs ν aa=.go (aO ⟨f,t,k,D,.returning,kd,ν⟩ cs) (jh aa r (.deferred ν)) (seen P f #[⟨.obj r,χ,χ⟩,⟨.obj r,θ,χ⟩]):=by
   unfold Abx;simp only[akw ((hk.kept r (.inl hO)).trans hr),Acm,List.nil_append];simp
  exact e
 refine .step rfl (λaa=>(aO ⟨f,t,k,D,.returning,kd,ν⟩ cs,jh aa r (.deferred ν),seen P f #[⟨.obj r,χ,χ⟩,⟨.obj r,θ,χ⟩])) (λaa hk=>⟨aQ aa hk,abd hO λe he=>?_⟩) λaa hk=>?_
 ·have:=Sim.mem_seen he
  simp only[Af1,ϫ,Λ,or_false] at this;exact this
 ·show Walk P main Stop (M.grow aa (jh aa r (.deferred ν))) _ _
  rw[GQ];exact h aa hk
end Go.Jn
namespace Go.Jn
open Go Go.Proofs Go.Sim Go.Conc
def chain:List ϖ->ϖ->ϖ
 | [],z=>z
 |c::cs,z=>.seq c (chain cs z)
def eX(P:ϑ):List ϖ->(Exit->Act->Ψ->Prop)->Act->Ψ->Prop
 | [],Q=>Q .normal
 |c::cs,Q=>c.wp P (Exit.then (eX P cs Q) Q)
def akr{P:ϑ}{z:ϖ}{Q:Exit->Act->Ψ->Prop}(hQ:∀e a w,Q e a w->e=.normal\/e=.ret)(b:Ϙ)(k:List Ajz)(fs:List Ϙ):
 ∀(cs:List ϖ) {a:Act} {w:Ψ},eX P cs Q a w->∃e bB aa,Q e bB aa/\
  (e=.normal/\Steps P (lone (b.at a (.code (chain cs z)::k)) fs w) (lone (b.at bB (.code z::k)) fs aa)\/
   e=.ret/\∃todo,Steps P (lone (b.at a (.code (chain cs z)::k)) fs w) (lone {b.at bB todo with mode:=.returning} fs aa)):=by
 intro cs;induction cs with
 |nil=>exactλ{a w} h=>⟨.normal,a,w,h,.inl ⟨rfl,⟨0,rfl⟩⟩⟩
 |cons c cs ih=>
  intro a w h;obtain⟨e,bB,aa,hq,Ag⟩:=h b (.code (chain cs z)::k) fs;have aQ:Steps P (lone (b.at a (.code (chain (c::cs) z)::k)) fs w) (lone (b.at a (.code c:: .code (chain cs z)::k)) fs w):=.one step_seq;cases e with
  |normal=>
   obtain⟨e2,a2,w2,tI,h2⟩:=ih hq;refine⟨e2,a2,w2,tI,?_⟩
   rcases h2 with⟨rfl,h2⟩ | ⟨rfl,todo,h2⟩
   ·exact .inl ⟨rfl,aQ.trans (Steps.trans Ag h2)⟩
   ·exact .inr ⟨rfl,todo,aQ.trans (Steps.trans Ag h2)⟩
  |ret=>
   obtain⟨todo,h2⟩:=Ag;exact⟨.ret,bB,aa,hq,.inr ⟨rfl,todo,aQ.trans h2⟩⟩
  |exit id=>rcases hQ _ _ _ hq with h|h<;>cases h
  |goto l=>rcases hQ _ _ _ hq with h|h<;>cases h
  |panic ch=>rcases hQ _ _ _ hq with h|h<;>cases h
  |outgrown=>rcases hQ _ _ _ hq with h|h<;>cases h
def SH{C:bQ}{S:Tl}:∀(cs:List ϖ),(∀c∈cs,C.clean c)->Cut C S (chain cs di) (chain cs S.code)
 | [],_=>.stop
 |c::cs,h=>.seq (h c (by simp)) (SH cs λd hd=>h d (by simp[hd]))
section
variable {P:ϑ}{F:Array Ϣ}{C:bQ}{G:Nat->Bool}
def aa8{S:Tl}{c':ϖ}(h:Cut C S di c'):c'=S.code:=by
 generalize e:di=c at h;cases h with
 |stop=>rfl
 |seq _ _=>cases e
def agz(hcut:¬C.clean di){S:Tl}{ρ:Ren}{k':List Ajz}(h:oc C S ρ θ [.code di,.code di] k'):k'=.code S.code::S.items:=by
 cases h with
 |cons hi t=>
  rw[VR t];cases hi with
  |code _ hc=>exact absurd hc hcut
  |cut hc=>rw[aa8 hc]
def amS(E:Env P F C G)(hcut:¬C.clean di)(hh:∀f,C.hole f=χ){main:Bool}(S:Tl){M:aaa}{ρ:Ren}{f:Ϫ}{cs:List ϖ}(hc:∀c∈cs,C.clean c){a:Act}{t':Array υ}{w w':Ψ}(hk:(S.kind==.early)=χ)
 (hd:a.defers=[cQ]){QL:Exit->Act->Ψ->Prop}(hQ:∀e a w,QL e a w->e=.normal\/e=.ret)
 (hl:∀T,eX (tw P F) cs QL a (aZ w T))
 (hw:bV C ρ w w')(hg:∀g,G g=θ->ρ g g)(hf:Fits M ρ w)(gN:∀b,M.has b->b<w'.heap.size)(hn:bJ w.heap)(ht:aP ρ a.tmps t')
 {Stop:aaa->ώ->Ψ->Prop}
 (post:∀e bB aa bS aE eV aA D',QL e bB aa->gX M ρ w w' bS aE aa aA->bV C aE aa aA->Fits bS aE aa->(∀b,bS.has b->b<aA.heap.size)->(∀g,G g=θ->aE g g)->bJ aa.heap->aP aE bB.tmps eV->jJ S aE θ bB.defers D'->
   (e=.normal->Stop bS (aO ⟨f,eV,.code S.code::S.items,D',.run,S.kind,ν⟩ S.callers) aA)/\
   (e=.ret->∀sH,Stop bS (aO ⟨f,eV,sH,D',.returning,S.kind,ν⟩ S.callers) aA)):
 Walk P main Stop M (aO ⟨f,t',.code (chain cs S.code)::S.items,S.defers,.run,S.kind,ν⟩ S.callers) w':=by
 let b:Ϙ:={ (default:Ϙ) with fn:=f,kind:=.normal}
 let c:=chain cs di
 let Q:ώ->Ψ->Prop:=λg w=>∃T e bB todo m,QL e bB (aZ w T)/\g=aO ⟨f,bB.tmps,todo,bB.defers,m,.normal,ν⟩ []/\
  (e=.normal/\todo=[.code di,.code di]/\m=.run\/e=.ret/\m=.returning)
 have b7:eS C S ρ θ (b.at a [.code c,.code di]) ⟨f,t',.code (chain cs S.code)::S.items,S.defers,.run,S.kind,ν⟩:=
  .mk f ht (.cons (.cut (SH cs hc)) .stop) (by rw[hd];exact .stop) .run .none ⟨λh=>by simp at h,λ_=>rfl,λh=>absurd rfl h,λh=>by simp at h,hk,λ_=>rfl⟩
 have eh:sP P (tw P F) C S ρ (aO (b.at a [.code c,.code di]) []) (aO ⟨f,t',.code (chain cs S.code)::S.items,S.defers,.run,S.kind,ν⟩ S.callers):=.inside b7 .base;have hi:Inv C S G (aO (b.at a [.code c,.code di]) []) w:=⟨hn,ρ,θ,_,_,_,_,w',rfl,hg,b7,.base,hw⟩;have N8:Sim.Safe (tw P F) Q (aO (b.at a [.code c,.code di]) []) w:=by
  refine PD (S:=S) E hh ?_ ?_ hi ?_
  ·rintro g w T ⟨T',e,bB,todo,m,h1,h2,h3⟩
   exact⟨T',e,bB,todo,m,h1,h2,h3⟩
  ·rintro g w ⟨T',e,bB,todo,m,h1,rfl,h3⟩ ch
   rcases h3 with⟨_,_,rfl⟩ | ⟨_,rfl⟩<;>simp
  ·intro T
   obtain⟨e,bB,aa,h1,h3⟩:=akr (z:=di) hQ b [.code di] [] cs (hl T);rcases h3 with⟨rfl,n,hr⟩ | ⟨rfl,todo,n,hr⟩
   ·exact⟨n,_,_,aa,hr,aa.tape,.normal,bB,[.code di,.code di],.run,h1,rfl,.inl ⟨rfl,rfl,rfl⟩⟩
   ·exact⟨n,_,_,aa,hr,aa.tape,.ret,bB,todo,.returning,h1,rfl,.inr ⟨rfl,rfl⟩⟩
 refine X7 E main (WY E hh N8 hi) ⟨eh,hw,hg,hf,gN⟩ ?_
 intro bS aE dG aa eZ aA hR bY _ _ hq;obtain⟨gr,core,gL,fits,low⟩:=hR;cases gr with
 |hole f hf=>rw[hh] at hf;simp at hf
 |inside vg Dc=>
  obtain⟨⟨T,e,bB,todo,m,h1,h2,h3⟩,qx⟩:=hq.resolve_right λh=>h ⟨_,_,_,_,_,rfl,rfl,vg,Dc⟩
  have e1:=congrArg Goroutine.frame h2;have e2:=congrArg Aj8 h2;simp only at e1 e2;subst e1 e2;obtain⟨rfl,rfl⟩:=Lu Dc;have LU:bV C aE (aZ aa T) aA:=core.left rfl;cases vg with
  |mk _ ym dg jT rM ye gM=>
   cases ye;have PK:gX M ρ w w' bS aE (aZ aa T) aA:=⟨bY.le,bY.new,bY.mP,bY.fQ,bY.kE,bY.im,bY.R,bY.O,bY.On,bY.tape,bY.os,bY.e⟩;have qt:=gM.Cv rfl;subst qt;have:=post e bB (aZ aa T) bS aE _ aA _ h1 PK LU fits low gL qx ym jT;rcases h3 with⟨rfl,rfl,rfl⟩ | ⟨rfl,rfl⟩
   ·rw[agz hcut dg]
    exact this.1 rfl
   ·exact this.2 rfl _
end
def aa7:¬C0.clean di:=by
 intro h;have h:cr ϋ G0 di=θ:=h;exact absurd h (by decide)
def pieces{main:Bool}(S:Tl){M:aaa}{ρ:Ren}{f:Ϫ}{cs:List ϖ}(hc:∀c∈cs,C0.clean c){a:Act}{t':Array υ}{w w':Ψ}(hk:(S.kind==.early)=χ)
 (hd:a.defers=[cQ]){QL:Exit->Act->Ψ->Prop}(hQ:∀e a w,QL e a w->e=.normal\/e=.ret)
 (hl:∀T,eX (@Tw.prog iQ) cs QL a (aZ w T))
 (hw:bV C0 ρ w w')(hg:ρ 0 0)(hf:Fits M ρ w)(gN:∀b,M.has b->b<w'.heap.size)(hn:bJ w.heap)(ht:aP ρ a.tmps t')
 {Stop:aaa->ώ->Ψ->Prop}
 (post:∀e bB aa bS aE eV aA D',QL e bB aa->gX M ρ w w' bS aE aa aA->bV C0 aE aa aA->Fits bS aE aa->(∀b,bS.has b->b<aA.heap.size)->aE 0 0->bJ aa.heap->aP aE bB.tmps eV->jJ S aE θ bB.defers D'->
   (e=.normal->Walk ϋ main Stop bS (aO ⟨f,eV,.code S.code::S.items,D',.run,S.kind,ν⟩ S.callers) aA)/\
   (e=.ret->∀sH,Walk ϋ main Stop bS (aO ⟨f,eV,sH,D',.returning,S.kind,ν⟩ S.callers) aA)):
 Walk ϋ main Stop M (aO ⟨f,t',.code (chain cs S.code)::S.items,S.defers,.run,S.kind,ν⟩ S.callers) w':=by
 refine Walk.bind (amS GJ aa7 (λ_=>rfl) S hc hk hd hQ (λT=>by rw[Qd];exact hl T) hw (λg oy=>?_) hf gN hn ht λe bB aa bS aE eV aA D' h1 h2 h3 h4 h5 h6 h7 h8 h9=>post e bB aa bS aE eV aA D' h1 h2 h3 h4 h5 (h6 0 rfl) h7 h8 h9) λ_ _ _ h=>h
 have:g=0:=by simpa [G0] using oy
 subst this;exact hg
end Go.Jn
namespace Go.Jn
open Go Go.Sim Go.Tw
def Pv(S:Nat->Prop):υ->Prop
 | .bool _| .int _ _| .string _| .pointer ν| .slice ν _ _| .map ν| .chan ν| .nilFunc| .nilIface=>True
 | .pointer (φ a)=>S a.block
 | .slice (φ a) n c=>S a.block\/(n=0/\c=0)
 | .func (.func _) x y=>x=#[]/\y=#[]
 |_=>False
def vQ(ρ:Ren)(S:Nat->Prop):Ren:=λa b=>ρ a b/\S a
def Pv.rel{ρ:Ren}{S:Nat->Prop}{v v':υ}(h:ah ρ v v')(hp:Pv S v):ah (vQ ρ S) v v':=by
 cases h;case bool b=>exact .bool b
 case int k n=>exact .int k n
 case string s=>exact .string s
 case ptrNone=>exact .ptrNone
 case ptr ha=>exact .ptr ⟨⟨ha.1,hp⟩,ha.2⟩
 case sliceNone n c=>exact .sliceNone n c
 case slice n c ha=>
  rcases hp with hp| ⟨rfl,rfl⟩
  ·exact .slice n c ⟨⟨ha.1,hp⟩,ha.2⟩
  ·exact .sliceDead _ _
 case sliceDead=>exact .sliceDead _ _
 case mapNone=>exact .mapNone
 case map=>exact hp.elim
 case chanNone=>exact .chanNone
 case chan=>exact hp.elim
 case func hf hx h1 hy h2=>
  cases hf with
  |func f=>
   obtain⟨rfl,rfl⟩:=hp;exact .func (.func f) hx (λi hi _=>absurd hi (by simp)) hy (λi hi _=>absurd hi (by simp))
  |yield=>exact hp.elim
 case nilFunc=>exact .nilFunc
 case iface=>exact hp.elim
 case nilIface=>exact .nilIface
 case agg=>exact hp.elim
 case tuple=>exact hp.elim
 case junk=>exact hp.elim
 case fjunk=>exact hp.elim
def rB(σ:Ren):∀v':υ,∃u,ah σ u v'
 | .bool b=>⟨_,.bool b⟩
 | .int k n=>⟨_,.int k n⟩
 | .float k n=>⟨_,.junk rfl (by simp) (by simp)⟩
 | .complex k n m=>⟨_,.junk rfl (by simp) (by simp)⟩
 | .string s=>⟨_,.string s⟩
 | .pointer ν=>⟨_,.ptrNone⟩
 | .pointer (φ a)=>⟨_,.junk rfl (by simp) (by simp)⟩
 | .slice ν n c=>⟨_,.sliceNone n c⟩
 | .slice (φ a) n c=>⟨_,.junk rfl (by simp) (by simp)⟩
 | .map ν=>⟨_,.mapNone⟩
 | .map (φ a)=>⟨_,.junk rfl (by simp) (by simp)⟩
 | .chan ν=>⟨_,.chanNone⟩
 | .chan (φ a)=>⟨_,.junk rfl (by simp) (by simp)⟩
 | .func f x y=>⟨_,.fjunk f x y⟩
 | .nilFunc=>⟨_,.nilFunc⟩
 | .iface t v=>⟨_,.junk rfl (by simp) (by simp)⟩
 | .nilIface=>⟨_,.nilIface⟩
 | .tuple x=>⟨_,.junk rfl (by simp) (by simp)⟩
 | .agg x=>by
   have ih:∀i (h:i<x.size),∃u,ah σ u x[i]:=λi h=>rB σ x[i]
   refine⟨.agg (Ajv λi:Fin x.size=>Aa6 (ih i.1 i.2)),.agg (by simp) λi h1 h2=>?_⟩
   rw[Ajw];exact Aa7 (ih i h2)
def fO{ρ:Ren}(S:Nat->Prop){v v':υ}(h:ah ρ v v'):∃u,ah (vQ ρ S) u v'/\(Pv S v->u=v):=by
 by_cases hp:Pv S v
 ·exact⟨v,Pv.rel h hp,λ_=>rfl⟩
 ·obtain⟨u,hu⟩:=rB (vQ ρ S) v'
  exact⟨u,hu,λh=>absurd h hp⟩
def aa6{ρ:Ren}(S:Nat->Prop){c c':Array υ}(h:aP ρ c c'):∃u:Array υ,aP (vQ ρ S) u c'/\u.size=c.size/\∀(i:Nat) (v:υ),c[i]?=φ v->Pv S v->u[i]?=φ v:=by
 have key:∀i (h1:i<c.size),∃u,(∀h2:i<c'.size,ah (vQ ρ S) u c'[i])/\(Pv S c[i]->u=c[i]):=λi h1=>by
  obtain⟨u,a,b⟩:=fO S (h.2 i h1 (h.1▸h1));exact⟨u,λ_=>a,b⟩
 refine⟨Ajv λi:Fin c.size=>Aa6 (key i.1 i.2),⟨by simp[h.1],λi h1 h2=>?_⟩,by simp,λi v hi hp=>?_⟩
 ·rw[Ajw]
  exact(Aa7 (key i (by simpa using h1))).1 h2
 ·obtain⟨al,e⟩:=Ϟ.1 hi
  rw[Ajx,dif_pos al]
  exact congrArg φ (((Aa7 (key i al)).2 (by rw[e];exact hp)).trans e)
section
variable (ρ:Ren)(w w':Ψ)
def gd(a:Nat):Prop:=∃b c c' e fr aV,ρ a b/\w.heap[a]?=φ (.cells c e fr)/\w'.heap[b]?=φ (.cells c' e aV)/\aP ρ c c'
def Kr(a:Nat)(o:Obj):Prop:=∃(b:Nat) (c c':Array υ) (e:ό) (fr aV:Nat×Nat) (u:Array υ),ρ a b/\w.heap[a]?=φ (.cells c e fr)/\w'.heap[b]?=φ (.cells c' e aV)/\aP (vQ ρ (gd ρ w w')) u c'/\u.size=c.size/\(∀(i:Nat) (v:υ),c[i]?=φ v->Pv (gd ρ w w') v->u[i]?=φ v)/\o=.cells u e (0,u.size)
def ac3{a:Nat}(h:gd ρ w w' a):∃o,Kr ρ w w' a o:=by
 obtain⟨b,c,c',e,fr,aV,h1,h2,h3,h4⟩:=h;obtain⟨u,k1,k2,k3⟩:=aa6 (gd ρ w w') h4;exact⟨_,b,c,c',e,fr,aV,u,h1,h2,h3,k1,k2,k3,rfl⟩
open Classical in
def GN(a:Nat):Obj:=if h:∃o,Kr ρ w w' a o then Aa6 h else .cells #[] 0 (0,0)
def qa:Ψ:={w with heap:=w.heap.mapIdx λa _=>GN ρ w w' a}
end
section
variable {ρ:Ren}{w w':Ψ}
def Tt:(qa ρ w w').heap.size=w.heap.size:=by simp[qa]
def Ml{a:Nat}(h:gd ρ w w' a):∃o,(qa ρ w w').heap[a]?=φ o/\Kr ρ w w' a o:=by
 have hx:=ac3 ρ w w' h;obtain⟨b,c,c',e,fr,aV,h1,h2,h3,h4⟩:=h;refine⟨GN ρ w w' a,?_,?_⟩
 ·unfold qa
  simp only[Aep,h2,Ag3]
 ·unfold GN
  rw[dif_pos hx];exact Aa7 hx
def ac6{C:bQ}(h:bV C ρ w w'):bV C (vQ ρ (gd ρ w w')) (qa ρ w w') w' where
 dA a b hab:=by rw[Tt];exact h.dA a b hab.1
 dc a b hab:=h.dc a b hab.1
 fn a b b' x y:=h.fn a b b' x.1 y.1
 inj a a' b x y:=h.inj a a' b x.1 y.1
 obj a b o hab ho:=by
  obtain⟨o1,k1,b1,c,c',e,fr,aV,u,h1,h2,h3,h4,h5,h6,rfl⟩:=Ml hab.2;rw[k1] at ho;cases ho;rw[h.fn a b b1 hab.1 h1];exact⟨_,h3,.cells e h4 (.inr ⟨rfl,ϊ _⟩)⟩
def ac7:bJ (qa ρ w w').heap:=by
 intro o ho hb;obtain⟨a,ha⟩:=Ajr ho
 unfold qa at ha;simp only[Aep] at ha
 obtain⟨o1,_,rfl⟩:=Aef.1 ha;unfold GN at hb;split at hb
 ·rename_i hx
  obtain⟨b1,c,c',e,fr,aV,u,_,_,_,_,_,_,e2⟩:=Aa7 hx;rw[e2] at hb;exact hb
 ·exact hb
def ac5{a:Addr}(ha:gd ρ w w' a.block){v:υ}(h: w.cell? a=φ v)(hp:Pv (gd ρ w w') v):(qa ρ w w').cell? a=φ v:=by
 obtain⟨o1,k1,b1,c,c',e,fr,aV,u,h1,h2,h3,h4,h5,h6,rfl⟩:=Ml ha;unfold World.cell? at h |-
 rw[h2] at h;rw[k1];simp only at h |-
 split at h
 ·cases h
 ·rename_i hs
  rw[if_neg hs];exact h6 _ _ h hp
def WK{C:bQ}(h:bV C ρ w w'){p:Addr}{u:υ}(hc: w.cell? p=φ u){b:Nat}(hr:ρ p.block b):gd ρ w w' p.block:=by
 unfold World.cell? at hc;split at hc
 ·rename_i c e fr ho
  obtain⟨o',h1,h2⟩:=h.obj _ _ _ hr ho;cases h2 with
  |cells e hv hf=>exact⟨b,c,_,e,fr,_,hr,ho,h1,hv⟩
 ·cases hc
def WJ{p:Addr}{u:υ}(hr:gd ρ w w' p.block)(hc: w.cell? p=φ u):∃u',ah ρ u u':=by
 obtain⟨b,c,c',e,fr,aV,h1,h2,h3,h4⟩:=hr;unfold World.cell? at hc;rw[h2] at hc;simp only at hc;split at hc
 ·cases hc
 ·obtain⟨al,e⟩:=Ϟ.1 hc
  exact⟨_,by rw[<-e];exact h4.2 _ al (h4.1▸al)⟩
end
def Sv(S:Nat->Prop)(v:υ):Prop:=∀A n c,v=ζ (φ A) n c->n=0->S A.block\/c=0
section
variable {α:Type}{ρ:Ren}{w w':Ψ}{B sz:Nat}{R R':α->List υ->Prop}{v:υ}{xs:List α}
def Fs{C:bQ}(hW:bV C ρ w w')(aI:0<sz)(h:Row w B sz R v xs)(hv:∃v',ah ρ v v')(he:Sv (gd ρ w w') v):Pv (gd ρ w w') v:=by
 obtain⟨A,c,rfl,h1,h2,h3⟩:=h;cases A with
 |none=>exact trivial
 |some A=>
  by_cases hx:xs=[]
  ·subst hx;exact(he A _ c rfl rfl).imp id λh=>⟨rfl,h⟩
  ·obtain⟨ad,e,hb,h4⟩:=h3 hx
   cases e;cases xs with
   |nil=>exact absurd rfl hx
   |cons x xs=>
    obtain⟨cs,_,hl,hc⟩:=h4 0 x rfl;obtain⟨u,hu⟩:∃u,cs[0]?=φ u:=⟨cs[0]'(by omega),Af9 _⟩
    have:=hc 0 u hu;obtain⟨v',hv⟩:=hv;cases hv with
    |slice _ _ ha=>
     have e:(A.add (0 * sz+0)).block=A.block:=cq _ _;have:=WK hW this (b:=_) (by rw[e];exact ha.1)
     rw[e] at this;exact .inl this
def C7(aI:0<sz)(h:Row w B sz R v xs)(hv:Pv (gd ρ w w') v)(hR:∀x cs,R x cs->(∀u∈cs,∃p:Addr,gd ρ w w' p.block/\ w.cell? p=φ u)->R' x cs/\∀u∈cs,Pv (gd ρ w w') u):Row (qa ρ w w') B sz R' v xs:=by
 obtain⟨A,c,e,h1,h2,h3⟩:=h;refine⟨A,c,e,h1,h2,λhx=>?_⟩
 obtain⟨ad,hA,hb,h4⟩:=h3 hx;have hs:gd ρ w w' ad.block:=by
  rw[e,hA] at hv;rcases hv with hv| ⟨h0,_⟩
  ·exact hv
  ·exact absurd (List.length_eq_zero_iff.1 h0) hx
 refine⟨ad,hA,hb,λi x hi=>?_⟩
 obtain⟨cs,r,hl,au⟩:=h4 i x hi;have:=hR x cs r λu hu=>by
  obtain⟨j,hj⟩:=List.getElem?_of_mem hu
  exact⟨_,by rw[cq];exact hs,au j u hj⟩
 refine⟨cs,this.1,hl,λj u hu=>?_⟩
 exact ac5 (by rw[cq];exact hs) (au j u hu) (this.2 u (ϩ hu))
end
structure FY(S:Nat->Prop)(w:Ψ)(B:Nat)(b:ao)(pv bv tv:υ):Prop where
 pieces:Row w B 4 Piece.R pv b.pieces
 aF:Row w B 3 (λx cs=>bR.R w B x cs/\∀u∈cs,Sv S u) bv b.aF
 aJ:Row w B 3 (λx cs=>Tw.Tape.R w B x cs/\∀u∈cs,Sv S u) tv b.aJ
 sp:Sv S pv
 sb:Sv S bv
 st:Sv S tv
def ac4{C:bQ}{ρ:Ren}{w w':Ψ}(hW:bV C ρ w w'){B:Nat}{b:ao}{pv bv tv:υ}(h:FY (gd ρ w w') w B b pv bv tv)(h1:∃v',ah ρ pv v')(h2:∃v',ah ρ bv v')(h3:∃v',ah ρ tv v'):
 bg (qa ρ w w') B b pv bv tv/\Pv (gd ρ w w') pv/\Pv (gd ρ w w') bv/\Pv (gd ρ w w') tv:=by
 have p1:=Fs hW (by omega) h.pieces h1 h.sp
 have p2:=Fs hW (by omega) h.aF h2 h.sb
 have p3:=Fs hW (by omega) h.aJ h3 h.st
 refine⟨⟨C7 (by omega) h.pieces p1 λx cs r _=>⟨r,λu hu=>?_⟩,C7 (by omega) h.aF p2 λx cs r hc=>?_,C7 (by omega) h.aJ p3 λx cs r hc=>?_⟩,p1,p2,p3⟩
 ·obtain⟨rfl,_⟩:=r
  simp only[ϫ,Λ,or_false] at hu;rcases hu with rfl|rfl|rfl|rfl<;>exact trivial
 ·obtain⟨⟨kv,rfl,k1,k2⟩,k3⟩:=r
  have hp:Pv (gd ρ w w') kv:=Fs hW (by omega) k2 (by obtain⟨p,hp,hu⟩:=hc kv (by simp);exact WJ hp hu) (k3 kv (by simp))
  refine⟨⟨kv,rfl,k1,C7 (by omega) k2 hp λx cs r _=>⟨r,λu hu=>?_⟩⟩,λu hu=>?_⟩
  ·rw[show cs=_ from r] at hu
   simp only[ϫ,Λ,or_false] at hu;rcases hu with rfl|rfl<;>exact trivial
  ·simp only[ϫ,Λ,or_false] at hu
   rcases hu with rfl|rfl|rfl
   ·exact trivial
   ·exact trivial
   ·exact hp
 ·obtain⟨⟨kv,rfl,k2⟩,k3⟩:=r
  have hp:Pv (gd ρ w w') kv:=Fs hW (by omega) k2 (by obtain⟨p,hp,hu⟩:=hc kv (by simp);exact WJ hp hu) (k3 kv (by simp))
  refine⟨⟨kv,rfl,C7 (by omega) k2 hp λx cs r _=>⟨r,λu hu=>?_⟩⟩,λu hu=>?_⟩
  ·rw[show cs=_ from r] at hu
   simp only[ϫ,Λ,or_false] at hu;rcases hu with rfl;exact trivial
  ·simp only[ϫ,Λ,or_false] at hu
   rcases hu with rfl|rfl|rfl
   ·exact hp
   ·exact trivial
   ·exact trivial
end Go.Jn
namespace Go.Tw
variable [Go.Tw.aR]
open Go Go.Proofs Go.RowKit
def agl{w:Ψ}{g k x:Nat}(g0: w.cell? ⟨g,0,ν⟩=φ (ξ κ x))(h0:g<w.heap.size):
 ύ prog 123 (#[ξ κ k]++#[π (φ ⟨g,0,ν⟩)]) w λe w'=>e=Ω (.bool (decide (k=x)))/\Below w.heap.size w w':=by
 go_enter func123,Tryz.ntmps123;go_wp2;refine bodyPost_ret (v:=.bool (decide (k=x))) (by
  have he:((k:Int)==(x:Int))=decide (k=x):=by rw[Bool.eq_iff_iff];simp;omega
  simp[results,Tryz.results123,go_sem,he]) rfl ⟨rfl,Below.refl _ _⟩
end Go.Tw
namespace Go.Jn
open Go Go.Proofs Go.Sim Go.Conc Go.Tw Go.RowKit
attribute [local go_sem] ze K0 Oper.semAt_some
def then_self(Q:Exit->Act->Ψ->Prop):Exit.then (Q .normal) Q=Q:=by
 funext e a w;cases e<;>rfl
section
variable [Go.Tw.aR]
def Gd(b:ao)(i:Nat)(v0 v1 v2 v3:υ)(e:Exit)(a:Act)(w:Ψ):Prop:=
 (∃r x,a.defers=[⟨.collected r,x⟩,cQ]/\w.heap[r]?=φ (.deferred (φ [])))/\a.tmps.size=18/\a.tmps[0]?=φ v0/\a.tmps[1]?=φ v1/\a.tmps[2]?=φ v2/\a.tmps[3]?=φ v3/\
   ((search b (cz (aD b)) (λk=>decide (k=i)) b.pieces.length []=ν/\e=.normal)\/((search b (cz (aD b)) (λk=>decide (k=i)) b.pieces.length []).isSome=θ/\e=.ret))
def middle{w:Ψ}{b:ao}{pv bv tv:υ}{B i bk pk:Nat}{v0 v3 v6:υ}(hB:B<=w.heap.size)(ai:bg w B b pv bv tv)(h:cj b 0=0)
 (c0: w.cell? ⟨bk,0,ν⟩=φ (ξ κ b.ag))(c1: w.cell? ⟨bk,1,ν⟩=φ pv)(c2: w.cell? ⟨bk,2,ν⟩=φ bv)(c3: w.cell? ⟨bk,3,ν⟩=φ tv)(hk: w.cell? ⟨pk,0,ν⟩=φ (ξ κ i))
 (ae:bk<w.heap.size)(ea:pk<w.heap.size):
 eX prog [ur,sL] (Gd b i v0 (π (φ ⟨bk,0,ν⟩)) (π (φ ⟨pk,0,ν⟩)) v3) ⟨#[v0,π (φ ⟨bk,0,ν⟩),π (φ ⟨pk,0,ν⟩),v3,ω,ω,v6,ω,ω,ω,ω,ω,ω,ω,ω,ω,ω,ω],[cQ]⟩ w:=by
 have aB:=ψ (PO hB ai h);have bT:=ψ ai;have hv:=ψ (iy (pq h).1);obtain⟨A1,n1,k1,rfl,-⟩:=ai.pieces.Φ;obtain⟨A2,n2,k2,rfl,-⟩:=ai.aF.Φ;obtain⟨A3,n3,k3,rfl,-⟩:=ai.aJ.Φ;clear ai h;have HK:=ψ hk;clear hk;unfold eX eX eX;rw[then_self];refine(wpIn_wide (n:=0)).1 ?_
 refine wpIn_mono (Q:=Exit.then (sL.wpIn Fence.wide 0 prog (Gd b i v0 (π (φ ⟨bk,0,ν⟩)) (π (φ ⟨pk,0,ν⟩)) v3)) (Gd b i v0 (π (φ ⟨bk,0,ν⟩)) (π (φ ⟨pk,0,ν⟩)) v3)) ?_ (λe a w h=>by cases e<;>first|exact wpIn_wide.1 h|exact h)
 simp only[ur,sL,Cy,Tryz.f120,bO,a8,Akq]
 gi_wp2_with (first
  | (gi_at_call 119;refine(callsIn_wide.2 aB.e).mono ?_;rintro e w1 ⟨sv,g,rfl,aG,da,hg,ae⟩
     obtain⟨A9,m9,c9,rfl⟩:=j8 aG;have aN:w.heap.size<=w1.heap.size:=ae.size;have yo:w.heap.size<w1.heap.size+1:=by omega
     have FR:=ψ (ϐ aG (ϐ da (ϐ hg ae)));have kG:g<w1.heap.size:=da.lt;have eI:Row (w1.alloc (Ξ #[ξ κ b.ag,.slice A1 n1 k1,.slice A2 n2 k2,.slice A3 n3 k3,.slice A9 m9 c9,.map (φ g)] 151)) w1.heap.size 3 an.R (.slice A9 m9 c9) (aD b):=aG.row.still ((Δ.refl w1).alloc (ϊ _) _) λ_ _ h=>h
     clear ae aG da hg)
  | (gi_at_call 122;refine(callsIn_wide.2 (LY (B:=w1.heap.size) (ps:=aD b) eI (by simp) ⟨_,_,_,rfl⟩ ⟨_,_,_,rfl⟩ ⟨_,_,_,rfl⟩)).mono ?_;rintro e w2 ⟨gn,rfl,q0,q1,q2,qm,ak⟩))
 clear eI;have ba:w1.heap.size+1<=w2.heap.size:=by have:=ak.size;simpa using this
 have vk:w1.grownBy w2 (φ g):=(ϻ w1 _ _).trans (je ak (ϊ _) _);have Hi:w.grownBy w2 ν:=(je FR.e.2.2.2 (ϊ _) _).trans ((ϻ w1 _ _).trans (je ak (ϊ _) _));have Hm:dK w2 g b:=FR.e.2.1.grown (row:=ν) ((ϻ w1 _ _).trans (je ak (ϊ _) _)) (by simp)
 have Mv:B<=g:=Ϥ hB FR.e.2.2.1;have afA:Δ B w w2:=λp hp=>Aho (Hi.block p.block (by omega) (by simp))
 have afm: w2.cell? ⟨pk,0,ν⟩=φ (ξ κ i):=(Aho (Hi.block pk (by omega) (by simp))).trans HK.e
 have AQ:=PJ (Wa:=w1.alloc (Ξ #[ξ κ b.ag,.slice A1 n1 k1,.slice A2 n2 k2,.slice A3 n3 k3,.slice A9 m9 c9,.map (φ g)] 151)) (w2:=w2) (KO:=123) (jD:=#[π (φ ⟨pk,0,ν⟩)]) (out:=λk=>decide (k=i)) (B:=B) (bT.e.still afA) hv.e (uG hv.e) ⟨_,_,_,rfl⟩ Mv (by simp;omega) q0 q1 q2 qm call123
  (λk W hk eh=>agl ((Aho (eh.block pk (by have:=FR.e.2.2.2.size;omega) (by simp;have:=FR.e.2.2.1;omega))).trans afm) (by have:=eh.size;omega))
 refine Pr (gf:=174) (pre:=#[]) (lb:=#[π (φ ⟨w1.heap.size+1,0,ν⟩),π (φ ⟨w1.heap.size+1+1,0,ν⟩),π (φ ⟨gn,0,ν⟩)]) (by simp[Act.eval]) call174 λfn rc gP=>?_
 have AA:=((AQ.alloc (by show B<=w2.heap.size;omega) (.deferred (φ []))).alloc (by simp[Bw];omega) (.loop rc)).adH (w2.heap.size+1)
 obtain⟨W1,eJ⟩:∃W1,W1=(w2.alloc (Obj.deferred (φ []))).alloc (Obj.loop rc):=⟨_,rfl⟩
 obtain⟨X,hX⟩:∃X:ep,X={Bw w2 b (.slice A1 n1 k1) (.slice A2 n2 k2) (.slice A3 n3 k3) (.slice A9 m9 c9) (aD b) (w1.heap.size+1) gn g 123 #[π (φ ⟨pk,0,ν⟩)] (λk=>decide (k=i)) with w:=W1,l:=w2.heap.size+1}:=⟨_,rfl⟩
 have dh:X.Ok B:=by rw[hX,eJ];simpa [Bw] using AA
 have xw:X.w=W1:=by rw[hX]
 have xl:X.l=w2.heap.size+1:=by rw[hX]
 have xb:X.b=b:=by rw[hX];rfl
 have xg:X.gm=g:=by rw[hX];rfl
 have cZ:W1.heap.size=w2.heap.size+2:=by rw[eJ];simp
 have xs:X.s=w2.heap.size+2:=by unfold ep.s;rw[xw,cZ]
 have xT:W1.heap[w2.heap.size+1]?=φ (.loop rc):=by rw[eJ];exact uI (by simp)
 have jT:W1.heap[w2.heap.size]?=φ (.deferred (φ [])):=by rw[eJ];exact mm (uI (by simp))
 have dg:dK X.w X.gm X.b:=by
  rw[xw,xg,xb,eJ];exact Hm.grown (row:=ν) ((ϻ _ _ _).trans (ϻ _ _ _)) (by simp)
 have hgg:g<w2.heap.size:=Hm.lt;have xn:X.n=cz (aD b):=by rw[hX];rfl
 have xo:X.e=λk=>decide (k=i):=by rw[hX];rfl
 have xp:X.np=b.pieces.length:=by unfold ep.np;rw[xb]
 have xgs:X.gs=w1.heap.size+1:=by rw[hX];rfl
 have xgo:X.go=w1.heap.size+1+1:=by rw[hX];rfl
 have xgn:X.gn=gn:=by rw[hX];rfl
 rw[<-eJ];clear hX eJ;have hZ:zx X (λ_ W=>W.heap[w2.heap.size]?=φ (.deferred (φ []))/\W.heap[w2.heap.size+1]?=φ (.loop {rc with state:=.done,pending:=φ .ret})/\∃i,Bk W (X.s+2) 27 #[ζ (φ ⟨X.s+1,0,ν⟩) i X.np]):=by
  refine⟨λfull W hz=>hz.2.2,λfull W i hz=>?_,λm full W hlen hD=>?_⟩
  ·obtain⟨z1,z2,j,z3⟩:=hz
   exact⟨(Below.heap_setCell _ _ _ _ (by simp;omega)).trans z1,(Below.heap_setCell _ _ _ _ (by simp;omega)).trans z2,i,z3.set 0 _⟩
  ·have eh:=hD.gr
   rw[xw,xg] at eh;have oz:W.heap[w2.heap.size+1]?=φ (.loop rc):=(eh.block _ (by omega) (by simp;omega)).trans xT
   have fJ:W.heap[w2.heap.size]?=φ (.deferred (φ [])):=(eh.block _ (by omega) (by simp;omega)).trans jT
   have oA:=hD.lv;rw[xs,xp] at oA;have aI:=eh.size;rw[xl];refine Qy (n:=0) gP oz rfl ?_
   gi_wp2
   refine⟨_,abC gP oz,?_⟩
   gi_wp2
   have Au:(W.putObj (w2.heap.size+1) (.loop {rc with state:=.busy})).heap[w2.heap.size+1]?=φ (.loop {rc with state:=.busy}):=Ahl (by omega)
   refine⟨_,_,SQ .ret Au,rfl,?_,Ahl (by simp;omega),full.length,?_⟩
   ·exact(Ahm (by omega)).trans ((Ahm (by omega)).trans fJ)
   ·exact(Ahm (by omega)).trans ((Ahm (by omega)).trans oA)
 have call:=SJ dh (by rw[xs];omega) hZ dg
 rw[xl,xgs,xgo,xgn,xw,xn,xo,xb,xp] at call;refine(callsIn_wide.2 call).mono ?_
 rintro e W2 ⟨⟨v,rfl⟩,(⟨full,tM,aN,ba,_⟩ | ⟨tM,hD⟩)⟩
 ·refine⟨φ .ret,_,SW ba,?_⟩
  gi_wp2
  refine⟨⟨w2.heap.size,_,rfl,(Ahm (by omega)).trans aN⟩,rfl,rfl,rfl,rfl,rfl,.inr ⟨by rw[tM];rfl,rfl⟩⟩
 ·have eh:=hD.gr
  rw[xw,xg] at eh;have oz:W2.heap[w2.heap.size+1]?=φ (.loop rc):=(eh.block _ (by omega) (by simp;omega)).trans xT
  have fJ:W2.heap[w2.heap.size]?=φ (.deferred (φ [])):=(eh.block _ (by omega) (by simp;omega)).trans jT
  refine⟨ν,_,L7 gP oz,?_⟩
  exact⟨⟨w2.heap.size,_,rfl,(Ahm (by omega)).trans fJ⟩,rfl,rfl,rfl,rfl,rfl,.inl ⟨tM,rfl⟩⟩
end
end Go.Jn
namespace Go.Jn
open Go Go.Proofs Go.Sim Go.Conc Go.Tw
def aj4{C:bQ}{ρ:Ren}{w w':Ψ}(hW:bV C ρ w w'){a b o:Nat}(hab:ρ a b){v':υ}(h:ah ρ (π (φ ⟨a,o,ν⟩)) v'):v'=π (φ ⟨b,o,ν⟩):=by
 cases h with
 |ptr ha=>
  rename_i q;obtain⟨q1,q2,q3⟩:=q;obtain⟨h1,h2,h3⟩:=ha;simp only at h1 h2 h3;subst h2 h3;rw[hW.fn _ _ _ h1 hab]
def IZ{ρ:Ren}{t t':Array υ}(h:aP ρ t t'){i:Nat}{v:υ}(hi:t[i]?=φ v):∃v',t'[i]?=φ v'/\ah ρ v v':=by
 rcases h.get? i with⟨h1,_⟩ | ⟨a,b,h1,h2,h3⟩
 ·rw[h1] at hi;cases hi
 ·rw[h1] at hi;cases hi;exact⟨b,h2,h3⟩
def PU{C:bQ}{ρ:Ren}{w w':Ψ}(hW:bV C ρ w w'){t t':Array υ}(h:aP ρ t t'){i a b o:Nat}(hab:ρ a b)(hi:t[i]?=φ (π (φ ⟨a,o,ν⟩))):t'[i]?=φ (π (φ ⟨b,o,ν⟩)):=by
 obtain⟨v',h1,h2⟩:=IZ h hi;rw[h1,aj4 hW hab h2]
def aj3{C:bQ}{ρ:Ren}{w w':Ψ}{M:Sim.aaa}(hW:bV C ρ w w')(hf:Fits M ρ w){r r':Nat}(hr:ρ r r')(h:w.heap[r]?=φ (.deferred (φ []))):M.O r'/\w'.heap[r']?=φ (.deferred (φ [])):=by
 obtain⟨o',h1,h2⟩:=hW.obj _ _ _ hr h;cases h2;refine⟨(hf _ _ hr).resolve_right ?_,h1⟩
 rintro⟨_,o,ho,fo⟩;rw[h] at ho;cases ho;exact fo
section
variable {n N0 cL cN:Nat}{eU:Nat->Bool}{val:Nat->υ}{End:List Nat->Sim.aaa->ώ->Ψ->Prop}
def d121(p7:Nat):Abf:={target:=.fn (.func 121) #[π (φ ⟨p7,0,ν⟩)],args:=#[]}
def Yc{M:Sim.aaa}{w:Ψ}{p7 r:Nat}{x:Array υ}{e7:ό}{f7:Nat×Nat}(m7:M.has p7)(h7:w.heap[p7]?=φ (Ξ #[.chan (φ cL)] e7 f7))(hO:M.O r)(hr:w.heap[r]?=φ (.deferred (φ []))){t:Array υ}{k:List Ajz}:
 Walk ϋ χ (W2 (Pm.mk ϋ n N0 cL cN eU val End)) M (aO ⟨120,t,k,[⟨.collected r,x⟩,d121 p7],.returning,.deferred,ν⟩ [dp ϋ]) w:=
 amY hO hr λaa hk=>am8 m7 ((wa (by rintro rfl;rw[hr] at h7;cases h7)).trans ((hk.kept _ m7).trans h7)) rfl
def ana{M:Sim.aaa}{w:Ψ}{p6 p7 pk r:Nat}{x:Array υ}{e6 e7 ek:ό}{f6 f7 fk:Nat×Nat}(m6:M.has p6)(m7:M.has p7)(mk:M.has pk)(h6:w.heap[p6]?=φ (Ξ #[.chan (φ cN)] e6 f6))(h7:w.heap[p7]?=φ (Ξ #[.chan (φ cL)] e7 f7))
 {i:Nat}(hk:w.heap[pk]?=φ (Ξ #[val i] ek fk))(UW:eU i=θ)(hO:M.O r)(hr:w.heap[r]?=φ (.deferred (φ []))){t:Array υ}(hs:t.size=18)(t2:t[2]?=φ (π (φ ⟨pk,0,ν⟩)))(t3:t[3]?=φ (π (φ ⟨p6,0,ν⟩))):
 Walk ϋ χ (W1 (Pm.mk ϋ n N0 cL cN eU val End) i) M (rg 120 t [.code (.region 3 pz χ)] [⟨.collected r,x⟩,d121 p7] .deferred [dp ϋ]) w:=by
 refine gH ?_
 rw[anp];obtain⟨o,ho,ab,hd,hg⟩:=ZS;obtain⟨dir,hu⟩:=BG;refine du ho (bI hg) rfl (λaa hk=>⟨_,sx _ aa ab (cJ t3) hu rfl (lL ((hk.kept _ m6).trans h6) rfl rfl),vY m6 _ rfl⟩) ?_
 rw[hd];obtain⟨o,ho,ab,hd,hg⟩:=ZT;refine du ho (bI hg) rfl (λaa Hn=>⟨_,sx _ aa ab (cJ ((bL (by omega)).trans t2)) ty3 rfl (lL ((Hn.kept _ mk).trans hk) rfl rfl),vY mk _ rfl⟩) ?_
 rw[hd];suffices rest:∀T:Array υ,T[16]?=φ (.chan (φ cN))->T[17]?=φ (val i)->
  Walk ϋ χ (W1 (Pm.mk ϋ n N0 cL cN eU val End) i) M (rg 120 T [.inRegion pz [2]] [⟨.collected r,x⟩,d121 p7] .deferred [dp ϋ]) w from
  rest _ ((bL (by omega)).trans (tY (by omega))) (tY (by simp[ay];omega))
 intro T Fe Ff;obtain⟨o,ho,ab,hd,hg⟩:=ZU;have hx:aS T (.tmp 17)=val i:=cJ Ff;refine .stop λaa Hn=>.inl ⟨UW,rfl,rfl,⟨μ #[],FG ho (bI hg) rfl ((WV T aa ab (cJ Fe)).trans (by rw[hx]))⟩,?_⟩
 have ad5:Ϭ (rg 120 T [.inRegion pz [2]] [⟨.collected r,x⟩,d121 p7] .deferred [dp ϋ]) ω=
  rg 120 T [.inRegion pz []] [⟨.collected r,x⟩,d121 p7] .deferred [dp ϋ]:=by
  simp[Ϭ,Acj,ho,hd]
 show Walk ϋ χ (W2 (Pm.mk ϋ n N0 cL cN eU val End)) M (Ϭ (rg 120 T [.inRegion pz [2]] [⟨.collected r,x⟩,d121 p7] .deferred [dp ϋ]) ω) aa;rw[ad5];exact(iA (am0 (Yc m7 h7 hO hr))).rely Hn
def worker{M:Sim.aaa}{ρ:Ren}{w w':Ψ}{b:ao}{pv bv tv:υ}{B i lb lk l6 l7 bk pk p6 p7:Nat}{ek e6 e7:ό}{fk f6 f7:Nat×Nat}
 (hW:bV C0 ρ w w')(hg:ρ 0 0)(hf:Fits M ρ w)(hM:∀b,¬M.O b)(gN:∀b,M.has b->b<w'.heap.size)(hn:bJ w.heap)
 (rb:ρ lb bk)(rk:ρ lk pk)(r6:ρ l6 p6)(r7:ρ l7 p7)(m6:M.has p6)(m7:M.has p7)(mk:M.has pk)
 (hB:B<=w.heap.size)(ai:bg w B b pv bv tv)(ab:cj b 0=0)
 (c0: w.cell? ⟨lb,0,ν⟩=φ (ξ κ b.ag))(c1: w.cell? ⟨lb,1,ν⟩=φ pv)(c2: w.cell? ⟨lb,2,ν⟩=φ bv)(c3: w.cell? ⟨lb,3,ν⟩=φ tv)(ck: w.cell? ⟨lk,0,ν⟩=φ (ξ κ i))
 (h6:w'.heap[p6]?=φ (Ξ #[.chan (φ cN)] e6 f6))(h7:w'.heap[p7]?=φ (Ξ #[.chan (φ cL)] e7 f7))(hk:w'.heap[pk]?=φ (Ξ #[val i] ek fk))
 (vt:eU i=(search b (cz (aD b)) (λk=>decide (k=i)) b.pieces.length []).isNone):
 Walk ϋ χ (W1 (Pm.mk ϋ n N0 cL cN eU val End) i) M (born ϋ {target:=.fn (.func 120) #[π (φ ⟨p7,0,ν⟩),π (φ ⟨bk,0,ν⟩),π (φ ⟨pk,0,ν⟩),π (φ ⟨p6,0,ν⟩)],args:=#[]}) w':=by
 letI:=iQ
 refine am9 λt hs t0 t1 t2 t3 t6 tu=>?_
 obtain⟨v6,hv6⟩:=rB ρ (.func (.func 121) #[] #[π (φ ⟨p7,0,ν⟩)]);have lb1:lb<w.heap.size:=hW.dA _ _ rb;have lk1:lk<w.heap.size:=hW.dA _ _ rk;have ptr:∀ {a b:Nat},ρ a b->ah ρ (π (φ ⟨a,0,ν⟩)) (π (φ ⟨b,0,ν⟩)):=λh=>.ptr ⟨h,rfl,rfl⟩
 have Eb:aP ρ #[π (φ ⟨l7,0,ν⟩),π (φ ⟨lb,0,ν⟩),π (φ ⟨lk,0,ν⟩),π (φ ⟨l6,0,ν⟩),ω,ω,v6,ω,ω,ω,ω,ω,ω,ω,ω,ω,ω,ω] t:=by
  refine⟨hs.symm,λj h1 h2=>?_⟩
  have hj:j<18:=by rw[<-hs];exact h2
  have hu:∀q,4<=q->q<18->q≠6->∀h:q<t.size,ah ρ ω t[q]:=by
   intro q h4 GV h6 h;have:=tu q h4 GV h6;rw[Aaz h] at this
   rw[ϟ this];exact .undef
  have he:∀ {q:Nat} {v:υ} (h:q<t.size),t[q]?=φ v->t[q]=v:=λh e=>by rw[Aaz h] at e;exact ϟ e
  have:j=0\/j=1\/j=2\/j=3\/j=6\/(4<=j/\j≠6):=by omega
  rcases this with rfl|rfl|rfl|rfl|rfl| ⟨h4,h6⟩
  ·rw[he _ t0];exact ptr r7
  ·rw[he _ t1];exact ptr rb
  ·rw[he _ t2];exact ptr rk
  ·rw[he _ t3];exact ptr r6
  ·rw[he _ t6];exact hv6
  ·have:=hu j h4 hj h6 h2
   have:j=4\/j=5\/j=7\/j=8\/j=9\/j=10\/j=11\/j=12\/j=13\/j=14\/j=15\/j=16\/j=17:=by omega
   rcases this with rfl|rfl|rfl|rfl|rfl|rfl|rfl|rfl|rfl|rfl|rfl|rfl|rfl<;>assumption
 have hl:∀T,eX (@Tw.prog iQ) [ur,sL] (Gd b i (π (φ ⟨l7,0,ν⟩)) (π (φ ⟨lb,0,ν⟩)) (π (φ ⟨lk,0,ν⟩)) (π (φ ⟨l6,0,ν⟩))) ⟨#[π (φ ⟨l7,0,ν⟩),π (φ ⟨lb,0,ν⟩),π (φ ⟨lk,0,ν⟩),π (φ ⟨l6,0,ν⟩),ω,ω,v6,ω,ω,ω,ω,ω,ω,ω,ω,ω,ω,ω],[cQ]⟩ (aZ w T):=λT=>
  middle (B:=B) hB (ai.still λ_ _=>rfl) ab c0 c1 c2 c3 ck lb1 lk1
 refine pieces (S:=⟨.region 3 pz χ,[],[d121 p7],[dp ϋ],.deferred⟩) (cs:=[ur,sL]) ?_ rfl rfl ?_ hl hW hg hf gN hn Eb ?_
 ·intro c hc
  simp only[ϫ,Λ,or_false] at hc;rcases hc with rfl|rfl
  ·exact aaw
  ·exact aax
 ·rintro e a w ⟨_,_,_,_,_,_,⟨_,rfl⟩ | ⟨_,rfl⟩⟩
  ·exact .inl rfl
  ·exact .inr rfl
 ·rintro e bB aa bS aE eV aA D' ⟨⟨r,x,hd,hr⟩,us,u0,u1,u2,u3,Aj⟩ bY eJ gM DM dB qx vC hD
  rw[hd] at hD;obtain⟨r',x',rr,rfl⟩:∃r' x',aE r r'/\D'=[⟨.collected r',x'⟩,d121 p7]:=by
   cases hD with
   |cons h1 h2=>
    cases h1 with
    |collected hr=>rw[xf h2];exact⟨_,_,hr,rfl⟩
  obtain⟨hO,DX⟩:=aj3 eJ gM rr hr;have kept:∀q,M.has q->aA.heap[q]?=w'.heap[q]?:=λq hq=>bY.im q hq λa ha=>((hf a q ha).resolve_left (hM q)).2
  have G7:∀q,M.has q->bS.has q:=λq hq=>aaa.tx bY.R bY.O hq
  refine⟨λhe=>?_,λhe sH=>?_⟩
  ·subst he
   obtain⟨xX,_⟩:=Aj.resolve_right (by rintro⟨_,h⟩;cases h)
   refine ana (G7 _ m6) (G7 _ m7) (G7 _ mk) ((kept _ m6).trans h6) ((kept _ m7).trans h7) ((kept _ mk).trans hk) (by rw[vt,xX];rfl) hO DX (vC.1.symm.trans us) (PU eJ vC (bY.le _ _ rk) u2) (PU eJ vC (bY.le _ _ r6) u3)
  ·subst he
   obtain⟨Vg,_⟩:=Aj.resolve_left (by rintro⟨_,h⟩;cases h)
   refine Walk.mono (Yc (G7 _ m7) ((kept _ m7).trans h7) hO DX) λM g w h=>.inr ⟨?_,h⟩
   show eU i=χ;rw[vt];cases e:search b (cz (aD b)) (λk=>decide (k=i)) b.pieces.length [] with
   |none=>rw[e] at Vg;cases Vg
   |some _=>rfl
end
end Go.Jn
namespace Go.Jn
open Go Go.Sim Go.Conc
open Go.ConcN (sumTo upd sumTo_upd upd_ne upd_same)
def al3(n:Nat):sumTo n (λ_=>0)=0:=by
 induction n with
 |zero=>rfl
 |succ n ih=>simp only[sumTo,ih]
def acE{X:Pm}{gs:Array ώ}{w:Ψ}{t:ϭ}{q:Nat->Nat}{g:ώ}{M:aaa}(hF:Fr X.P gs w t q g)(Pk:X.N0=gs.size)
 (gN:∀b,M.has b->b<w.heap.size/\b≠X.cL/\b≠X.cN)(bz:g.status=.running)(hW:Walk X.P θ (StopA X X.n) M g w)
 (hL:w.heap[X.cL]?=φ (.chan 0 #[] χ 0 0 χ))(hN:w.heap[X.cN]?=φ (.chan 0 #[] χ 0 0 χ))(aw:X.cL≠X.cN){N:Nat}(hT:lK N t)(xJ:N<=X.cN):
 ∃G,FI X w gs w t G:=by
 obtain⟨T,lO⟩:=hW.tree;have h0:0<gs.size:=(Ϟ.1 hF.zero).1
 have known:∀k a,touchAt t k=φ a->a.loc.isMemory=θ->Knows t 0 k:=λk a ha hm=>(hF.gD.known k a ha hm).elim id λh=>h.1.elim
 refine⟨{j:=0,st:=λ_=>.no,mp:=.spawn,cp:=.no,act:=λi=>if i=0 then φ ⟨M,g,w⟩ else ν,q:=q,tr:=λ_=>T},?_⟩
 refine⟨Pk.symm,by omega,Nat.zero_le _,λh=>(by cases h),⟨λ⟨_,_,e⟩=>(by rcases e with e|e<;>cases e),λh=>(by cases h)⟩,λi _=>⟨λ_=>Nat.zero_le _,λ_=>rfl⟩,⟨g,hF.zero,M,w,rfl,bz,lO⟩,λi hi=>absurd hi (Nat.not_lt_zero _),λh=>(by cases h),
  λi x h1 _ hx=>hF.lv i x h1 hx,λi h1 _=>?_,λi hi=>?_,al3 _,λ_ _ _=>rfl,λ⟨_,_,e⟩=>(by cases e),λ⟨_,e⟩=>(by cases e),λ⟨_,_,e⟩=>(by cases e),⟨λi j hj=>?_,λi i' j j' hii hj qq=>?_,λi j hj=>?_,hF.gD.seen,hF.nd,hF.gD.clean,λi j hj k a ha b hb _=>?_,?_,?_⟩,
  ⟨0,hL⟩,⟨0,hN⟩,aw,⟨ϊ _,rfl,rfl,rfl⟩,λk a ha hm i _ _=>known k a ha hm,λk i hi=>?_,λi _ hq=>(by cases hq),λ_ k a ha=>?_,λh=>(by cases h)⟩
 ·exact if_neg (by omega)
 ·exact if_neg (by omega)
 ·by_cases e:i=0
  ·simp only[e,if_true,Aeh] at hj
   subst hj;exact bN.refl _ _
  ·simp only[e,if_false] at hj;cases hj
 ·by_cases e:i=0
  ·have e':i'≠0:=λx=>hii (e.trans x.symm)
   simp only[e',if_false] at qq;cases qq
  ·simp only[e,if_false] at hj;cases hj
 ·by_cases e:i=0
  ·simp only[e,if_true,Aeh] at hj
   subst hj;exact gN
  ·simp only[e,if_false] at hj;cases hj
 ·by_cases e:i=0
  ·subst e
   refine known k a ha ?_
   rcases hb with hb| ⟨c,hb,_⟩<;>rw[hb]<;>rfl
  ·simp only[e,if_false] at hj;cases hj
 ·exact(Ϟ.1 hL).1
 ·exact(Ϟ.1 hN).1
 ·unfold Trace.g? at hi
  obtain⟨op,ab,e⟩:=Aef.1 hi;rw[<-e];exact hF.gb op (Aax ab)
 ·obtain⟨op,ab,cB⟩:=touch_of ha
  exact hT op (mem_of_getElem? ab) a cB _ xJ
end Go.Jn
namespace Go.Jn
open Go Go.Proofs Go.Sim Go.Conc
def nP:ϖ:=a8 (a8 (a8 zJ))
def pT:ϖ:=bO (a8 zJ)
def p0:Array Ϝ:=opsOf (bO zJ)
def p5:Array Ϝ:=opsOf (bO (bO nP))
def uE:ϖ:=qV (qV (a8 (bO nP)))
def p6:Array Ϝ:=opsOf (bO uE)
def p7:Array Ϝ:=opsOf (bO (qV (bO (a8 (a8 uE)))))
def p8:Array Ϝ:=opsOf (a8 (qV (bO (a8 (a8 uE)))))
def p9:Array Ϝ:=opsOf (a8 (a8 (a8 uE)))
def vZ:ϖ:=a8 nP
def IK:Array Ϝ:=opsOf (bO vZ)
def Bf:Array Ϝ:=opsOf (bO (a8 vZ))
def ub:ϖ:=a8 (a8 vZ)
def Ol:Array Ϝ:=opsOf (bO (bO ub))
def pR:ϖ:=qV (qV (a8 (bO ub)))
def tU:Array Ϝ:=opsOf (bO pR)
def IL:Array Ϝ:=opsOf (bO (qV (a8 (a8 pR))))
def qP:Array Ϝ:=opsOf (a8 (qV (a8 (a8 pR))))
def re:ϖ:=a8 ub
def Bg:Array Ϝ:=opsOf (bO re)
def yM:Array Ϝ:=opsOf (bO (a8 re))
def RG:Tryz.f38.body=φ (.seq (.region 0 p0 χ) (.seq pT (.seq (.region 4 iP θ) nP))):=rfl
def akf:nP=.seq (.seq (.region 5 p5 χ) (.block 0 (.loop uE))) vZ:=rfl
def Rk:uE=.seq (.region 6 p6 χ) (.seq (.cond (.tmp 25) .skip (.exit 0)) (.seq (.block 1 (.seq (.region 7 p7 χ) (.region 8 p8 χ))) (.region 9 p9 χ))):=rfl
def akc:vZ=.seq (.region 10 IK χ) (.seq (.region 11 Bf χ) ub):=rfl
def akd:ub=.seq (.seq (.region 12 Ol χ) (.block 2 (.loop pR))) re:=rfl
def ake:re=.seq (.region 16 Bg χ) (.seq (.region 17 yM χ) .ret):=rfl
def m00:∃o,p0[0]?=φ o/\o.op=.box 26 (.tmp 0)/\o.dst=φ 1/\o.guard=ν:=⟨_,rfl,rfl,rfl,rfl⟩
def m01:∃o,p0[1]?=φ o/\o.op=.assign (.const (ζ ν 0 0))/\o.dst=φ 2/\o.guard=ν:=⟨_,rfl,rfl,rfl,rfl⟩
def m02:∃o,p0[2]?=φ o/\o.op=.assign (.const (ξ κ 0))/\o.dst=φ 3/\o.guard=ν:=⟨_,rfl,rfl,rfl,rfl⟩
def m50:∃o,p5[0]?=φ o/\o.op=.fieldAddr 26 (.tmp 1) 2/\o.dst=φ 21/\o.guard=ν:=⟨_,rfl,rfl,rfl,rfl⟩
def m51:∃o,p5[1]?=φ o/\o.op=.load 23 (.tmp 21)/\o.dst=φ 22/\o.guard=ν:=⟨_,rfl,rfl,rfl,rfl⟩
def m52:∃o,p5[2]?=φ o/\o.op=.call {callee:=.builtin .len,args:=#[.tmp 22],argTypes:=#[23]}/\o.dst=φ 23/\o.guard=ν:=⟨_,rfl,rfl,rfl,rfl⟩
def m53:∃o,p5[3]?=φ o/\o.op=.move (.const (ξ κ 0))/\o.dst=φ 24/\o.guard=ν:=⟨_,rfl,rfl,rfl,rfl⟩
def SE:∃o,p6[0]?=φ o/\o.op=.binOp .lss 3 (.tmp 24) (.tmp 23) 3/\o.dst=φ 25/\o.guard=ν:=⟨_,rfl,rfl,rfl,rfl⟩
def m70:∃o,p7[0]?=φ o/\o.op=.move (.tmp 24)/\o.dst=φ 26/\o.guard=ν:=⟨_,rfl,rfl,rfl,rfl⟩
def m71:∃o,p7[1]?=φ o/\o.op=.alloc 3/\o.dst=φ 8/\o.guard=ν:=⟨_,rfl,rfl,rfl,rfl⟩
def m72:∃o,p7[2]?=φ o/\o.op=.store 3 (.tmp 8) (.tmp 26)/\o.dst=ν/\o.guard=ν:=⟨_,rfl,rfl,rfl,rfl⟩
def m80:∃o,p8[0]?=φ o/\o.op=.makeFunc (.func 120) #[] #[.tmp 7,.tmp 1,.tmp 8,.tmp 6]/\o.dst=φ 27/\o.guard=ν:=⟨_,rfl,rfl,rfl,rfl⟩
def m81:∃o,p8[1]?=φ o/\o.op=.go {callee:=.value (.tmp 27),args:=#[],argTypes:=#[]}/\o.dst=ν/\o.guard=ν:=⟨_,rfl,rfl,rfl,rfl⟩
def m90:∃o,p9[0]?=φ o/\o.op=.binOp .add 3 (.tmp 24) (.const (ξ κ 1)) 3/\o.dst=φ 28/\o.guard=ν:=⟨_,rfl,rfl,rfl,rfl⟩
def m91:∃o,p9[1]?=φ o/\o.op=.move (.tmp 28)/\o.dst=φ 24/\o.guard=ν:=⟨_,rfl,rfl,rfl,rfl⟩
def ahu:∃o,IK[0]?=φ o/\o.op=.makeFunc (.func 124) #[] #[.tmp 1,.tmp 7,.tmp 6]/\o.dst=φ 29/\o.guard=ν:=⟨_,rfl,rfl,rfl,rfl⟩
def ahv:∃o,IK[1]?=φ o/\o.op=.go {callee:=.value (.tmp 29),args:=#[],argTypes:=#[]}/\o.dst=ν/\o.guard=ν:=⟨_,rfl,rfl,rfl,rfl⟩
def ahw:∃o,Bf[0]?=φ o/\o.op=.assign (.const (ζ ν 0 0))/\o.dst=φ 9/\o.guard=ν:=⟨_,rfl,rfl,rfl,rfl⟩
def ahx:∃o,Ol[0]?=φ o/\o.op=.load 154 (.tmp 6)/\o.dst=φ 30/\o.guard=ν:=⟨_,rfl,rfl,rfl,rfl⟩
def OS:∃o,tU[0]?=φ o/\o.op=.recv 154 (.tmp 30) θ/\o.dst=φ 31/\o.guard=ν:=⟨_,rfl,rfl,rfl,rfl⟩
def afd:∃o,tU[1]?=φ o/\o.op=.extract (.tmp 31) 1/\o.dst=φ 32/\o.guard=ν:=⟨_,rfl,rfl,rfl,rfl⟩
def ahy:∃o,IL[0]?=φ o/\o.op=.extract (.tmp 31) 0/\o.dst=φ 33/\o.guard=ν:=⟨_,rfl,rfl,rfl,rfl⟩
def ahz:∃o,IL[1]?=φ o/\o.op=.assign (.tmp 33)/\o.dst=φ 10/\o.guard=ν:=⟨_,rfl,rfl,rfl,rfl⟩
def ahF:∃o,yM[0]?=φ o/\o.op=.move (.tmp 9)/\o.dst=φ 40/\o.guard=ν:=⟨_,rfl,rfl,rfl,rfl⟩
def ahG:∃o,yM[1]?=φ o/\o.op=.assign (.tmp 40)/\o.dst=φ 2/\o.guard=ν:=⟨_,rfl,rfl,rfl,rfl⟩
def ahH:∃o,yM[2]?=φ o/\o.op=.assign (.const (ξ κ 0))/\o.dst=φ 3/\o.guard=ν:=⟨_,rfl,rfl,rfl,rfl⟩
def s0:p0.size=3:=rfl
def s5:p5.size=4:=rfl
def s6:p6.size=1:=rfl
def s7:p7.size=3:=rfl
def s8:p8.size=2:=rfl
def s9:p9.size=2:=rfl
def ET:IK.size=2:=rfl
def E0:Bf.size=1:=rfl
def E4:Ol.size=1:=rfl
def WX:tU.size=2:=rfl
def V5:IL.size=2:=rfl
def s17:yM.size=3:=rfl
def Ig:∃i,ϋ.info? 3=φ i/\i.zero=φ (ξ κ 0)/\i.size=1:=⟨_,rfl,rfl,rfl⟩
def akb:Tryz.f38.results=#[.tmp 2,.tmp 3]:=rfl
def aiN:(Tryz.f38.name== "runtime.NumGoroutine")=χ:=by decide+kernel
def aay:C0.clean pT:=by show cr ϋ G0 pT=θ;decide+kernel
def aar:C0.clean (.region 15 qP χ):=by show cr ϋ G0 (.region 15 qP χ)=θ;decide+kernel
def aas:C0.clean (.region 16 Bg χ):=by show cr ϋ G0 (.region 16 Bg χ)=θ;decide+kernel
def akp{P:ϑ}(t:Array υ)(w:Ψ){o:Ϝ}{e:ό}{n:Nat}{v:υ}(ho:o.op=.box e (.tmp n))(hn:t.getD n ω=v):
 (execOp (aS t) o).runT P w #[]=(.ok (.value (π (φ ⟨w.heap.size,0,ν⟩))) (w.alloc (.cells v.cells e)),#[]):=by
 have e1:aS t (.tmp n)=v:=hn;unfold execOp;rw[ho]
 simp only[Instr.box,e1,newVar,newRow,newObj,bind,Ϯ,ϧ,pure,World.alloc]
end Go.Jn
namespace Go.Jn
open Go Go.Proofs Go.Sim Go.Conc
def acY{G:Nat->Bool}{ρ:Ren}(hG:∀g,G g=θ->ρ g g){tl t:Array υ}(h:aP ρ tl t):pL G ρ (aS tl) (aS t):=by
 have:=Fh (f:=0) (k:=[]) (k':=[]) (d:=[]) (d':=[]) (m:=.run) (kd:=.normal) (eT:=.normal) (r:=ν) (r':=ν) hG h;rwa[tf,tf] at this
section
variable {P:ϑ}{F:Array Ϣ}{C:bQ}{G:Nat->Bool}
def Yb(E:Env P F C G){main:Bool}{Stop:Sim.aaa->ώ->Ψ->Prop}{M:Sim.aaa}{ρ:Ren}{f:Ϫ}{k:List Ajz}{D:List Abf}{kd:Aj0}{cs:List Ϙ}{ops:Array Ϝ}{i:Nat}{rest:List Nat}{o:Ϝ}{tl t:Array υ}{wl w':Ψ}
 (ho:ops[i]?=φ o)(hg:Aj9 o (Aj2 ops t)=θ)(hk:(kd==.early)=χ)(k8:j7 P G o=θ)(ht:aP ρ tl t)(hW:bV C ρ wl w')(hG:∀g,G g=θ->ρ g g)(hf:Fits M ρ wl)(gN:∀b,M.has b->b<w'.heap.size)
 {QL:υ->Ψ->Prop}(hl:∀T,∃v aa,(execOp (aS tl) o).run (tw P F) (aZ wl T)=.ok (.value v) aa/\QL v aa)
 (h:∀v v' wy aE bS aA,QL v wy->ah aE v v'->bV C aE wy aA->gX M ρ wl w' bS aE wy aA->Fits bS aE wy->(∀b,bS.has b->b<aA.heap.size)->Walk P main Stop bS (rg f (ay t o.dst v') (.inRegion ops rest::k) D kd cs) aA):
 Walk P main Stop M (rg f t (.inRegion ops (i::rest)::k) D kd cs) w':=by
 refine BN ho hg hk λaa hw=>?_
 have hR:=hW.keep hf hw
 let T:Tape:=λj q=>aa.tape (aa.drawn+(j - wl.drawn)) q
 obtain⟨v,wy,hr,hq⟩:=hl T;have eC:gY C ρ (aZ wl T) aa:=(hR.left (aa:=aZ wl T) rfl).rel λj q=>by
  show aa.tape (aa.drawn+(wl.drawn+j - wl.drawn)) q=aa.tape (aa.drawn+j) q;rw[Nat.add_sub_cancel_left]
 obtain⟨aE,n',aA,eD,k1,k2,k3,k4,k5⟩:=ed.execOp E o k8 (acY hG ht) ρ ρ.le_refl (aZ wl T) aa #[] eC (.value v) wy hr;cases k2 with
 |value hv=>
  rename_i v';have DM:∀b,M.has b->b<aa.heap.size:=λb hb=>Ϡ (gN b hb) hw.size
  have Mf:∀b,b<aa.heap.size->¬M.O b->∀a,ρ a b->∃o,wl.heap[a]?=φ o/\lC o:=λb _ hb a ha=>((hf a b ha).resolve_left hb).2
  have GH:eO M aa aA eD:=by
   refine⟨k4.fQ,λb hb hO=>k4.im b hb (Mf b hb hO),k4.wv,k4.vR,k4.vS,λe he=>?_⟩
   rcases k5 e he with⟨b,a,e1,e2,e3,e4⟩ |x
   ·refine .inl ⟨b,e1,e2,?_⟩
    rcases k4.new a b e3 with x| ⟨x,y⟩
    ·rcases hf a b x with o| ⟨r,o,ho,fo⟩
     ·exact⟨.inl (.inl o),λ_=>.inl o⟩
     ·refine⟨.inr r,λEc=>?_⟩
      rcases e4 with e4| ⟨o',oB,e4⟩
      ·have:=hW.dA a b x
       have e4:wl.heap.size<=a:=e4;omega
      ·have e5:wl.heap[a]?=φ o':=oB
       rw[ho] at e5;obtain rfl:=ϟ e5;exact absurd fo (e4 Ec)
    ·have hb:=k3.dc a b e3
     exact⟨.inl (.inr ⟨y,hb⟩),λ_=>.inr ⟨y,hb⟩⟩
   ·exact .inr x
  have tP:(execOp (aS t) o).runT P aa #[]=(.ok (.value v') aA,eD):=by rw[k1];simp
  refine⟨v',aA,eD,.inl tP,GH,?_⟩
  refine h v v' wy aE (M.grow aa aA) aA hq hv ⟨k3.dA,k3.dc,k3.fn,k3.inj,k3.obj⟩ ((gX.keep hw).trans (pU:=M.grow aa aA) ⟨k4.le,k4.new,k4.mP,k4.fQ,k4.kE,λb hb Hg=>k4.im b (DM b hb) Hg,rfl,λ_ x=>.inl x,λ_ x=>x,k4.wv,k4.vR,k4.vS⟩ gN) (λa b hab=>?_) (zU GH DM)
  rcases k4.new a b hab with x| ⟨x,y⟩
  ·rcases hf a b x with o| ⟨r,o,ho,fo⟩
   ·exact .inl (.inl o)
   ·exact .inr ⟨r,o,k4.kE a o ho fo,fo⟩
  ·exact .inl (.inr ⟨y,k3.dc a b hab⟩)
end
end Go.Jn
namespace Go.Jn
open Go Go.Proofs Go.Sim Go.Conc Go.Tw
def ext(ρ:Ren)(a0 b0:Nat):Ren:=λa b=>ρ a b\/(a=a0/\b=b0)
def xj(ρ:Ren)(a0 b0:Nat):ρ.le (ext ρ a0 b0):=λ_ _ h=>.inl h
def uP{C:bQ}{ρ:Ren}{wl w':Ψ}{o o':Obj}{q:Nat}(hW:bV C ρ wl w')(hq:w'.heap[q]?=φ o')(xU:∀a,¬ρ a q)(ho:iE C (ext ρ wl.heap.size q) o o'):
 bV C (ext ρ wl.heap.size q) (wl.alloc o) w' where
 dA a b h:=by
  rw[eM];rcases h with h| ⟨rfl,rfl⟩
  ·have:=hW.dA a b h;omega
  ·omega
 dc a b h:=by
  rcases h with h| ⟨rfl,rfl⟩
  ·exact hW.dc a b h
  ·exact(Ϟ.1 hq).1
 fn a b b' h h':=by
  rcases h with h| ⟨rfl,rfl⟩
  ·rcases h' with h'| ⟨rfl,rfl⟩
   ·exact hW.fn a b b' h h'
   ·have:=hW.dA _ _ h;omega
  ·rcases h' with h'| ⟨_,rfl⟩
   ·have:=hW.dA _ _ h';omega
   ·rfl
 inj a a' b h h':=by
  rcases h with h| ⟨rfl,rfl⟩
  ·rcases h' with h'| ⟨rfl,rfl⟩
   ·exact hW.inj a a' b h h'
   ·exact absurd h (xU a)
  ·rcases h' with h'| ⟨rfl,_⟩
   ·exact absurd h' (xU a')
   ·rfl
 obj a b x h hx:=by
  rcases h with h| ⟨rfl,rfl⟩
  ·rw[kB (hW.dA a b h)] at hx
   obtain⟨y,h1,h2⟩:=hW.obj a b x h hx;exact⟨y,h1,h2.mono (xj ρ _ _)⟩
  ·rw[jO] at hx
   cases hx;exact⟨o',hq,ho⟩
def ta{C:bQ}{ρ:Ren}{wl w' bq:Ψ}(hW:bV C ρ wl w')(hs:w'.heap.size<=bq.heap.size)(hk:∀a b,ρ a b->bq.heap[b]?=w'.heap[b]?):bV C ρ wl bq where
 dA:=hW.dA
 dc a b h:=Ϡ (hW.dc a b h) hs
 fn:=hW.fn
 inj:=hW.inj
 obj a b o h ho:=by
  obtain⟨o',h1,h2⟩:=hW.obj a b o h ho;exact⟨o',(hk a b h).trans h1,h2⟩
structure LW(b:ao)(ρ:Ren)(wl:Ψ)(pv bv tv:υ)(B lb l6 l7 bk p6 p7:Nat)(M:Sim.aaa)(w':Ψ):Prop where
 core:bV C0 ρ wl w'
 gL:ρ 0 0
 nb:bJ wl.heap
 has:∀a q,ρ a q->M.has q
 fixed:∀a q,ρ a q->∃o,wl.heap[a]?=φ o/\lC o
 rb:ρ lb bk
 r6:ρ l6 p6
 r7:ρ l7 p7
 hB:B<=wl.heap.size
 book:bg wl B b pv bv tv
 c0: wl.cell? ⟨lb,0,ν⟩=φ (ξ κ b.ag)
 c1: wl.cell? ⟨lb,1,ν⟩=φ pv
 c2: wl.cell? ⟨lb,2,ν⟩=φ bv
 c3: wl.cell? ⟨lb,3,ν⟩=φ tv
structure St(b:ao)(ρ:Ren)(wl:Ψ)(pv bv tv:υ)(B lb l6 l7 bk p6 p7 cN cL n NB:Nat)(wB:Ψ)(M:Sim.aaa)(w:Ψ):Prop where
 lw:LW b ρ wl pv bv tv B lb l6 l7 bk p6 p7 M w
 low:∀q,M.has q->q<w.heap.size
 m6:M.has p6
 m7:M.has p7
 mb:M.has bk
 h6:w.heap[p6]?=φ (Ξ #[.chan (φ cN)] 154 (0,0))
 h7:w.heap[p7]?=φ (Ξ #[.chan (φ cL)] 155 (0,0))
 hb:∃bc e fb A c,w.heap[bk]?=φ (.cells bc e fb)/\bc[2]?=φ (.slice A n c)
 old:∀q,q<NB->M.has q/\w.heap[q]?=wB.heap[q]?
 nb:NB<=w.heap.size
 nc:¬M.has cN/\¬M.has cL
 lc:cN<w.heap.size/\cL<w.heap.size
section
variable {b:ao}{ρ:Ren}{wl wB w bq:Ψ}{pv bv tv:υ}{B lb l6 l7 bk p6 p7 cN cL n NB:Nat}{M M':Sim.aaa}
def St.to(h:(St b ρ wl pv bv tv B lb l6 l7 bk p6 p7 cN cL n NB wB) M w)(hs:w.heap.size<=bq.heap.size)(hk:∀q,M.has q->bq.heap[q]?=w.heap[q]?)(hM:∀q,M.has q->M'.has q)(hl:∀q,M'.has q->q<bq.heap.size)(hc:¬M'.has cN/\¬M'.has cL):(St b ρ wl pv bv tv B lb l6 l7 bk p6 p7 cN cL n NB wB) M' bq:=by
 obtain⟨⟨core,gL,nb,has,fixed,rb,r6,r7,hB,book,c0,c1,c2,c3⟩,low,m6,m7,mb,h6,h7,⟨bc,e,fb,A,c,ae,ak⟩,old,gy,nc,lc⟩:=h;exact⟨⟨ta core hs λa q hq=>hk q (has a q hq),gL,nb,λa q hq=>hM q (has a q hq),fixed,rb,r6,r7,hB,book,c0,c1,c2,c3⟩,hl,hM _ m6,hM _ m7,hM _ mb,(hk _ m6).trans h6,(hk _ m7).trans h7,⟨bc,e,fb,A,c,(hk _ mb).trans ae,ak⟩,
  λq hq=>⟨hM q (old q hq).1,(hk q (old q hq).1).trans (old q hq).2⟩,Ϥ gy hs,hc,Ϡ lc.1 hs,Ϡ lc.2 hs⟩
def St.keep(h:(St b ρ wl pv bv tv B lb l6 l7 bk p6 p7 cN cL n NB wB) M w)(k:bN M w bq):(St b ρ wl pv bv tv B lb l6 l7 bk p6 p7 cN cL n NB wB) M bq:=h.to k.size k.kept (λ_ h=>h) (λq hq=>Ϡ (h.low q hq) k.size) h.nc
def St.shared(h:(St b ρ wl pv bv tv B lb l6 l7 bk p6 p7 cN cL n NB wB) M w):(St b ρ wl pv bv tv B lb l6 l7 bk p6 p7 cN cL n NB wB) M.shared w:=h.to (ϊ _) (λ_ _=>rfl) (λ_ h=>.inr h) (λq hq=>h.low q (hq.resolve_left id)) ⟨λx=>h.nc.1 (x.resolve_left id),λx=>h.nc.2 (x.resolve_left id)⟩
def St.alloc(h:(St b ρ wl pv bv tv B lb l6 l7 bk p6 p7 cN cL n NB wB) M w)(o:Obj):(St b ρ wl pv bv tv B lb l6 l7 bk p6 p7 cN cL n NB wB) (M.grow w (w.alloc o)) (w.alloc o):=by
 refine h.to (by rw[eM];omega) (λq hq=>kB (h.low q hq)) (λq hq=>hq.imp .inl id) (λq hq=>?_) ⟨λhq=>?_,λhq=>?_⟩
 ·rw[eM]
  rcases hq with(hq|hq) |hq
  ·have:=h.low q (.inl hq);omega
  ·rw[eM] at hq;omega
  ·have:=h.low q (.inr hq);omega
 ·rcases hq with(hq|hq) |hq
  ·exact h.nc.1 (.inl hq)
  ·have:=h.lc.1;omega
  ·exact h.nc.1 (.inr hq)
 ·rcases hq with(hq|hq) |hq
  ·exact h.nc.2 (.inl hq)
  ·have:=h.lc.2;omega
  ·exact h.nc.2 (.inr hq)
end
end Go.Jn
namespace Go.Jn
open Go Go.Proofs Go.Sim Go.Conc Go.Tw
def X0(i:Nat):υ:=ξ κ i
def vs3{t:Array υ}{a b c:Nat}{x y z:υ}(h1:t[a]?=φ x)(h2:t[b]?=φ y)(h3:t[c]?=φ z):(#[Operand.tmp a,.tmp b,.tmp c].map (aS t))=#[x,y,z]:=by
 have e1:aS t (.tmp a)=x:=cJ h1;have e2:aS t (.tmp b)=y:=cJ h2;have e3:aS t (.tmp c)=z:=cJ h3;simp only[Aki,Akj,Akk,e1,e2,e3]
def vs4{t:Array υ}{a b c d:Nat}{x y z u:υ}(h1:t[a]?=φ x)(h2:t[b]?=φ y)(h3:t[c]?=φ z)(h4:t[d]?=φ u):(#[Operand.tmp a,.tmp b,.tmp c,.tmp d].map (aS t))=#[x,y,z,u]:=by
 have e1:aS t (.tmp a)=x:=cJ h1;have e2:aS t (.tmp b)=y:=cJ h2;have e3:aS t (.tmp c)=z:=cJ h3;have e4:aS t (.tmp d)=u:=cJ h4;simp only[Aki,Akj,Akk,e1,e2,e3,e4]
section
variable {b:ao}{ρ:Ren}{wl wB:Ψ}{pv bv tv:υ}{B lb l6 l7 bk p6 p7 cN cL n N0 NB:Nat}{eU:Nat->Bool}{End:List Nat->Sim.aaa->ώ->Ψ->Prop}
structure jN(bk p6 p7:Nat)(t:Array υ):Prop where
 sz:t.size=41
 t1:t[1]?=φ (π (φ ⟨bk,0,ν⟩))
 t6:t[6]?=φ (π (φ ⟨p6,0,ν⟩))
 t7:t[7]?=φ (π (φ ⟨p7,0,ν⟩))
def jN.put{t:Array υ}(h:jN bk p6 p7 t){d:Nat}(hd:d≠1/\d≠6/\d≠7){v:υ}:jN bk p6 p7 (ay t (φ d) v):=
 ⟨by simp[ay,h.sz],(bL hd.1).trans h.t1,(bL hd.2.1).trans h.t6,(bL hd.2.2).trans h.t7⟩
def alE(vt:∀i,eU i=(search b (cz (aD b)) (λk=>decide (k=i)) b.pieces.length []).isNone)(ab:cj b 0=0){i pk:Nat}{M:Sim.aaa}{w:Ψ}(h:(St b ρ wl pv bv tv B lb l6 l7 bk p6 p7 cN cL n NB wB) M w)(mk:M.has pk)(hk:w.heap[pk]?=φ (Ξ #[ξ κ i] 3 (0,0)))(xU:∀a,¬ρ a pk):
 Walk ϋ χ (W1 (Pm.mk ϋ n N0 cL cN eU X0 End) i) M.shared (born ϋ {target:=.fn (.func 120) #[π (φ ⟨p7,0,ν⟩),π (φ ⟨bk,0,ν⟩),π (φ ⟨pk,0,ν⟩),π (φ ⟨p6,0,ν⟩)],args:=#[]}) w:=by
 have hW:=uP (o:=.cells #[ξ κ i] 3 (0,1)) h.lw.core hk xU (.cells 3 ⟨rfl,λj h1 h2=>by
  have:j=0:=by simp at h1;omega
  subst this;exact .int _ _⟩ (.inr ⟨rfl,by simp⟩))
 have st:=(Δ.refl wl).alloc h.lw.hB (Ξ #[ξ κ i] 3 (0,1));have old:∀ {j:Nat} {v:υ},wl.cell? ⟨lb,j,ν⟩=φ v->(wl.alloc (Ξ #[ξ κ i] 3 (0,1))).cell? ⟨lb,j,ν⟩=φ v:=λhv=>(Afz wl _ _ (h.lw.core.dA _ _ h.lw.rb)).trans hv
 refine worker (val:=X0) (ρ:=ext ρ wl.heap.size pk) (w:=wl.alloc (Ξ #[ξ κ i] 3 (0,1))) (b:=b) (pv:=pv) (bv:=bv) (tv:=tv) (B:=B) (lb:=lb) (lk:=wl.heap.size) (l6:=l6) (l7:=l7) hW (.inl h.lw.gL) ?_ (λ_ h=>h) (λq hq=>h.low q (hq.resolve_left id)) ?_ (.inl h.lw.rb) (.inr ⟨rfl,rfl⟩) (.inl h.lw.r6) (.inl h.lw.r7) (.inr h.m6) (.inr h.m7) (.inr mk) (by rw[eM];exact Akp h.lw.hB) (h.lw.book.still st) ab (old h.lw.c0) (old h.lw.c1) (old h.lw.c2) (old h.lw.c3) ?_ h.h6 h.h7 hk (vt i)
 ·rintro a q (hq| ⟨rfl,rfl⟩)
  ·obtain⟨o,ho,fo⟩:=h.lw.fixed a q hq
   exact .inr ⟨h.lw.has a q hq,o,(kB (h.lw.core.dA _ _ hq)).trans ho,fo⟩
  ·exact .inr ⟨mk,_,jO,⟨rfl,by simp⟩⟩
 ·exact h.lw.nb.push (λh=>h)
 ·exact lL jO rfl rfl
def spawns(vt:∀i,eU i=(search b (cz (aD b)) (λk=>decide (k=i)) b.pieces.length []).isNone)(ab:cj b 0=0)(hn:n<2 ^ 61){cs:List Ϙ}
 (cont:∀t M w,jN bk p6 p7 t->(St b ρ wl pv bv tv B lb l6 l7 bk p6 p7 cN cL n NB wB) M w->Walk ϋ θ (nj (Pm.mk ϋ n N0 cL cN eU X0 End) n []) M (rg 38 t [.code (.seq (.region 11 Bf χ) ub)] [] .normal cs) w):
 ∀(r:Nat) (t:Array υ) (M:Sim.aaa) (w:Ψ),r<=n->jN bk p6 p7 t->t[23]?=φ (ξ κ n)->t[24]?=φ (ξ κ ((n:Int) - r))->(St b ρ wl pv bv tv B lb l6 l7 bk p6 p7 cN cL n NB wB) M w->
  Walk ϋ θ (StopA (Pm.mk ϋ n N0 cL cN eU X0 End) r) M (rg 38 t [.code uE,.inLoop uE,.inBlock 0,.code vZ] [] .normal cs) w:=by
 intro r;induction r with
 |zero=>
  intro t M w hr hs t23 t24 hS;rw[Rk];refine fF (gH ?_)
  rw[s6];obtain⟨o,ho,bG,hd,hg⟩:=SE;refine du ho (bI hg) rfl (λaa _=>⟨_,I3 t aa bG (cJ t24) (cJ t23),cS⟩) ?_
  rw[hd];have cZ:jN bk p6 p7 (ay t (φ 25) (.bool (decide ((n:Int) - ((0:Nat):Int)<n)))):=hs.put ⟨by omega,by omega,by omega⟩
  have xy:(ay t (φ 25) (.bool (decide ((n:Int) - ((0:Nat):Int)<n)))).getD 25 ω=.bool χ:=
   (ib (by rw[hs.sz];omega)).trans (congrArg Value.bool (by simp))
  revert cZ xy
  generalize ay t (φ 25) (.bool (decide ((n:Int) - ((0:Nat):Int)<n)))=t1;intro cZ xy;refine iA (fF (Bl (q:=χ) xy ?_))
  refine Qm (k':=[.code vZ]) rfl ?_
  rw[akc];refine fF (gH ?_)
  rw[ET];obtain⟨o,ho,bG,hd,hg⟩:=ahu;refine du ho (bI hg) rfl (λaa _=>⟨_,(Pz t1 aa bG).trans (by rw[vs3 cZ.t1 cZ.t7 cZ.t6]),cS⟩) ?_
  rw[hd];have Ms:(ay t1 (φ 29) (.func (.func 124) #[] #[π (φ ⟨bk,0,ν⟩),π (φ ⟨p7,0,ν⟩),π (φ ⟨p6,0,ν⟩)])).getD 29 ω=.func (.func 124) #[] #[π (φ ⟨bk,0,ν⟩),π (φ ⟨p7,0,ν⟩),π (φ ⟨p6,0,ν⟩)]:=ib (by rw[cZ.sz];omega)
  have dD:jN bk p6 p7 (ay t1 (φ 29) (.func (.func 124) #[] #[π (φ ⟨bk,0,ν⟩),π (φ ⟨p7,0,ν⟩),π (φ ⟨p6,0,ν⟩)])):=cZ.put ⟨by omega,by omega,by omega⟩
  revert Ms dD
  generalize ay t1 (φ 29) (.func (.func 124) #[] #[π (φ ⟨bk,0,ν⟩),π (φ ⟨p7,0,ν⟩),π (φ ⟨p6,0,ν⟩)])=t2;intro Ms dD;refine .stop λaa hk=>?_
  obtain⟨o,ho,bG,hd,hg⟩:=ahv;have fU:=hS.keep hk;obtain⟨bc,e,fb,A,c,ae,ak⟩:=fU.hb;refine⟨rfl,_,_,Xz (k:=[.code (.seq (.region 11 Bf χ) ub)]) ho (bI hg) rfl (by simp) (WO t2 aa bG Ms),rfl,rfl,?_,?_⟩
  ·exact closer (.inr fU.mb) (.inr fU.m6) (.inr fU.m7) ae ak fU.h6 fU.h7 hn
  ·rw[hd]
   exact iA (cont _ _ _ dD fU.shared)
 |succ r ih=>
  intro t M w hr hs t23 t24 hS;rw[Rk];refine fF (gH ?_)
  rw[s6];obtain⟨o,ho,bG,hd,hg⟩:=SE;refine du ho (bI hg) rfl (λaa _=>⟨_,I3 t aa bG (cJ t24) (cJ t23),cS⟩) ?_
  rw[hd];have cZ:jN bk p6 p7 (ay t (φ 25) (.bool (decide ((n:Int) - ((r+1:Nat):Int)<n)))):=hs.put ⟨by omega,by omega,by omega⟩
  have xy:(ay t (φ 25) (.bool (decide ((n:Int) - ((r+1:Nat):Int)<n)))).getD 25 ω=.bool θ:=
   (ib (by rw[hs.sz];omega)).trans (congrArg Value.bool (by have:(n:Int) - ((r+1:Nat):Int)<n:=by omega
                                                            exact decide_eq_true this))
  have xx:(ay t (φ 25) (.bool (decide ((n:Int) - ((r+1:Nat):Int)<n))))[23]?=φ (ξ κ n):=(bL (by omega)).trans t23
  have Da:(ay t (φ 25) (.bool (decide ((n:Int) - ((r+1:Nat):Int)<n))))[24]?=φ (ξ κ ((n:Int) - ((r+1:Nat):Int))):=(bL (by omega)).trans t24
  revert cZ xy xx Da
  generalize ay t (φ 25) (.bool (decide ((n:Int) - ((r+1:Nat):Int)<n)))=t1;intro cZ xy xx Da;obtain⟨i,hi⟩:∃i,i=n - (r+1):=⟨_,rfl⟩
  have bu:(n:Int) - ((r+1:Nat):Int)=(i:Int):=by omega
  rw[bu] at Da;refine iA (fF (Bl (q:=θ) xy ?_))
  refine Qq (fF (BL (fF (gH ?_))))
  rw[s7];obtain⟨o,ho,bG,hd,hg⟩:=m70;have e24:aS t1 (.tmp 24)=ξ κ i:=cJ Da;refine du ho (bI hg) rfl (λaa _=>⟨_,(run_move t1 aa bG).trans (by rw[e24]),cS⟩) ?_
  rw[hd];have dD:jN bk p6 p7 (ay t1 (φ 26) (ξ κ i)):=cZ.put ⟨by omega,by omega,by omega⟩
  have OD:(ay t1 (φ 26) (ξ κ i))[26]?=φ (ξ κ i):=tY (by rw[cZ.sz];omega)
  have OB:(ay t1 (φ 26) (ξ κ i))[23]?=φ (ξ κ n):=(bL (by omega)).trans xx
  have OC:(ay t1 (φ 26) (ξ κ i))[24]?=φ (ξ κ i):=(bL (by omega)).trans Da
  revert dD OD OB OC
  generalize ay t1 (φ 26) (ξ κ i)=t2;intro dD OD OB OC;obtain⟨o,ho,bG,hd,hg⟩:=m71;obtain⟨ti,lU,hz,il⟩:=Ig;refine BN ho (bI hg) rfl λaa hk=>?_
  have fU:=hS.keep hk;refine⟨_,_,_,.inl (Py t2 bG lU hz rfl aa),xe,?_⟩
  rw[hd];have Dg:=fU.alloc (Ξ #[ξ κ 0] 3);obtain⟨pk,AD⟩:∃pk,pk=aa.heap.size:=⟨_,rfl⟩
  have xU:∀a,¬ρ a pk:=λa ha=>by have:=fU.lw.core.dc a pk ha;omega
  have zZ:(M.grow aa (aa.alloc (Ξ #[ξ κ 0] 3))).O pk:=.inr ⟨by omega,by rw[eM];omega⟩
  have Dd:(aa.alloc (Ξ #[ξ κ 0] 3)).heap[pk]?=φ (Ξ #[ξ κ 0] 3):=by rw[AD];exact jO
  rw[<-AD];have gQ:jN bk p6 p7 (ay t2 (φ 8) (π (φ ⟨pk,0,ν⟩))):=dD.put ⟨by omega,by omega,by omega⟩
  have q8:(ay t2 (φ 8) (π (φ ⟨pk,0,ν⟩)))[8]?=φ (π (φ ⟨pk,0,ν⟩)):=tY (by rw[dD.sz];omega)
  have sa:(ay t2 (φ 8) (π (φ ⟨pk,0,ν⟩)))[26]?=φ (ξ κ i):=(bL (by omega)).trans OD
  have tX:(ay t2 (φ 8) (π (φ ⟨pk,0,ν⟩)))[23]?=φ (ξ κ n):=(bL (by omega)).trans OB
  have r8:(ay t2 (φ 8) (π (φ ⟨pk,0,ν⟩)))[24]?=φ (ξ κ i):=(bL (by omega)).trans OC
  revert gQ q8 sa tX r8
  generalize ay t2 (φ 8) (π (φ ⟨pk,0,ν⟩))=t3;intro gQ q8 sa tX r8
  revert Dg zZ Dd
  generalize M.grow aa (aa.alloc (Ξ #[ξ κ 0] 3))=M2;generalize aa.alloc (Ξ #[ξ κ 0] 3)=w2;intro Dg zZ Dd;obtain⟨o,ho,bG,hd,hg⟩:=m72;refine BN ho (bI hg) rfl λky fh=>?_
  have MF:=Dg.keep fh;have T7:=(fh.kept pk (.inl zZ)).trans Dd;refine⟨ω,jh ky pk (Ξ #[ξ κ i] 3 (0,0)),_,.inr ⟨rfl,PC t3 bG (cJ q8) (cJ sa) rfl rfl lU il ky T7⟩,LZ zZ,?_⟩
  rw[hd,GQ];have aw:∀q,M2.has q->q≠pk->(jh ky pk (Ξ #[ξ κ i] 3 (0,0))).heap[q]?=ky.heap[q]?:=λq _ hq=>wa (Ne.symm hq)
  have afn:pk<ky.heap.size:=(Ϟ.1 T7).1
  have vE:(jh ky pk (Ξ #[ξ κ i] 3 (0,0))).heap[pk]?=φ (Ξ #[ξ κ i] 3 (0,0)):=PM afn;have tq:NB<=pk:=by have:=fU.nb;omega
  have fI:p6≠pk:=by have:=fU.low _ fU.m6;omega
  have jx:p7≠pk:=by have:=fU.low _ fU.m7;omega
  have jS:bk≠pk:=by have:=fU.low _ fU.mb;omega
  have MG:(St b ρ wl pv bv tv B lb l6 l7 bk p6 p7 cN cL n NB wB) M2 (jh ky pk (Ξ #[ξ κ i] 3 (0,0))):=by
   obtain⟨⟨core,gL,nb,has,fixed,rb,r6,r7,hB,book,c0,c1,c2,c3⟩,low,m6,m7,mb,h6,h7,⟨bc,e,fb,A,c,ae,ak⟩,old,gy,nc,lc⟩:=MF;exact⟨⟨ta core (by rw[qS];omega) λa q hq=>aw q (has a q hq) (by rintro rfl;exact xU a hq),gL,nb,has,fixed,rb,r6,r7,hB,book,c0,c1,c2,c3⟩,λq hq=>by rw[qS];exact low q hq,m6,m7,mb,(aw _ m6 fI).trans h6,(aw _ m7 jx).trans h7,
    ⟨bc,e,fb,A,c,(aw _ mb jS).trans ae,ak⟩,λq hq=>⟨(old q hq).1,(aw q (old q hq).1 (by omega)).trans (old q hq).2⟩,by rw[qS];exact gy,nc,by rw[qS];exact lc⟩
  revert MG vE
  generalize jh ky pk (Ξ #[ξ κ i] 3 (0,0))=w4;intro vE MG;refine iA (gH ?_)
  rw[s8];obtain⟨o,ho,bG,hd,hg⟩:=m80;refine du ho (bI hg) rfl (λaa _=>⟨_,(Pz _ aa bG).trans (by rw[vs4 (t:=ay t3 ν ω) gQ.t7 gQ.t1 q8 gQ.t6]),cS⟩) ?_
  rw[hd];have Mr:(ay t3 (φ 27) (.func (.func 120) #[] #[π (φ ⟨p7,0,ν⟩),π (φ ⟨bk,0,ν⟩),π (φ ⟨pk,0,ν⟩),π (φ ⟨p6,0,ν⟩)])).getD 27 ω=.func (.func 120) #[] #[π (φ ⟨p7,0,ν⟩),π (φ ⟨bk,0,ν⟩),π (φ ⟨pk,0,ν⟩),π (φ ⟨p6,0,ν⟩)]:=ib (by rw[gQ.sz];omega)
  have tK:jN bk p6 p7 (ay t3 (φ 27) (.func (.func 120) #[] #[π (φ ⟨p7,0,ν⟩),π (φ ⟨bk,0,ν⟩),π (φ ⟨pk,0,ν⟩),π (φ ⟨p6,0,ν⟩)])):=gQ.put ⟨by omega,by omega,by omega⟩
  have z23:(ay t3 (φ 27) (.func (.func 120) #[] #[π (φ ⟨p7,0,ν⟩),π (φ ⟨bk,0,ν⟩),π (φ ⟨pk,0,ν⟩),π (φ ⟨p6,0,ν⟩)]))[23]?=φ (ξ κ n):=(bL (by omega)).trans tX
  have z24:(ay t3 (φ 27) (.func (.func 120) #[] #[π (φ ⟨p7,0,ν⟩),π (φ ⟨bk,0,ν⟩),π (φ ⟨pk,0,ν⟩),π (φ ⟨p6,0,ν⟩)]))[24]?=φ (ξ κ i):=(bL (by omega)).trans r8
  show Walk ϋ θ (StopA (Pm.mk ϋ n N0 cL cN eU X0 End) (r+1)) M2 (rg 38 (ay t3 (φ 27) (.func (.func 120) #[] #[π (φ ⟨p7,0,ν⟩),π (φ ⟨bk,0,ν⟩),π (φ ⟨pk,0,ν⟩),π (φ ⟨p6,0,ν⟩)])) _ _ _ _) w4
  revert Mr tK z23 z24
  generalize ay t3 (φ 27) (.func (.func 120) #[] #[π (φ ⟨p7,0,ν⟩),π (φ ⟨bk,0,ν⟩),π (φ ⟨pk,0,ν⟩),π (φ ⟨p6,0,ν⟩)])=t4;intro Mr tK z23 z24;refine .stop λang DF=>?_
  obtain⟨o,ho,bG,hd,hg⟩:=m81;have TR:=MG.keep DF;have Oh:=(DF.kept pk (.inl zZ)).trans vE;refine⟨rfl,_,_,Xz ho (bI hg) rfl (by simp) (WO t4 ang bG Mr),rfl,rfl,?_,?_⟩
  ·show Walk ϋ χ (W1 (Pm.mk ϋ n N0 cL cN eU X0 End) (n - (r+1))) _ _ _
   rw[<-hi];exact alE vt ab TR (.inl zZ) Oh xU
  ·rw[hd]
   refine iA (Qn (gH ?_))
   rw[s9];obtain⟨o,ho,bG,hd,hg⟩:=m90;refine du ho (bI hg) rfl (λaa _=>⟨_,WL t4 aa bG (cJ z24) rfl,cS⟩) ?_
   rw[hd];obtain⟨o,ho,bG,hd,hg⟩:=m91;have Ec:IntKind.i64.wrap ((i:Int)+1)=(n:Int) - r:=by rw[wrap_small (by omega) (by omega)];omega
   rw[Ec];have AJ:jN bk p6 p7 (ay t4 (φ 28) (ξ κ ((n:Int) - r))):=tK.put ⟨by omega,by omega,by omega⟩
   have y28:aS (ay t4 (φ 28) (ξ κ ((n:Int) - r))) (.tmp 28)=ξ κ ((n:Int) - r):=ib (by rw[tK.sz];omega)
   refine du ho (bI hg) rfl (λaa _=>⟨_,(run_move _ aa bG).trans (congrArg (λv=>((Result.ok (Next.value v) aa,#[]):Result Next×Array ϥ)) y28),cS⟩) ?_
   rw[hd];refine iA (Qo ?_)
   exact ih _ _ _ (by omega) (AJ.put ⟨by omega,by omega,by omega⟩) ((bL (by omega)).trans ((bL (by omega)).trans z23)) (tY (by have:=AJ.sz;show 24<(ay t4 (φ 28) (ξ κ ((n:Int) - r))).size;omega)) TR.shared
end
end Go.Jn
namespace Go.Jn
open Go Go.Proofs Go.Sim Go.Conc Go.Tw
def Mb(ρ:Ren)(t:Array υ):∃u:Array υ,aP ρ u t:=by
 refine⟨Ajv λi:Fin t.size=>Aa6 (rB ρ t[i.1]),by simp,λi h1 h2=>?_⟩
 rw[Ajw];exact Aa7 (rB ρ t[i])
def SR{ρ:Ren}{u t:Array υ}(h:aP ρ u t){i:Nat}{v v':υ}(hv:ah ρ v v')(ht:t[i]?=φ v'):aP ρ (u.setIfInBounds i v) t:=by
 refine⟨by simp[h.1],λj h1 h2=>?_⟩
 rw[Array.getElem_setIfInBounds (by simpa using h1)]
 split
 ·rename_i e
  subst e;rw[Aaz h2] at ht
  rw[ϟ ht];exact hv
 ·exact h.2 j (by simpa using h1) h2
def akq(t:Array υ)(w:Ψ){o:Ϝ}{n:Nat}{v:υ}(ho:o.op=.buildSlice 33 1 #[(0,.tmp n)])(hn:t.getD n ω=v)(hv:v.cells=#[v]):
 (execOp (aS t) o).runT ϋ w #[]=(.ok (.value (ζ (φ ⟨w.heap.size,0,ν⟩) 1 1)) (w.alloc (Ξ #[v] 3)),#[]):=by
 have e1:aS t (.tmp n)=v:=hn;obtain⟨i,hi,hz,hs⟩:=Ig;have hu:ϋ.underlying 33=φ (.slice 3):=rfl;have hb:(Instr.buildSlice 33 1 #[(0,v)]).runT ϋ w #[]=(.ok (ζ (φ ⟨w.heap.size,0,ν⟩) 1 1) (w.alloc (Ξ #[v] 3)),#[]):=by
  have e3:¬ (1 * 1>2 ^ 24):=by decide
  have e4:¬ (1 * 1=0):=by decide
  simp only[Instr.buildSlice,Go.underlying,Go.program,Go.typeInfo,Go.sizeOf,Go.zeroValue,bind,Ϯ,ϧ,pure,hu,hi,hs,hz,if_neg e3,if_neg e4,newRow,newObj,World.alloc];generalize hq:Instr.fill _ _ _=q;have h2:q=φ #[v]:=by
   have e2:Array.range (1 * 1)=#[0]:=rfl;rw[<-hq,e2];simp[Instr.fill,hv]
  rw[h2];rfl
 unfold execOp;rw[ho]
 have e5:(#[(0,Operand.tmp n)].map λ(i,x)=>(i,aS t x))=#[(0,v)]:=by simp only[Aki,Akj,Akk,e1]
 show((Instr.buildSlice 33 1 (#[(0,Operand.tmp n)].map λ(i,x)=>(i,aS t x))).bind λv=>Akd (Next.value v)).runT ϋ w #[]=_
 rw[e5,pA,hb];rfl
def Wv{C:bQ}{ρ:Ren}{wl w:Ψ}(hW:bV C ρ wl w){base NR n:Nat}{v v':υ}{xs:List Int}(hv:ah ρ v v')(h:wl.ownsRow base 3 1 v n (xs.map (ξ κ)))(hn:n≠0)(hb:∀a q,base<=a->ρ a q->NR<=q):
 w.ownsRow NR 3 1 v' n (xs.map (ξ κ))/\∃a q cap,v=ζ (φ ⟨a,0,ν⟩) n cap/\v'=ζ (φ ⟨q,0,ν⟩) n cap/\ρ a q/\∃cur,wl.heap[a]?=φ (.cells cur 3 (0,0))/\cur.size≠0:=by
 obtain⟨hl,hc⟩:=h;rcases hc with⟨_,rfl⟩ | ⟨g,cap,cur,rfl,nC,hg,dX,kZ,fg,lT⟩
 ·exact absurd rfl hn
 ·cases hv with
  |sliceDead=>exact absurd rfl hn
  |slice _ _ ha=>
   rename_i q;obtain⟨qb,qo,qs⟩:=q;obtain⟨h1,h2,h3⟩:=ha;simp only at h1 h2 h3;subst h2 h3;obtain⟨o',oB,hr⟩:=hW.obj _ _ _ h1 hg;cases hr with
   | @cells _ c' _ _ aV hc hf=>
     have b7:aV=(0,0):=by
      rcases hf with hf|hf
      ·exact hf
      ·obtain⟨_,hf⟩:=hf
       have:cur.size<=0:=hf;omega
     subst b7;refine⟨⟨hl,.inr ⟨qb,cap,c',rfl,hb _ _ nC h1,oB,dX,kZ,hc.1.symm.trans fg,?_⟩⟩,_,_,_,rfl,rfl,h1,cur,hg,by omega⟩
     apply List.ext_getElem?;intro j;rw[<-lT];rw[Akl,Akl]
     split
     ·rename_i hj
      rw[Ag4,Ag4]
      rcases hc.get? j with⟨e1,e2⟩ | ⟨x,y,e1,e2,e3⟩
      ·rw[e1,e2]
      ·rw[e1,e2]
       have hx:(cur.toList.take (n * 1))[j]?=φ x:=by rw[Akl,if_pos hj,Ag4,e1]
       rw[lT] at hx;rw[List.getElem?_map] at hx
       obtain⟨z,_,rfl⟩:=Aef.1 hx;cases e3;rfl
     ·rfl
end Go.Jn
namespace Go.Jn
open Go Go.Proofs Go.Sim Go.Conc Go.Tw
def ahA:∃o,qP[0]?=φ o/\o.op=.move (.tmp 9)/\o.dst=φ 34/\o.guard=ν:=⟨_,rfl,rfl,rfl,rfl⟩
def ahB:∃o,qP[1]?=φ o/\o.op=.move (.tmp 10)/\o.dst=φ 35/\o.guard=ν:=⟨_,rfl,rfl,rfl,rfl⟩
def ahC:∃o,qP[2]?=φ o/\o.op=.buildSlice 33 1 #[(0,.tmp 35)]/\o.dst=φ 36/\o.guard=ν:=⟨_,rfl,rfl,rfl,rfl⟩
def ahD:∃o,qP[3]?=φ o/\o.op=.call {callee:=.builtin .append,args:=#[.tmp 34,.tmp 36],argTypes:=#[33,33]}/\o.dst=φ 37/\o.guard=ν:=⟨_,rfl,rfl,rfl,rfl⟩
def ahE:∃o,qP[4]?=φ o/\o.op=.assign (.tmp 37)/\o.dst=φ 9/\o.guard=ν:=⟨_,rfl,rfl,rfl,rfl⟩
def TW:qP.size=5:=rfl
def ajp{id:Nat}{ops:Array Ϝ}{d:Bool}(h:C0.clean (.region id ops d)){i:Nat}{o:Ϝ}(ho:ops[i]?=φ o):j7 ϋ G0 o=θ:=by
 have h:cr ϋ G0 (.region id ops d)=θ:=h;have h:ops.all (j7 ϋ G0)=θ:=by
  unfold cr at h;simpa using h
 exact Aal.1 h o (Aax ho)
def ako{P:ϑ}{tl:Array υ}{w aa:Ψ}{o:Ϝ}{v v' x:υ}(ho:o.op=.call {callee:=.builtin .append,args:=#[.tmp 34,.tmp 36],argTypes:=#[33,33]})(Fi:tl.getD 34 ω=v)(Fj:tl.getD 36 ω=x)
 (hr:(Builtin.append_ #[33,33] o.type #[v,x]).run P w=.ok v' aa):(execOp (aS tl) o).run P w=.ok (.value v') aa:=by
 have e1:aS tl (.tmp 34)=v:=Fi;have e2:aS tl (.tmp 36)=x:=Fj;unfold execOp;rw[ho]
 simp only[resolve,Aki,Akj,Akk,e1,e2];show((Builtin.append_ #[33,33] o.type #[v,x]).bind λv=>Akd (Next.value v)).run P w=_
 rw[run_bind,hr];rfl
section
variable {b:ao}{ρ:Ren}{wl wB:Ψ}{pv bv tv:υ}{B lb l6 l7 bk p6 p7 cN cL n N0 NB NR:Nat}
def St.to2{M M':Sim.aaa}{w bq:Ψ}(h:(St b ρ wl pv bv tv B lb l6 l7 bk p6 p7 cN cL n NB wB) M w)(hr:∀a q,ρ a q->q<NR)(hN:NB<=NR)(hs:w.heap.size<=bq.heap.size)(hk:∀q,M.has q->q<NR->bq.heap[q]?=w.heap[q]?)(hM:∀q,M.has q->M'.has q)(hl:∀q,M'.has q->q<bq.heap.size)(hc:¬M'.has cN/\¬M'.has cL):(St b ρ wl pv bv tv B lb l6 l7 bk p6 p7 cN cL n NB wB) M' bq:=by
 obtain⟨⟨core,gL,nb,has,fixed,rb,r6,r7,hB,book,c0,c1,c2,c3⟩,low,m6,m7,mb,h6,h7,⟨bc,e,fb,A,c,ae,ak⟩,old,gy,nc,lc⟩:=h;exact⟨⟨ta core hs λa q hq=>hk q (has a q hq) (hr a q hq),gL,nb,λa q hq=>hM q (has a q hq),fixed,rb,r6,r7,hB,book,c0,c1,c2,c3⟩,hl,hM _ m6,hM _ m7,hM _ mb,(hk _ m6 (hr _ _ r6)).trans h6,(hk _ m7 (hr _ _ r7)).trans h7,⟨bc,e,fb,A,c,(hk _ mb (hr _ _ rb)).trans ae,ak⟩,
  λq hq=>⟨hM q (old q hq).1,(hk q (old q hq).1 (by omega)).trans (old q hq).2⟩,Ϥ gy hs,hc,Ϡ lc.1 hs,Ϡ lc.2 hs⟩
structure RI(NR:Nat)(az:List Nat)(t:Array υ)(M:Sim.aaa)(w:Ψ):Prop where
 own:∃ov,t[9]?=φ ov/\w.ownsRow NR 3 1 ov az.length ((az.map λi:Nat=>(i:Int)).map (ξ κ))/\∀g k c,ov=ζ (φ g) k c->M.O g.block
 le:NR<=w.heap.size
 nz:az=[]->t[9]?=φ (ζ ν 0 0)
def Pb{w aa:Ψ}{base n:Nat}{v:υ}{xs:List υ}(h:w.ownsRow base 3 1 v n xs)(hk:∀g k c,v=ζ (φ g) k c->aa.heap[g.block]?=w.heap[g.block]?):aa.ownsRow base 3 1 v n xs:=by
 refine⟨h.1,?_⟩
 rcases h.2 with h0| ⟨g,cap,cur,rfl,nC,hg,h4⟩
 ·exact .inl h0
 ·exact .inr ⟨g,cap,cur,rfl,nC,(hk _ _ _ rfl).trans hg,h4⟩
def RI.keep{az:List Nat}{t t':Array υ}{M:Sim.aaa}{w aa:Ψ}(h:RI NR az t M w)(k:bN M w aa)(ht:t'[9]?=t[9]?):RI NR az t' M aa:=by
 obtain⟨⟨ov,h1,h2,h3⟩,hle,hz⟩:=h;exact⟨⟨ov,ht.trans h1,Pb h2 λg k' c e=>k.kept _ (.inl (h3 g k' c e)),h3⟩,Ϥ hle k.size,λe=>ht.trans (hz e)⟩
def Pt(ρ:Ren)(c:Array υ)(m:Nat)(xs:List Int)(h:c.toList.take (m * 1)=xs.map (ξ κ)):∃u:Array υ,aP ρ u c/\u.toList.take (m * 1)=xs.map (ξ κ):=by
 have key:∀i:Fin c.size,∃u,ah ρ u c[i.1]/\(i.1<m->u=c[i.1]):=by
  intro i;by_cases hi:i.1<m
  ·have hx:(c.toList.take (m * 1))[i.1]?=φ c[i.1]:=by
    rw[Akl,if_pos (by omega),Ag4,Aaz i.2]
   rw[h,List.getElem?_map] at hx
   obtain⟨z,_,e⟩:=Aef.1 hx;exact⟨c[i.1],by rw[<-e];exact .int _ _,λ_=>rfl⟩
  ·obtain⟨u,hu⟩:=rB ρ c[i.1]
   exact⟨u,hu,λh=>absurd h hi⟩
 refine⟨Ajv λi=>Aa6 (key i),⟨by simp,λi h1 h2=>?_⟩,?_⟩
 ·rw[Ajw]
  exact(Aa7 (key ⟨i,h2⟩)).1
 ·rw[<-h]
  apply List.ext_getElem?;intro j;rw[Akl,Akl]
  split
  ·rename_i hj
   rw[Ag4,Ag4,Ajx]
   split
   ·rename_i al
    rw[(Aa7 (key ⟨j,al⟩)).2 (by simpa using hj),Aaz al]
   ·rename_i al
    rw[Aan (by omega)]
  ·rfl
end
end Go.Jn
namespace Go.Jn
open Go Go.Proofs Go.Sim Go.Conc Go.Tw
def af9:∃i,ϋ.info? 3=φ i/\i.zero=φ (ξ κ 0)/\i.size=1/\i.bytes=8:=⟨_,rfl,rfl,rfl,rfl⟩
def ints(az:List Nat):List Int:=az.map λi:Nat=>(i:Int)
def agj(az:List Nat)(i:Nat):(ints az).map (ξ κ)++ [ξ κ i]=(ints (az++ [i])).map (ξ κ):=by simp[ints]
section
variable {b:ao}{ρ:Ren}{wl wB:Ψ}{pv bv tv:υ}{B lb l6 l7 bk p6 p7 cN cL n N0 NB NR:Nat}
def ag4{M:Sim.aaa}{w:Ψ}(h:(St b ρ wl pv bv tv B lb l6 l7 bk p6 p7 cN cL n NB wB) M w)(hr:∀a q,ρ a q->q<NR){az:List Nat}{ov:υ}{q i:Nat}(ho:w.ownsRow NR 3 1 ov az.length ((ints az).map (ξ κ)))(hO:∀g k c,ov=ζ (φ g) k c->M.O g.block/\g.block≠q)
 (hq:w.heap[q]?=φ (Ξ #[ξ κ i] 3))(AE:M.O q)(Hw:NR<=q):
 ∃(bM:Ren) (fR:Ψ) (ol:υ) (lq:Nat),bV C0 bM fR w/\ρ.le bM/\(∀a p,bM a p->ρ a p\/(wl.heap.size<=a/\NR<=p/\M.O p))/\ah bM ol ov/\fR.ownsRow wl.heap.size 3 1 ol az.length ((ints az).map (ξ κ))/\bM lq q/\
  fR.heap[lq]?=φ (Ξ #[ξ κ i] 3)/\(∀(a:Nat) (o:Obj),wl.heap[a]?=φ o->fR.heap[a]?=φ o)/\wl.heap.size<=fR.heap.size:=by
 have eJ:=uP (o:=.cells #[ξ κ i] 3) h.lw.core hq (λa ha=>by have:=hr a q ha;omega) (.cells 3 ⟨rfl,λj h1 h2=>by
  have:j=0:=by simp at h1;omega
  subst this;exact .int _ _⟩ (.inl rfl))
 rcases ho.2 with⟨rfl,h0⟩ | ⟨g,cap,cur,rfl,nC,hg,dX,kZ,fg,lT⟩
 ·refine⟨_,_,ζ ν 0 0,_,eJ,xj _ _ _,?_,.sliceNone 0 0,⟨ho.1,.inl ⟨rfl,h0⟩⟩,.inr ⟨rfl,rfl⟩,jO,λa o ha=>(kB (Ϟ.1 ha).1).trans ha,by rw[eM];omega⟩
  rintro a p (ha| ⟨rfl,rfl⟩)
  ·exact .inl ha
  ·exact .inr ⟨ϊ _,Hw,AE⟩
 ·obtain⟨Ul,Um⟩:=hO _ _ _ rfl
  simp only at Ul Um;obtain⟨u,hu,Ke⟩:=Pt (ext (ext ρ wl.heap.size q) (wl.alloc (Ξ #[ξ κ i] 3)).heap.size g) cur az.length (ints az) lT;have jw:=uP (o:=.cells u 3) eJ hg (λa ha=>by
   rcases ha with ha| ⟨_,e⟩
   ·have:=hr a g ha;omega
   ·exact Um e) (.cells 3 hu (.inl rfl))
  refine⟨_,_,ζ (φ ⟨(wl.alloc (Ξ #[ξ κ i] 3)).heap.size,0,ν⟩) az.length cap,wl.heap.size,jw,Ren.le_trans (xj _ _ _) (xj _ _ _),?_,.slice _ _ ⟨.inr ⟨rfl,rfl⟩,rfl,rfl⟩,⟨ho.1,.inr ⟨_,cap,u,rfl,by rw[eM];omega,jO,dX,kZ,hu.1.trans fg,Ke⟩⟩,.inl (.inr ⟨rfl,rfl⟩),(kB (by rw[eM];omega)).trans jO,
   λa o ha=>(kB (by rw[eM];have:=(Ϟ.1 ha).1;omega)).trans ((kB (Ϟ.1 ha).1).trans ha),by rw[eM,eM];omega⟩
  rintro a p ((ha| ⟨rfl,rfl⟩) | ⟨rfl,rfl⟩)
  ·exact .inl ha
  ·exact .inr ⟨ϊ _,Hw,AE⟩
  ·exact .inr ⟨by rw[eM];omega,nC,Ul⟩
def ac9{c:Array υ}(hc:c.size≠0):¬lC (.cells c 3 (0,0)):=by
 rintro⟨_,h⟩;have h:c.size<=0:=h;omega
def amX{Stop:Sim.aaa->ώ->Ψ->Prop}{main:Bool}{M:Sim.aaa}{w:Ψ}(h:(St b ρ wl pv bv tv B lb l6 l7 bk p6 p7 cN cL n NB wB) M w)(hr:∀a q,ρ a q->q<NR)(hN:NB<=NR)(Df:NR<=w.heap.size){az:List Nat}(qm:az.length<=1000){ov:υ}{q i:Nat}(ho:w.ownsRow NR 3 1 ov az.length ((ints az).map (ξ κ)))(hO:∀g k c,ov=ζ (φ g) k c->M.O g.block/\g.block≠q)
 (hq:w.heap[q]?=φ (Ξ #[ξ κ i] 3))(AE:M.O q)(Hw:NR<=q){t:Array υ}(t34:t[34]?=φ ov)(t36:t[36]?=φ (ζ (φ ⟨q,0,ν⟩) 1 1)){k:List Ajz}{cs:List Ϙ}{rest:List Nat}
 (cont:∀v' bS aA,(St b ρ wl pv bv tv B lb l6 l7 bk p6 p7 cN cL n NB wB) bS aA->aA.ownsRow NR 3 1 v' (az++ [i]).length ((ints (az++ [i])).map (ξ κ))->(∀g k c,v'=ζ (φ g) k c->bS.O g.block)->NR<=aA.heap.size->Walk ϋ main Stop bS (rg 38 (ay t (φ 37) v') (.inRegion qP rest::k) [] .normal cs) aA):
 Walk ϋ main Stop M (rg 38 t (.inRegion qP (3::rest)::k) [] .normal cs) w:=by
 obtain⟨bM,fR,ol,lq,hW,hle,hinv,hv,aG,hlq,hcq,hold,aI⟩:=ag4 h hr ho hO hq AE Hw;obtain⟨u0,EX⟩:=Mb bM t;have Od:=SR EX hv t34;have hu2:=SR Od (i:=36) (v:=ζ (φ ⟨lq,0,ν⟩) 1 1) (v':=ζ (φ ⟨q,0,ν⟩) 1 1) (.slice 1 1 ⟨hlq,rfl,rfl⟩) t36;have afx:34<t.size:=(Ϟ.1 t34).1
 have afy:36<t.size:=(Ϟ.1 t36).1
 have l36:((u0.setIfInBounds 34 ol).setIfInBounds 36 (ζ (φ ⟨lq,0,ν⟩) 1 1)).getD 36 ω=ζ (φ ⟨lq,0,ν⟩) 1 1:=cJ (tY (by rw[Aem,EX.1];exact afy))
 have l34:((u0.setIfInBounds 34 ol).setIfInBounds 36 (ζ (φ ⟨lq,0,ν⟩) 1 1)).getD 34 ω=ol:=cJ ((bL (by omega)).trans (tY (by rw[EX.1];exact afx)))
 obtain⟨o,oB,ab,hd,hg⟩:=ahD;obtain⟨ti,lU,hz,hs,ES⟩:=af9;have hf:Fits M bM fR:=by
  intro a p hp;rcases hinv a p hp with hp| ⟨_,_,hp⟩
  ·obtain⟨o,h1,h2⟩:=h.lw.fixed a p hp
   rcases h.lw.has a p hp with hx|hx
   ·exact .inl hx
   ·exact .inr ⟨hx,o,hold a o h1,h2⟩
  ·exact .inl hp
 refine Yb (M:=M) (ρ:=bM) (wl:=fR) (QL:=λv aa=>aa.ownsRow wl.heap.size 3 1 v (az++ [i]).length ((ints (az++ [i])).map (ξ κ))) GJ oB (bI hg) rfl (ajp aar oB) hu2 hW (λg oy=>?_) hf h.low (λT=>?_) ?_
 ·have:g=0:=by simpa [G0] using oy
  subst this;exact hle _ _ h.lw.gL
 ·have au:(aZ fR T).cell? ⟨lq,0,ν⟩=φ (ξ κ i):=lL (w:=aZ fR T) hcq rfl rfl
  obtain⟨v',w',h1,h2,h3,h4⟩:=run_append_own (P:=tw ϋ (@Tw.F iQ)) (w:=aZ fR T) wl.heap.size 33 o.type 3 ti (ξ κ 0) 1 8 (by rw[jH];rfl) (by rw[ly];exact lU) hz hs ES rfl (by omega) ol az.length ((ints az).map (ξ κ)) aG ⟨lq,0,ν⟩ 1 1 [ξ κ i] rfl
   (λj u hu=>by
     cases j with
     |zero=>simp at hu;subst hu;exact au
     |succ j=>simp at hu) (λu hu=>by simp at hu;subst hu;rfl) (by unfold maxLen;omega) (by omega) aI
  refine⟨v',w',ako ab l34 l36 h1,?_⟩
  rw[agj] at h2;rw[List.length_append];exact h2
 ·intro v v' wy aE bS aA tH vC eJ bY gM DM
  have hb:∀a p,wl.heap.size<=a->aE a p->NR<=p:=by
   intro a p ha hp;rcases bY.new a p hp with hp| ⟨_,hp⟩
   ·rcases hinv a p hp with hp| ⟨_,hp,_⟩
    ·have:=h.lw.core.dA a p hp;omega
    ·exact hp
   ·omega
  obtain⟨cK,a1,q1,anH,rfl,rfl,ye,anO,ff,ic⟩:=Wv eJ vC tH (by simp) hb
  have kept:∀p,M.has p->p<NR->aA.heap[p]?=w.heap[p]?:=by
   intro p hp al;refine bY.im p hp λa ha=>?_
   rcases hinv a p ha with ha| ⟨_,hx,_⟩
   ·obtain⟨o,h1,h2⟩:=h.lw.fixed a p ha
    exact⟨o,hold a o h1,h2⟩
   ·omega
  have nc:∀c,¬M.has c->c<w.heap.size->¬bS.has c:=by
   intro c h1 h2 hx;rcases hx with hx|hx
   ·rcases bY.On c hx with hx| ⟨hx,_⟩
    ·exact h1 (.inl hx)
    ·omega
   ·rw[bY.R] at hx;exact h1 (.inr hx)
  have fU:(St b ρ wl pv bv tv B lb l6 l7 bk p6 p7 cN cL n NB wB) bS aA:=h.to2 hr hN bY.fQ kept (λp hp=>aaa.tx bY.R bY.O hp) DM ⟨nc _ h.nc.1 h.lc.1,nc _ h.nc.2 h.lc.2⟩
  rw[hd];refine cont _ bS aA fU cK (λg k c e=>?_) (Ϥ Df bY.fQ)
  cases e;rcases gM _ _ ye with hx| ⟨_,o,Ht,fo⟩
  ·exact hx
  ·rw[ff] at Ht;cases Ht
   exact absurd fo (ac9 ic)
end
end Go.Jn
namespace Go.Jn
open Go Go.Proofs Go.Sim Go.Conc Go.Tw
def Co:ϖ:=a8 pR
def Gb:pR=.seq (.region 13 tU χ) Co:=rfl
def Ri:Co=.seq (.cond (.tmp 32) .skip (.exit 2)) (.block 3 (.seq (.region 14 IL χ) (.region 15 qP χ))):=rfl
section
variable {b:ao}{ρ:Ren}{wl wB:Ψ}{pv bv tv:υ}{B lb l6 l7 bk p6 p7 cN cL n N0 NB NR:Nat}{eU:Nat->Bool}{cs:List Ϙ}
def Kn(NR NB:Nat)(wB:Ψ)(cs:List Ϙ)(az:List Nat)(M:Sim.aaa)(g:ώ)(w:Ψ):Prop:=
 ∃(t:Array υ) (z:υ),g=rg 38 t [.inRegion tU [1],.code Co,.inLoop pR,.inBlock 2,.code re] [] .normal cs/\t.size=41/\t[31]?=φ (μ #[z,.bool χ])/\RI NR az t M w/\
  (∀q,q<NB->w.heap[q]?=wB.heap[q]?)/\NB<=w.heap.size
def Xh{t:Array υ}{v:υ}{ok:Bool}{k:List Ajz}:Ϭ (rg 38 t (.inRegion tU [0,1]::k) [] .normal cs) (recvd θ v ok)=rg 38 (t.setIfInBounds 31 (μ #[v,.bool ok])) (.inRegion tU [1]::k) [] .normal cs:=by
 obtain⟨o,ho,ab,hd,hg⟩:=OS;simp[Ϭ,Acj,ho,hd,recvd]
def SV{t:Array υ}{M:Sim.aaa}{w:Ψ}{az:List Nat}{z:υ}(hs:t.size=41)(hR:RI NR az t M w)(hS:(St b ρ wl pv bv tv B lb l6 l7 bk p6 p7 cN cL n NB wB) M w):
 Kn NR NB wB cs az M (Ϭ (rg 38 t (.inRegion tU [0,1]:: [.code Co,.inLoop pR,.inBlock 2,.code re]) [] .normal cs) (recvd θ z χ)) w:=by
 refine⟨_,z,Xh,by simp[hs],tY (by omega),?_,λq hq=>(hS.old q hq).2,hS.nb⟩
 exact hR.keep (bN.refl M w) (bL (by omega))
def recvs(hr:∀a q,ρ a q->q<NR)(hN:NB<=NR)(hn:n<=1000):∀(f:Nat) (az:List Nat) (t:Array υ) (M:Sim.aaa) (w:Ψ),f+az.length=n->t.size=41->t[30]?=φ (.chan (φ cN))->RI NR az t M w->(St b ρ wl pv bv tv B lb l6 l7 bk p6 p7 cN cL n NB wB) M w->
 Walk ϋ θ (nj (Pm.mk ϋ n N0 cL cN eU X0 (Kn NR NB wB cs)) f az) M (rg 38 t [.code pR,.inLoop pR,.inBlock 2,.code re] [] .normal cs) w:=by
 intro f;induction f with
 |zero=>
  intro az t M w hf hs t30 hR hS;rw[Gb];refine fF (gH ?_)
  rw[WX];obtain⟨o,ho,ab,hd,hg⟩:=OS;obtain⟨dir,hu⟩:=BG;obtain⟨ti,lU,hz,_⟩:=Ig;rw[<-Gb];refine .stop λaa hk=>⟨rfl,rfl,_,FG ho (bI hg) rfl (PB t aa ab (cJ t30) hu lU hz),?_⟩
  exact SV hs (hR.keep hk rfl) (hS.keep hk)
 |succ f ih=>
  intro az t M w hf hs t30 hR hS;rw[Gb];refine fF (gH ?_)
  rw[WX];obtain⟨o,ho,ab,hd,hg⟩:=OS;obtain⟨dir,hu⟩:=BG;obtain⟨ti,lU,hz,_⟩:=Ig;rw[<-Gb];refine .stop λaa hk=>⟨rfl,rfl,_,FG ho (bI hg) rfl (PB t aa ab (cJ t30) hu lU hz),SV hs (hR.keep hk rfl) (hS.keep hk),λi hi UW aoF=>?_⟩
  show Walk ϋ θ (nj (Pm.mk ϋ n N0 cL cN eU X0 (Kn NR NB wB cs)) f (az++ [i])) M (Ϭ (rg 38 t (.inRegion tU [0,1]:: [.code Co,.inLoop pR,.inBlock 2,.code re]) [] .normal cs) (recvd θ (ξ κ i) θ)) aa;rw[Xh];have oq:=hR.keep (t':=t.setIfInBounds 31 (μ #[ξ κ i,.bool θ])) hk (bL (by omega))
  have fU:=hS.keep hk;have zX:(t.setIfInBounds 31 (μ #[ξ κ i,.bool θ]))[31]?=φ (μ #[ξ κ i,.bool θ]):=tY (by omega)
  have Mt:(t.setIfInBounds 31 (μ #[ξ κ i,.bool θ]))[30]?=φ (.chan (φ cN)):=(bL (by omega)).trans t30
  have cZ:(t.setIfInBounds 31 (μ #[ξ κ i,.bool θ])).size=41:=by simp[hs]
  clear hR hS ho ab hd hg
  revert oq fU zX Mt cZ
  generalize t.setIfInBounds 31 (μ #[ξ κ i,.bool θ])=t1;generalize aa=w at *;intro oq fU zX Mt cZ;obtain⟨o,ho,ab,hd,hg⟩:=afd;refine du (v:=.bool θ) ho (bI hg) rfl (λaa _=>⟨_,Ft t1 aa ab (cJ zX) rfl,cS⟩) ?_
  rw[hd];refine iA ?_
  rw[Ri];refine fF (Bl (q:=θ) (ib (by omega)) (Qq (BL (fF (gH ?_)))))
  rw[V5];have MB:=oq.keep (t':=ay t1 (φ 32) (.bool θ)) (bN.refl M w) (bL (by omega))
  have Ov:(ay t1 (φ 32) (.bool θ))[31]?=φ (μ #[ξ κ i,.bool θ]):=(bL (by omega)).trans zX
  have Ou:(ay t1 (φ 32) (.bool θ))[30]?=φ (.chan (φ cN)):=(bL (by omega)).trans Mt
  have js:(ay t1 (φ 32) (.bool θ)).size=41:=by simp[ay,cZ]
  revert MB Ov Ou js
  generalize ay t1 (φ 32) (.bool θ)=t2;intro MB Ov Ou js;obtain⟨o,ho,ab,hd,hg⟩:=ahy;refine du (v:=ξ κ i) ho (bI hg) rfl (λaa _=>⟨_,Ft t2 aa ab (cJ Ov) rfl,cS⟩) ?_
  rw[hd];have qR:=MB.keep (t':=ay t2 (φ 33) (ξ κ i)) (bN.refl M w) (bL (by omega))
  have OF:aS (ay t2 (φ 33) (ξ κ i)) (.tmp 33)=ξ κ i:=ib (by omega)
  have yv:(ay t2 (φ 33) (ξ κ i))[30]?=φ (.chan (φ cN)):=(bL (by omega)).trans Ou
  have ks:(ay t2 (φ 33) (ξ κ i)).size=41:=by simp[ay,js]
  revert qR OF yv ks
  generalize ay t2 (φ 33) (ξ κ i)=t3;intro qR OF yv ks;obtain⟨o,ho,ab,hd,hg⟩:=ahz;refine du ho (bI hg) rfl (λaa _=>⟨_,(run_assign t3 aa ab).trans (by rw[OF]),cS⟩) ?_
  rw[hd];have MD:=qR.keep (t':=ay t3 (φ 10) (ξ κ i)) (bN.refl M w) (bL (by omega))
  have V8:aS (ay t3 (φ 10) (ξ κ i)) (.tmp 10)=ξ κ i:=ib (by omega)
  have OX:(ay t3 (φ 10) (ξ κ i))[10]?=φ (ξ κ i):=tY (by omega)
  have n30:(ay t3 (φ 10) (ξ κ i))[30]?=φ (.chan (φ cN)):=(bL (by omega)).trans yv
  have ns:(ay t3 (φ 10) (ξ κ i)).size=41:=by simp[ay,ks]
  revert MD V8 OX n30 ns
  generalize ay t3 (φ 10) (ξ κ i)=t4;intro MD V8 OX n30 ns;obtain⟨⟨ov,u9,aG,hO⟩,hle,_⟩:=MD;refine iA (gH ?_)
  rw[TW];obtain⟨o,ho,ab,hd,hg⟩:=ahA;have e9:aS t4 (.tmp 9)=ov:=cJ u9;refine du ho (bI hg) rfl (λaa _=>⟨_,(run_move t4 aa ab).trans (by rw[e9]),cS⟩) ?_
  rw[hd];have Lj:(ay t4 (φ 34) ov)[34]?=φ ov:=tY (by omega)
  have Lh:aS (ay t4 (φ 34) ov) (.tmp 10)=ξ κ i:=cJ ((bL (by omega)).trans OX)
  have Li:(ay t4 (φ 34) ov)[30]?=φ (.chan (φ cN)):=(bL (by omega)).trans n30
  have Ls:(ay t4 (φ 34) ov).size=41:=by simp[ay,ns]
  revert Lj Lh Li Ls
  generalize ay t4 (φ 34) ov=t5;intro Lj Lh Li Ls;obtain⟨o,ho,ab,hd,hg⟩:=ahB;refine du ho (bI hg) rfl (λaa _=>⟨_,(run_move t5 aa ab).trans (by rw[Lh]),cS⟩) ?_
  rw[hd];have LF:(ay t5 (φ 35) (ξ κ i))[34]?=φ ov:=(bL (by omega)).trans Lj
  have jd:(ay t5 (φ 35) (ξ κ i)).getD 35 ω=ξ κ i:=ib (by omega)
  have LD:(ay t5 (φ 35) (ξ κ i))[30]?=φ (.chan (φ cN)):=(bL (by omega)).trans Li
  have bh:(ay t5 (φ 35) (ξ κ i)).size=41:=by simp[ay,Ls]
  revert LF jd LD bh
  generalize ay t5 (φ 35) (ξ κ i)=t6;intro LF jd LD bh;obtain⟨o,ho,ab,hd,hg⟩:=ahC;refine BN ho (bI hg) rfl λaa dg=>⟨_,_,_,.inl (akq t6 aa ab jd rfl),xe,?_⟩
  rw[hd];have Dg:=(fU.keep dg).alloc (Ξ #[ξ κ i] 3);have yo:NR<=aa.heap.size:=Ϥ hle dg.size;have cK:=Pb (aa:=aa.alloc (Ξ #[ξ κ i] 3)) aG λg k c e=>(kB (Ϡ (fU.low _ (.inl (hO g k c e))) dg.size)).trans (dg.kept _ (.inl (hO g k c e)))
  have Pl:∀g k c,ov=ζ (φ g) k c->(M.grow aa (aa.alloc (Ξ #[ξ κ i] 3))).O g.block/\g.block≠aa.heap.size:=λg k c e=>⟨.inl (hO g k c e),by have:=fU.low _ (.inl (hO g k c e));have:=dg.size;omega⟩
  have AE:(M.grow aa (aa.alloc (Ξ #[ξ κ i] 3))).O aa.heap.size:=.inr ⟨ϊ _,by rw[eM];omega⟩
  have d34:(ay t6 (φ 36) (ζ (φ ⟨aa.heap.size,0,ν⟩) 1 1))[34]?=φ ov:=(bL (by omega)).trans LF
  have d36:(ay t6 (φ 36) (ζ (φ ⟨aa.heap.size,0,ν⟩) 1 1))[36]?=φ (ζ (φ ⟨aa.heap.size,0,ν⟩) 1 1):=tY (by omega)
  have d30:(ay t6 (φ 36) (ζ (φ ⟨aa.heap.size,0,ν⟩) 1 1))[30]?=φ (.chan (φ cN)):=(bL (by omega)).trans LD
  have ds:(ay t6 (φ 36) (ζ (φ ⟨aa.heap.size,0,ν⟩) 1 1)).size=41:=by simp[ay,bh]
  refine amX Dg hr hN (by rw[eM];omega) (by omega) cK Pl jO AE yo d34 d36 ?_
  revert d30 ds
  generalize ay t6 (φ 36) (ζ (φ ⟨aa.heap.size,0,ν⟩) 1 1)=t7;intro d30 ds v' pU aq MF tG Pn aeY;obtain⟨o,ho,ab,hd,hg⟩:=ahE;have EZ:aS (ay t7 (φ 37) v') (.tmp 37)=v':=ib (by omega)
  have f30:(ay t7 (φ 37) v')[30]?=φ (.chan (φ cN)):=(bL (by omega)).trans d30
  have fs:(ay t7 (φ 37) v').size=41:=by simp[ay,ds]
  refine du ho (bI hg) rfl (λaa _=>⟨_,(run_assign (ay t7 (φ 37) v') aa ab).trans (by rw[EZ]),cS⟩) ?_
  rw[hd];refine iA (Qn (Qo ?_))
  exact ih (az++ [i]) _ pU aq (by simp;omega) (by simp[ay,ds]) ((bL (by omega)).trans f30) ⟨⟨v',tY (by omega),tG,Pn⟩,aeY,λe=>by simp at e⟩ MF
end
end Go.Jn
namespace Go.Jn
open Go Go.Proofs Go.Sim Go.Conc Go.Tw Go.RowKit
attribute [local go_sem] ze K0 Oper.semAt_some
def FU(lb:Nat)(e:Exit)(a:Act)(_:Ψ):Prop:=e=.normal/\a.defers=[cQ]/\a.tmps.size=41/\a.tmps[1]?=φ (π (φ ⟨lb,0,ν⟩))
section
variable [Go.Tw.aR]
def ahead{w:Ψ}{b:ao}{pv bv tv:υ}{B lb:Nat}{x0:υ}(hB:B<=w.heap.size)(ai:bg w B b pv bv tv)(h:cj b 0=0)
 (c0: w.cell? ⟨lb,0,ν⟩=φ (ξ κ b.ag))(c1: w.cell? ⟨lb,1,ν⟩=φ pv)(c2: w.cell? ⟨lb,2,ν⟩=φ bv)(c3: w.cell? ⟨lb,3,ν⟩=φ tv)(ae:lb<w.heap.size):
 eX prog [pT] (FU lb)
  ⟨(x0:: π (φ ⟨lb,0,ν⟩):: ζ ν 0 0:: ξ κ 0::ω::ω::ω::ω::ω::ω::ω::ω::ω::ω::ω::ω::ω::ω::ω::ω::ω::ω::ω::ω::ω::ω::ω::ω::ω::ω::ω::ω::ω::ω::ω::ω::ω::ω::ω::ω::ω:: []).toArray,[cQ]⟩ w:=by
 have aB:=ψ (PO hB ai h);obtain⟨A1,n1,k1,rfl,-⟩:=ai.pieces.Φ;obtain⟨A2,n2,k2,rfl,-⟩:=ai.aF.Φ;obtain⟨A3,n3,k3,rfl,-⟩:=ai.aJ.Φ;clear ai h;unfold eX eX;rw[then_self];refine(wpIn_wide (n:=0)).1 ?_
 simp only[pT,zJ,Tryz.f38,bO,a8,Akq]
 gi_wp2_with (first
  | (gi_at_call 119;refine(callsIn_wide.2 aB.e).mono ?_;rintro e w1 ⟨sv,g,rfl,aG,da,hg,ae⟩
     obtain⟨A9,m9,c9,rfl⟩:=j8 aG;have aN:w.heap.size<=w1.heap.size:=ae.size;clear ae aG da hg))
 exact⟨rfl,rfl,rfl,rfl⟩
def ahc(u:Array υ)(h:u.size=41):∃x0 x1 x2 x3 x4 x5 x6 x7 x8 x9 Jq Jr Js Jt Ju Jv Jw Jx Jy Jz JA JB JC JD JE JF JG JH JI JJ JK JL JM JN JO JP JQ JR JS JU JV:υ,u=(x0::x1::x2::x3::x4::x5::x6::x7::x8::x9::Jq::Jr::Js::Jt::Ju::Jv::Jw::Jx::Jy::Jz::JA::JB::JC::JD::JE::JF::JG::JH::JI::JJ::JK::JL::JM::JN::JO::JP::JQ::JR::JS::JU::JV:: []).toArray:=by
 obtain⟨l⟩:=u;simp only[List.size_toArray] at h;match l,h with
 |x0::x1::x2::x3::x4::x5::x6::x7::x8::x9::Jq::Jr::Js::Jt::Ju::Jv::Jw::Jx::Jy::Jz::JA::JB::JC::JD::JE::JF::JG::JH::JI::JJ::JK::JL::JM::JN::JO::JP::JQ::JR::JS::JU::JV:: [],_=>exact⟨x0,x1,x2,x3,x4,x5,x6,x7,x8,x9,Jq,Jr,Js,Jt,Ju,Jv,Jw,Jx,Jy,Jz,JA,JB,JC,JD,JE,JF,JG,JH,JI,JJ,JK,JL,JM,JN,JO,JP,JQ,JR,JS,JU,JV,rfl⟩
def alz{w:Ψ}{base n:Nat}{ol:υ}{zs:List Int}(ho:w.ownsRow base 3 1 ol n (zs.map (ξ κ)))(hn:n<=100000)(hb:base<=w.heap.size){u:Array υ}(hu:u.size=41)(h9:u[9]?=φ ol):
 (Code.region 16 Bg χ).wp prog (λe a w'=>(e=.normal/\a.defers=[cQ]\/e=.ret)/\(e=.normal/\a.tmps.size=41/\a.tmps[9]?=φ ol/\w'.ownsRow base 3 1 ol n ((ga zs).map (ξ κ)))) ⟨u,[cQ]⟩ w:=by
 have aB:=ψ (PW ho hn hb);obtain⟨x0,x1,x2,x3,x4,x5,x6,x7,x8,x9,Jq,Jr,Js,Jt,Ju,Jv,Jw,Jx,Jy,Jz,JA,JB,JC,JD,JE,JF,JG,JH,JI,JJ,JK,JL,JM,JN,JO,JP,JQ,JR,JS,JU,JV,rfl⟩:=ahc u hu;cases h9;clear ho hu;refine(wpIn_wide (n:=0)).1 ?_
 simp only[Bg,re,ub,vZ,nP,zJ,Tryz.f38,bO,a8,opsOf,Akq]
 gi_wp2_with (first
  | (gi_at_call 101;refine(callsIn_wide.2 aB.e).mono ?_;rintro e w1 ⟨rfl,aG,ae⟩
     have HO:=ψ aG;clear aG ae))
 exact HO.e
end
end Go.Jn
namespace Go.Jn
open Go Go.Proofs Go.Sim Go.Conc Go.Tw
def allM(w:Ψ):Sim.aaa:=⟨λq=>q<w.heap.size,λ_=>False⟩
def kA{w:Ψ}{q:Nat}:(allM w).has q↔q<w.heap.size:=⟨λh=>h.elim id False.elim,.inl⟩
def zF{C:bQ}{ρ:Ren}{wl w:Ψ}(h:bV C ρ wl w):Fits (allM w) ρ wl:=λa q hq=>.inl (h.dc a q hq)
structure J5(b:ao)(σ:Ren)(wl:Ψ)(pv bv tv:υ)(B:Nat)(arg:υ)(w:Ψ):Prop where
 core:bV C0 σ wl w
 gL:σ 0 0
 nb:bJ wl.heap
 fixed:∀a q,σ a q->∃o,wl.heap[a]?=φ o/\lC o
 hB:B<=wl.heap.size
 book:bg wl B b pv bv tv
 arg:ah σ (η #[ξ κ b.ag,pv,bv,tv]) arg
def WE{σ:Ren}{a b c d x:υ}(h:ah σ (η #[a,b,c,d]) x):∃a' b' c' d',x=η #[a',b',c',d']/\ah σ a a'/\ah σ b b'/\ah σ c c'/\ah σ d d':=by
 cases h with
 | @agg _ x' hx h1=>
   obtain⟨l⟩:=x';simp only[List.size_toArray] at hx;match l,hx,h1 with
   | [a',b',c',d'],_,h1=>exact⟨a',b',c',d',rfl,h1 0 (by simp) (by simp),h1 1 (by simp) (by simp),h1 2 (by simp) (by simp),h1 3 (by simp) (by simp)⟩
def aj5{σ:Ren}{A:Option Addr}{n c:Nat}{x:υ}(h:ah σ (.slice A n c) x):∃A',x=.slice A' n c:=by
 cases h with
 |sliceNone=>exact⟨_,rfl⟩
 |slice=>exact⟨_,rfl⟩
 |sliceDead=>exact⟨_,rfl⟩
structure Le(b:ao)(ρ:Ren)(wl:Ψ)(pv bv tv:υ)(B lb bk n NB:Nat)(wB:Ψ)(w:Ψ):Prop where
 core:bV C0 ρ wl w
 gL:ρ 0 0
 Wc:bJ wl.heap
 fixed:∀a q,ρ a q->∃o,wl.heap[a]?=φ o/\lC o
 rb:ρ lb bk
 hB:B<=wl.heap.size
 book:bg wl B b pv bv tv
 c0: wl.cell? ⟨lb,0,ν⟩=φ (ξ κ b.ag)
 c1: wl.cell? ⟨lb,1,ν⟩=φ pv
 c2: wl.cell? ⟨lb,2,ν⟩=φ bv
 c3: wl.cell? ⟨lb,3,ν⟩=φ tv
 hb:∃bc e fb A c,w.heap[bk]?=φ (.cells bc e fb)/\bc[2]?=φ (.slice A n c)
 old:∀q,q<NB->w.heap[q]?=wB.heap[q]?
 nb:NB<=w.heap.size
def Rq(b:ao)(pv bv tv:υ)(B NB:Nat)(wB:Ψ)(cs:List Ϙ)(_:Sim.aaa)(g:ώ)(w:Ψ):Prop:=
 ∃(t:Array υ) (bk lb:Nat) (ρ:Ren) (wl:Ψ),g=rg 38 t [.code (.seq (.region 4 iP θ) nP)] [] .normal cs/\t.size=41/\t[1]?=φ (π (φ ⟨bk,0,ν⟩))/\Le b ρ wl pv bv tv B lb bk b.aF.length NB wB w
def amh(x p s i:υ):((((#[x]++Θ 40 ω:Array υ).setIfInBounds 1 p).setIfInBounds 2 s).setIfInBounds 3 i)=(x::p::s::i::ω::ω::ω::ω::ω::ω::ω::ω::ω::ω::ω::ω::ω::ω::ω::ω::ω::ω::ω::ω::ω::ω::ω::ω::ω::ω::ω::ω::ω::ω::ω::ω::ω::ω::ω::ω::ω:: []).toArray:=by
 have e:(#[x]++Θ 40 ω:Array υ)=(x::ω::ω::ω::ω::ω::ω::ω::ω::ω::ω::ω::ω::ω::ω::ω::ω::ω::ω::ω::ω::ω::ω::ω::ω::ω::ω::ω::ω::ω::ω::ω::ω::ω::ω::ω::ω::ω::ω::ω::ω:: []).toArray:=by
  apply Array.ext';simp[List.replicate]
 rw[e];simp
def Zs{ρ:Ren}{x0 x:υ}(hx:ah ρ x0 x):aP ρ (#[x0]++Θ 40 ω) (#[x]++Θ 40 ω):=by
 have h1:aP ρ #[x0] #[x]:=⟨rfl,λi h1 h2=>by
  have:i=0:=by simp at h1;omega
  subst this;exact hx⟩
 have h2:aP ρ (Θ 40 ω) (Θ 40 ω):=⟨rfl,λi h1 h2=>by rw[Array.getElem_replicate];exact .undef⟩
 exact bU.append h1 h2
def alK{ρ:Ren}{x0 x p p':υ}(hx:ah ρ x0 x)(hp:ah ρ p p'):
 aP ρ ((((#[x0]++Θ 40 ω:Array υ).setIfInBounds 1 p).setIfInBounds 2 (ζ ν 0 0)).setIfInBounds 3 (ξ κ 0)) (ay (ay (ay (#[x]++Θ 40 ω:Array υ) (φ 1) p') (φ 2) (ζ ν 0 0)) (φ 3) (ξ κ 0)):=by
 have h0:=Zs hx
 revert h0
 generalize (#[x0]++Θ 40 ω:Array υ)=U;generalize (#[x]++Θ 40 ω:Array υ)=V;intro h0;exact((h0.set 1 hp).set 2 (.sliceNone 0 0)).set 3 (.int _ _)
def ag3{b:ao}{wl:Ψ}{pv bv tv x0:υ}{B lb:Nat}(hB:B<=wl.heap.size)(ai:bg wl B b pv bv tv)(h:cj b 0=0)
 (c0: wl.cell? ⟨lb,0,ν⟩=φ (ξ κ b.ag))(c1: wl.cell? ⟨lb,1,ν⟩=φ pv)(c2: wl.cell? ⟨lb,2,ν⟩=φ bv)(c3: wl.cell? ⟨lb,3,ν⟩=φ tv)(ae:lb<wl.heap.size)(T:Tape):
 eX (@Tw.prog iQ) [pT] (FU lb) ⟨((((#[x0]++Θ 40 ω:Array υ).setIfInBounds 1 (π (φ ⟨lb,0,ν⟩))).setIfInBounds 2 (ζ ν 0 0)).setIfInBounds 3 (ξ κ 0)),[cQ]⟩ (aZ wl T):=by
 letI:=iQ
 rw[amh];exact ahead (b:=b) (pv:=pv) (bv:=bv) (tv:=tv) (B:=B) (lb:=lb) (x0:=x0) hB (ai.still λ_ _=>rfl) h c0 c1 c2 c3 ae
def alH{b:ao}{ρ:Ren}{lz wB:Ψ}{pv bv tv:υ}{B lb bk NB:Nat}{M1:Sim.aaa}{w1:Ψ}{cs:List Ϙ}(ab:cj b 0=0)(hP:Le b ρ lz pv bv tv B lb bk b.aF.length NB wB w1)
 (hM:∀q,M1.has q->q<w1.heap.size)(oq:∀a q,ρ a q->M1.O q)(zY:∀q,q<NB->M1.O q){u T:Array υ}(Eb:aP ρ u T)(hl:∀T,eX (@Tw.prog iQ) [pT] (FU lb) ⟨u,[cQ]⟩ (aZ lz T)):
 Walk ϋ θ (Rq b pv bv tv B NB wB cs) M1 (rg 38 T [.code (.seq pT (.seq (.region 4 iP θ) nP))] [] .normal cs) w1:=by
 obtain⟨hW,k7,Hr,lP,mF,om,Hb,c0,c1,Gv,c3,⟨bc,be,bf,bA,bC,ad0,MU⟩,old,tq⟩:=hP;refine pieces (S:=⟨.seq (.region 4 iP θ) nP,[],[],cs,.normal⟩) (cs:=[pT]) (f:=38) (a:=⟨u,[cQ]⟩) (λc hc=>?_) rfl rfl (QL:=FU lb) (λe a w h=>.inl h.1) hl hW k7 (λa q hq=>.inl (oq a q hq)) hM Hr Eb ?_
 ·simp only[ϫ,Λ,or_false] at hc
  subst hc;exact aay
 ·rintro e bB aq pU bH Jl mo D' ⟨rfl,Ao,aI,h1⟩ bY jw nD ae1 kG dM AK hD
  rw[Ao] at hD;rw[xf hD];have kept:∀q,M1.has q->mo.heap[q]?=w1.heap[q]?:=λq hq=>bY.im q hq λa ha=>lP a q ha
  refine⟨λ_=>?_,λhe=>by cases he⟩
  refine .stop λky fh=>?_
  have Nq:∀q,M1.has q->ky.heap[q]?=w1.heap[q]?:=λq hq=>(fh.kept q (aaa.tx bY.R bY.O hq)).trans (kept q hq)
  refine⟨Jl,bk,lb,ρ,lz,rfl,AK.1.symm.trans aI,PU jw AK (bY.le _ _ mF) h1,?_⟩
  exact⟨ta hW (Ϥ bY.fQ fh.size) λa q hq=>Nq q (.inl (oq a q hq)),k7,Hr,lP,mF,om,Hb,c0,c1,Gv,c3,⟨bc,be,bf,bA,bC,(Nq bk (.inl (oq _ _ mF))).trans ad0,MU⟩,λq hq=>(Nq q (.inl (zY q hq))).trans (old q hq),Ϥ tq (Ϥ bY.fQ fh.size)⟩
def stA{b:ao}{σ:Ren}{wl:Ψ}{pv bv tv arg:υ}{B:Nat}{w:Ψ}{cs:List Ϙ}(h:J5 b σ wl pv bv tv B arg w)(ab:cj b 0=0):
 Walk ϋ θ (Rq b pv bv tv B w.heap.size w cs) (allM w) (rg 38 (#[arg]++Θ 40 ω) [.code (.seq (.region 0 p0 χ) (.seq pT (.seq (.region 4 iP θ) nP)))] [] .normal cs) w:=by
 letI:=iQ
 obtain⟨a',ix,ia,fD,rfl,ra,rp,Ps,rt⟩:=WE h.arg;obtain⟨A2,n2,c2,ebv,E5,-⟩:=h.book.aF.Φ;obtain⟨Yj,abH⟩:=aj5 (by rw[ebv] at Ps;exact Ps)
 refine fF (gH ?_)
 rw[s0];obtain⟨o,ho,bG,hd,hg⟩:=m00;have vB:(#[Value.agg #[a',ix,ia,fD]]++Θ 40 ω:Array υ).getD 0 ω=η #[a',ix,ia,fD]:=by simp[Aaa]
 refine BN ho (bI hg) rfl λaa hk=>⟨_,_,_,.inl (akp _ aa bG vB),xe,?_⟩
 rw[hd];have aea:(Value.agg #[a',ix,ia,fD]).cells=#[a',ix,ia,fD]:=rfl;rw[aea];have hM:∀q,((allM w).grow aa (aa.alloc (Ξ #[a',ix,ia,fD] 26))).has q->q<(aa.alloc (Ξ #[a',ix,ia,fD] 26)).heap.size:=by
  rintro q ((hq|hq) |hq)
  ·have hq:q<w.heap.size:=hq
   have:=hk.size;rw[eM];omega
  ·exact hq.2
  ·exact hq.elim
 have zY:∀q,q<w.heap.size->((allM w).grow aa (aa.alloc (Ξ #[a',ix,ia,fD] 26))).O q:=λq hq=>.inl hq
 have G8:((allM w).grow aa (aa.alloc (Ξ #[a',ix,ia,fD] 26))).O aa.heap.size:=.inr ⟨ϊ _,by rw[eM];omega⟩
 have old:∀q,q<w.heap.size->(aa.alloc (Ξ #[a',ix,ia,fD] 26)).heap[q]?=w.heap[q]?:=λq hq=>(kB (Ϡ hq hk.size)).trans (hk.kept q (.inl hq))
 have Ub:bV C0 σ wl (aa.alloc (Ξ #[a',ix,ia,fD] 26)):=ta h.core (by rw[eM];have:=hk.size;omega) λa q hq=>old q (h.core.dc a q hq)
 have hW:=uP (o:=.cells #[ξ κ b.ag,pv,bv,tv] 26 (0,4)) Ub (q:=aa.heap.size) jO (λa ha=>by have:=h.core.dc a _ ha;have:=hk.size;omega) (.cells 26 ⟨rfl,λj h1 h2=>by
  have:j=0\/j=1\/j=2\/j=3:=by simp at h1;omega
  have hle:=xj σ wl.heap.size aa.heap.size;rcases this with rfl|rfl|rfl|rfl
  ·exact ra.mono hle
  ·exact rp.mono hle
  ·exact Ps.mono hle
  ·exact rt.mono hle⟩ (.inr ⟨rfl,by simp⟩))
 obtain⟨lz,AO⟩:∃lz,lz=wl.alloc (Ξ #[ξ κ b.ag,pv,bv,tv] 26 (0,4)):=⟨_,rfl⟩
 obtain⟨lb,tE⟩:∃lb,lb=wl.heap.size:=⟨_,rfl⟩
 obtain⟨bk,ai⟩:∃bk,bk=aa.heap.size:=⟨_,rfl⟩
 have Av:lz.heap[lb]?=φ (Ξ #[ξ κ b.ag,pv,bv,tv] 26 (0,4)):=by rw[AO,tE];exact jO
 have MV:(aa.alloc (Ξ #[a',ix,ia,fD] 26)).heap[bk]?=φ (Ξ #[a',ix,ia,fD] 26):=by rw[ai];exact jO
 have lP:∀a q,ext σ lb bk a q->∃o,lz.heap[a]?=φ o/\lC o:=by
  rintro a q (ha| ⟨rfl,rfl⟩)
  ·obtain⟨o,h1,h2⟩:=h.fixed a q ha
   exact⟨o,by rw[AO];exact(kB (h.core.dA _ _ ha)).trans h1,h2⟩
  ·exact⟨_,Av,⟨rfl,by simp⟩⟩
 have Hr:bJ lz.heap:=by rw[AO];exact h.nb.push λh=>h
 have om:B<=lz.heap.size:=by rw[AO,eM];exact Akp h.hB
 have Hb:bg lz B b pv bv tv:=by rw[AO];exact h.book.still ((Δ.refl wl).alloc h.hB _)
 have aoB:w.heap.size<=bk:=by rw[ai];exact hk.size
 rw[<-AO,<-tE,<-ai] at hW;rw[<-ai] at G8 |-
 have tq:w.heap.size<=(aa.alloc (Ξ #[a',ix,ia,fD] 26)).heap.size:=by rw[eM];have:=hk.size;omega
 revert hM zY G8 old hW MV tq
 generalize (allM w).grow aa (aa.alloc (Ξ #[a',ix,ia,fD] 26))=M1;clear Ub;generalize aa.alloc (Ξ #[a',ix,ia,fD] 26)=w1;intro hM zY old G8 hW MV tq;obtain⟨o,ho,bG,hd,hg⟩:=m01;refine du ho (bI hg) rfl (λaa _=>⟨_,run_assign _ aa bG,cS⟩) ?_
 rw[hd];obtain⟨o,ho,bG,hd,hg⟩:=m02;refine du ho (bI hg) rfl (λaa _=>⟨_,run_assign _ aa bG,cS⟩) ?_
 rw[hd];refine iA ?_
 obtain⟨x0,vF⟩:=rB (ext σ lb bk) (η #[a',ix,ia,fD]);have c0: lz.cell? ⟨lb,0,ν⟩=φ (ξ κ b.ag):=lL Av rfl rfl;have c1: lz.cell? ⟨lb,1,ν⟩=φ pv:=lL Av rfl rfl;have Gv: lz.cell? ⟨lb,2,ν⟩=φ bv:=lL Av rfl rfl;have c3: lz.cell? ⟨lb,3,ν⟩=φ tv:=lL Av rfl rfl;have ae:lb<lz.heap.size:=(Ϟ.1 Av).1
 have Eb:=alK (ρ:=ext σ lb bk) (p:=π (φ ⟨lb,0,ν⟩)) (p':=π (φ ⟨bk,0,ν⟩)) vF (.ptr ⟨.inr ⟨rfl,rfl⟩,rfl,rfl⟩);exact alH ab ⟨hW,.inl h.gL,Hr,lP,.inr ⟨rfl,rfl⟩,om,Hb,c0,c1,Gv,c3,⟨_,_,_,Yj,c2,MV,by rw[abH,<-E5];rfl⟩,old,tq⟩ hM (λa q hq=>by
  rcases hq with hq| ⟨_,rfl⟩
  ·exact zY q (h.core.dc _ _ hq)
  ·exact G8) zY Eb (ag3 om Hb ab c0 c1 Gv c3 ae)
end Go.Jn
namespace Go.Jn
open Go Go.Proofs Go.Sim Go.Conc
section
variable {P:ϑ}{main:Bool}
variable {f:Ϫ}{t:Array υ}{k:List Ajz}{D:List Abf}{kd:Aj0}{cs:List Ϙ}
def alW{ops:Array Ϝ}{i:Nat}{rest:List Nat}{o:Ϝ}(ho:ops[i]?=φ o)(hg:Aj9 o (Aj2 ops t)=χ)(hd:o.dst=ν)(aa:Ψ):
 ϛ P main (rg f t (.inRegion ops (i::rest)::k) D .normal cs) aa=.go (rg f t (.inRegion ops rest::k) D .normal cs) aa #[]:=by
 simp[ϛ,Ad8,ho,hg,Acj,hd]
def Xw{ops:Array Ϝ}{i:Nat}{rest:List Nat}{o:Ϝ}{v:υ}(ho:ops[i]?=φ o)(hg:Aj9 o (Aj2 ops t)=θ)(ab:o.op=.assign (.const v))(aa:Ψ):
 ∃es,ϛ P main (rg f t (.inRegion ops (i::rest)::k) D .normal cs) aa=.go (rg f (ay t o.dst v) (.inRegion ops rest::k) D .normal cs) aa es:=
 ⟨_,Jd ho hg rfl (es:=#[]) (by rw[execOp,ab];rfl)⟩
end
def ml(p:ϑ):Nat->ώ->ώ->Prop
 |0,g,cy=>g=cy
 |n+1,g,cy=>g.callers≠ []/\∃dG,(∀w,∃es,ϛ p θ g w=.go dG w es)/\ml p n dG cy
def ml.trans{p:ϑ}{b:Nat}{y z:ώ}(k:ml p b y z):∀ {a:Nat} {x:ώ},ml p a x y->ml p (a+b) x z
 |0,x,h=>by cases(show x=y from h);rw[Nat.zero_add];exact k
 |a+1,x,h=>by rw[Nat.succ_add];exact⟨h.1,h.2.choose,h.2.choose_spec.1,ml.trans k h.2.choose_spec.2⟩
def ml.cons{p:ϑ}{n:Nat}{x y z:ώ}(hc:x.callers≠ [])(h:∀w,∃es,ϛ p θ x w=.go y w es)(k:ml p n y z):ml p (n+1) x z:=⟨hc,y,h,k⟩
abbrev lp:ϑ:= @Tw.prog jg
def GO:lp.funcs[21]?=φ stub:=by
 letI:=jg
 exact(congrArg (·[21]?) Tw.Pe).trans Tw.zh
section
variable {x:Array υ}{fr:Ϙ}{cs:List Ϙ}
def XE:ml lp 3 (aO (Aci lp 21 x .normal) (fr::cs))
 (rg 21 (ay (x++Θ (1 - x.size) ω) (φ 1) (.bool θ)) (.inRegion kg [1,2]:: [.code .ret]) [] .normal (fr::cs)):=by
 rw[zQ GO (c:=.seq (.region 0 kg χ) .ret) rfl x .normal];refine .cons (by simp) (λw=>⟨#[],by simp[ϛ,Ad8];rfl⟩) ?_
 refine .cons (by simp) (λw=>⟨#[],by simp[ϛ,Ad8];rfl⟩) ?_
 refine .cons (by simp) (λw=>Xw (o:=kg[0]) rfl rfl rfl w) ?_
 rfl
def alZ(hx:x.size<=1):ml lp 8 (aO (Aci lp 21 x .normal) (fr::cs)) (aO (fr.finish (.bool θ)) cs):=by
 refine ml.trans (a:=3) (b:=5) ?_ XE
 have hs:(x++Θ (1 - x.size) ω).size=1:=by simp;omega
 generalize (x++Θ (1 - x.size) ω)=t at hs;have e1:ay t (φ 1) (.bool θ)=t:=by
  show t.setIfInBounds 1 _=t;rw[Array.setIfInBounds_eq_of_size_le (by omega)]
 rw[e1];have hy:Aj9 kg[1] (Aj2 kg t)=χ:=by
  have:t[1]?=ν:=Aan (by omega)
  show(Aj2 kg t 0==φ θ)=χ;unfold Aj2;show((match(t[1]?:Option υ) with|some (Value.bool b)=>φ b|_=>ν)==φ θ)=χ
  rw[this];rfl
 refine .cons (by simp) (λw=>⟨#[],alW (o:=kg[1]) rfl hy rfl w⟩) ?_
 refine .cons (by simp) (λw=>Xw (o:=kg[2]) rfl rfl rfl w) ?_
 have e0:(ay t (φ 0) (.bool θ)).getD 0 ω=.bool θ:=by simp[ay,hs]
 have e2:ay t kg[2].dst (.bool θ)=ay t (φ 0) (.bool θ):=rfl;rw[e2]
 revert e0
 generalize ay t (φ 0) (.bool θ)=t2;intro e0;refine .cons (by simp) (λw=>⟨#[],by simp[ϛ,Ad8];rfl⟩) ?_
 refine .cons (by simp) (λw=>⟨#[],by simp[ϛ,Ad8];rfl⟩) ?_
 refine .cons (by simp) (λw=>⟨#[],?_⟩) rfl
 have e:Abx lp θ ⟨21,t2,[.code .ret],[],.returning,.normal,ν⟩ (fr::cs) ν w=.go (aO (fr.finish (.bool θ)) cs) w #[]:=by
  have hr:(results stub t2).runT lp w #[]=(.ok (.bool θ) w,#[]):=by
   have e:results stub t2=Akd (.bool θ):=by
    unfold results;rw[show stub.results=#[.tmp 0] from rfl]
    simp only[Aak,List.mapM_cons,Akg,e0];rfl
   rw[e];rfl
  unfold Abx;simp only[GO,hr,ud,Acm,doReturn];rfl
 exact e
def al0(hx:2<=x.size)(w:Ψ):∃o aa es,ϛ lp θ (rg 21 (ay (x++Θ (1 - x.size) ω) (φ 1) (.bool θ)) (.inRegion kg [1,2]:: [.code .ret]) [] .normal (fr::cs)) w=.ended o aa es:=by
 have hs:2<=(x++Θ (1 - x.size) ω).size:=by rw[Array.size_append,Array.size_replicate];omega
 generalize (x++Θ (1 - x.size) ω)=t at hs;have hy:Aj9 kg[1] (Aj2 kg (ay t (φ 1) (.bool θ)))=θ:=by
  have:(ay t (φ 1) (.bool θ))[1]?=φ (.bool θ):=Ajs (by omega)
  show(Aj2 kg (ay t (φ 1) (.bool θ)) 0==φ θ)=θ;unfold Aj2;show((match((ay t (φ 1) (Value.bool θ))[1]?:Option υ) with|some (Value.bool b)=>φ b|_=>ν)==φ θ)=θ
  rw[this];rfl
 generalize (ay t (φ 1) (.bool θ))=t2 at hy;have ho:kg[1]?=φ kg[1]:=rfl;have hx:∃h,(execOp (aS t2) kg[1]).runT lp w #[]=(.halt (.stuck h) w,#[]):=⟨_,rfl⟩
 obtain⟨h,hx⟩:=hx;have e1:Ack ⟨21,t2,.inRegion kg [1,2]:: [.code .ret],[],.run,.normal,ν⟩=aS t2:=tf;simp only[ϛ,Ad8,ho,Ag3,hy,Akq,if_true,Akf,Aj7,Ad7,e1,hx,Acm];exact⟨_,_,_,rfl⟩
end
end Go.Jn
namespace Go.Jn
open Go Go.Proofs Go.Sim Go.Conc
def ri(w:Ψ):Prop:=∃fr,w.heap[0]?=φ (Ξ #[.func (.func 234) #[] #[],.func (.func 236) #[] #[]] 146 fr)
def Cq:Prop:=∀ {gs:Array ώ} {w:Ψ} {t:ϭ} {q:Nat->Nat} {x:Array υ} {fr:Ϙ} {cs:List Ϙ} (sl:Option (Nat×Nat)),x.size<=1->ri w->
 Fr ϋ gs w t q (aO (Aci ϋ 21 x .normal) (fr::cs))->
 ∃N aT w' bm t' q',Aj4 ϋ N (crowd gs w sl) t=(.next (crowd aT w' bm),t')/\Fr ϋ aT w' t' q' (aO (fr.finish (.bool θ)) cs)/\Base w w'/\∀b,b<w.heap.size->w'.heap[b]?=w.heap[b]?
abbrev ni(S:Tl):=Rel ϋ (@Tw.F jg) C1 S G0
def ni.all{S:Tl}{M:Sim.aaa}{ρ:Ren}{g g':ώ}{w w':Ψ}(h:ni S M ρ g w g' w'):ni S (allM w') ρ g w g' w':=
 ⟨h.gr,h.core,h.gL,zF h.core,λ_ hb=>kA.1 hb⟩
def mZ(ρ:Ren)(wl:Ψ)(b:Nat):Prop:=∀a,ρ a b->∃o,wl.heap[a]?=φ o/\lC o
def CY{M bS:Sim.aaa}{ρ aE:Ren}{wl w' aa aA:Ψ}(h:gX M ρ wl w' bS aE aa aA){b:Nat}(hb:b<w'.heap.size)(hf:mZ ρ wl b):mZ aE aa b:=λa ha=>by
 rcases h.new a b ha with x| ⟨_,y⟩
 ·obtain⟨o,ho,fo⟩:=hf a x
  exact⟨o,h.kE a o ho fo,fo⟩
 ·omega
def amq{S:Tl}{ρ:Ren}{g g':ώ}{wl w':Ψ}(hR:ni S (allM w') ρ g wl g' w')
 (dL:∃b fr aV cs bh,g=aO fr cs/\g'=aO aV bh/\eS C1 S ρ b fr aV/\Below C1 S ρ b cs bh)
 {nx:Tape->ώ×Ψ}(hn:∀T:Tape,(∃es,ϛ lp θ g (aZ wl T)=.go (nx T).1 (nx T).2 es)/\Plain (nx T).1)
 {gs:Array ώ}{t:ϭ}{q:Nat->Nat}(sl:Option (Nat×Nat))(hF:Fr ϋ gs w' t q g'):
 ∃N iK aA nQ nS Fo eZ T aE,Aj4 ϋ N (crowd gs w' sl) t=(.next (crowd iK aA nQ),nS)/\Fr ϋ iK aA nS Fo eZ/\ni S (allM aA) aE (nx T).1 (nx T).2 eZ aA/\Base w' aA/\
  (∀b,b<w'.heap.size->mZ ρ wl b->aA.heap[b]?=w'.heap[b]?/\mZ aE (nx T).2 b):=by
 have key:∀aa:Ψ,∃y:ώ×Ψ×Array ϥ,bN (allM w') w' aa->∃(T:Tape) (aE:Ren),ϛ ϋ θ g' aa=.go y.1 y.2.1 y.2.2/\eO (allM w') aa y.2.1 y.2.2/\
  ni S ((allM w').grow aa y.2.1) aE (nx T).1 (nx T).2 y.1 y.2.1/\gX (allM w') ρ wl aa ((allM w').grow aa y.2.1) aE (nx T).2 y.2.1:=by
  intro aa;by_cases k:bN (allM w') w' aa
  ·obtain⟨T,aE,eZ,aA,es,a1,a2,a3,a4⟩:=WG abO (hR.keep k) dL hn θ
   exact⟨(eZ,aA,es),λ_=>⟨T,aE,a1,a2,a3,a4⟩⟩
  ·exact⟨(g',aa,#[]),λx=>absurd x k⟩
 have bz:g'.status=.running:=by obtain⟨b,fr,aV,cs,bh,_,rfl,_⟩:=dL;rfl
 have hW:Walk ϋ θ (λbS eZ aA=>∃(T:Tape) (aE:Ren),ni S bS aE (nx T).1 (nx T).2 eZ aA/\gX (allM w') ρ wl w' bS aE (nx T).2 aA) (allM w') g' w':=by
  refine .step bz (λaa=>Aa6 (key aa)) (λaa k=>?_) λaa k=>.stop λaq k₂=>?_
  ·obtain⟨T,aE,a1,a2,a3,a4⟩:=Aa7 (key aa) k
   exact⟨a1,a2⟩
  ·obtain⟨T,aE,a1,a2,a3,a4⟩:=Aa7 (key aa) k
   exact⟨T,aE,a3.keep k₂,((gX.keep k).trans a4 hR.low).trans (gX.keep k₂) hR.low⟩
 obtain⟨N,iK,bS,eZ,aA,nQ,nS,Fo,r1,_,⟨⟨T,aE,xB,bY⟩,hb⟩,BS⟩:=Cw (FM hW (Gr w')) gs sl t q hF (λb hb=>kA.1 hb)
 exact⟨N,iK,aA,nQ,nS,Fo,eZ,T,aE,r1,BS,ni.all xB,hb,λb hb hf=>⟨bY.im b (kA.2 hb) hf,CY bY hb hf⟩⟩
def WZ{Q:ώ->Ψ->Prop}(G1:∀g w,Q g w->g.callers=[]){cy:ώ}:∀ {n:Nat} {g:ώ} {w:Ψ},ml lp n g cy->Sim.Safe lp Q g w->Sim.Safe lp Q cy w
 |0,g,w,h,hs=>by cases(show g=cy from h);exact hs
 |n+1,g,w,h,hs=>by
  obtain⟨hc,dG,h1,h2⟩:=h;cases hs with
  |stop hq=>exact absurd (G1 _ _ hq) hc
  |step nx hn hs=>
   obtain⟨⟨es,k1⟩,_⟩:=hn w.tape;obtain⟨es',k2⟩:=h1 (aZ w w.tape);rw[k2] at k1;simp only[GStep.go.injEq] at k1;have:=hs w.tape;rw[<-k1.1,<-k1.2.1] at this;exact WZ G1 h2 this
def amp(yj:Cq){S:Tl}{Q:ώ->Ψ->Prop}(G1:∀g w,Q g w->g.callers=[]){g:ώ}{wl:Ψ}(hs:Sim.Safe lp Q g wl):
 ∀ {n:Nat} {cy:ώ},ml lp n g cy->∀ {ρ:Ren} {g':ώ} {w':Ψ},ni S (allM w') ρ cy wl g' w'->ri w'->mZ ρ wl 0->
 ∀ {gs:Array ώ} {t:ϭ} {q:Nat->Nat} (sl:Option (Nat×Nat)),Fr ϋ gs w' t q g'->
 ∃N iK aA nQ nS Fo eZ aE dG aa,Aj4 ϋ N (crowd gs w' sl) t=(.next (crowd iK aA nQ),nS)/\Fr ϋ iK aA nS Fo eZ/\Q dG aa/\ni S (allM aA) aE dG aa eZ aA/\Base w' aA/\
  (∀b,b<w'.heap.size->mZ ρ wl b->aA.heap[b]?=w'.heap[b]?):=by
 induction hs with
 | @stop g w h=>
   intro n cy hl ρ g' w' hR hM h0 gs t q sl hF;cases n with
   |zero=>cases(show g=cy from hl);exact⟨0,gs,w',sl,t,q,g',ρ,g,w,rfl,hF,h,hR,Gr _,λ_ _ _=>rfl⟩
   |succ n=>exact absurd (G1 _ _ h) hl.1
 | @step g w nx hn hs ih=>
   intro n cy hl ρ g' w' hR hM h0 gs t q sl hF;have along:∀ {n:Nat} {cy:ώ},ml lp (n+1) g cy->∀ {ρ:Ren} {g':ώ} {w':Ψ},ni S (allM w') ρ cy w g' w'->ri w'->mZ ρ w 0->∀ {gs:Array ώ} {t:ϭ} {q:Nat->Nat} (sl:Option (Nat×Nat)),Fr ϋ gs w' t q g'->
    ∃N iK aA nQ nS Fo eZ aE dG aa,Aj4 ϋ N (crowd gs w' sl) t=(.next (crowd iK aA nQ),nS)/\Fr ϋ iK aA nS Fo eZ/\Q dG aa/\ni S (allM aA) aE dG aa eZ aA/\Base w' aA/\
     (∀b,b<w'.heap.size->mZ ρ w b->aA.heap[b]?=w'.heap[b]?):=by
    intro n cy hl ρ g' w' hR hM h0 gs t q sl hF;obtain⟨hc,dG,h1,h2⟩:=hl;obtain⟨⟨es,k1⟩,_⟩:=hn w.tape;obtain⟨es',k2⟩:=h1 (aZ w w.tape);rw[k2] at k1;simp only[GStep.go.injEq] at k1;obtain⟨e1,e2,_⟩:=k1;have:=ih w.tape (n:=n) (cy:=cy) (e1▸h2) (ρ:=ρ) (g':=g') (w':=w') (e2▸hR) hM (e2▸h0) sl hF;rw[<-e2] at this;exact this
   cases n with
   |succ n=>exact along hl hR hM h0 sl hF
   |zero=>
    cases(show g=cy from hl)
    have gr:=hR.gr;generalize eg:g=gg at gr;generalize SU:g'=gg' at gr;cases gr with
    | @inside b fr aV cs bh b7 hL=>
      subst eg SU;obtain⟨N,iK,aA,nQ,nS,Fo,eZ,T,aE,r1,BS,xB,hb,hk⟩:=amq hR ⟨b,fr,aV,cs,bh,rfl,rfl,b7,hL⟩ hn sl hF;have hz:0<w'.heap.size:=by obtain⟨_,h⟩:=hM;exact(Ϟ.1 h).1
      have U0:ri aA:=by obtain⟨f,h⟩:=hM;exact⟨f,(hk 0 hz h0).1.trans h⟩
      obtain⟨N2,xu,mo,PV,Qk,Pq,C9,bH,cy,aq,r2,Mz,hq,ME,MY,Nx⟩:=ih T (n:=0) rfl xB U0 (hk 0 hz h0).2 nQ BS;exact⟨N+N2,xu,mo,PV,Qk,Pq,C9,bH,cy,aq,uc _ _ _ r1 r2,Mz,hq,ME,rn hb MY,λb al hf=>(Nx b (Ϡ al hb.size) (hk b al hf).2).trans (hk b al hf).1⟩
    | @hole b f hf x x' hx fr aV cs bh h aw hL=>
      have hf:f=21:=by simpa [C1] using hf
      subst hf eg SU;have hxs:=hx.1;by_cases h2:x.size<=1
      ·obtain⟨N,iK,aA,nQ,nS,Fo,r1,BS,hb,hk⟩:=yj sl (by omega) hM hF
       have U0:ri aA:=by obtain⟨f,h⟩:=hM;exact⟨f,(hk 0 (Ϟ.1 h).1).trans h⟩
       have core:=ta hR.core hb.size λa b hab=>hk b (hR.core.dc a b hab)
       have xB:ni S (allM aA) ρ (aO (fr.finish (.bool θ)) cs) w (aO (aV.finish (.bool θ)) bh) aA:=
        ⟨.inside (CX h (.bool θ) aw) hL,core,hR.gL,zF core,λ_ hb=>kA.1 hb⟩
       obtain⟨N2,xu,mo,PV,Qk,Pq,C9,bH,cy,aq,r2,Mz,hq,ME,MY,Nx⟩:=along (n:=7) (alZ h2) xB U0 h0 nQ BS;exact⟨N+N2,xu,mo,PV,Qk,Pq,C9,bH,cy,aq,uc _ _ _ r1 r2,Mz,hq,ME,rn hb MY,λb al hf=>(Nx b (Ϡ al hb.size) hf).trans (hk b al)⟩
      ·exfalso
       have gQ:=WZ G1 (XE (x:=x) (fr:=fr) (cs:=cs)) (.step nx hn hs);cases gQ with
       |stop hq=>exact absurd (G1 _ _ hq) (by simp)
       |step nx2 dM _=>
        obtain⟨⟨es,k1⟩,_⟩:=dM w.tape;obtain⟨o,aa,es',k2⟩:=al0 (x:=x) (fr:=fr) (cs:=cs) (by omega) (aZ w w.tape)
        rw[k2] at k1;cases k1
end Go.Jn
namespace Go.Jn
open Go Go.Proofs Go.Conc
section
variable {H:Type}{enc:ό×υ->H}
def ag2{a:Assume}{C:Checked}{os:Os}{f:Ϫ}{fn:Ϣ}{s:ChangeSpec}{conds:List PathCond}{apart fresh handsOn again:Bool}{X:Ψ->Array υ->Prop}
 (hX:∀(w w':Ψ) (args:Array υ),w.heap=w'.heap->X w args->X w' args)
 (own:ownKnob C.prog.godebug=ν)(started:os.Started)(Du:C.prog.funcs[f]?=φ fn)
 (witness:∃(w:Ψ) (tape:Tape) (i:Input),w.os=os/\(w.forCall tape i).Shaped C.prog/\i.vars=[]/\Input.okWide C.prog (w.forCall tape i) .any w.heap.size f i/\
   ((s.pre enc C.prog fn conds apart (w.forCall tape i).memory i.args/\X (w.forCall tape i).memory i.args)/\sizedMet enc C.prog fn (OpenSpec.ofChange s) apart (w.forCall tape i).memory i.args)/\a.holds C.prog (lone (Aci C.prog f i.args .normal) [] (w.forCall tape i)))
 (runs:∀(W:Ψ) (base:Nat) (args:Array υ) (ds gs:List (DataW H)) (before:List Aj6),
   (∀(j:Nat) t v,fn.params[j]?=φ t->args[j]?=φ v->Value.okWide C.prog W .any base t v)->
   DataW.Whole enc C.prog fn.params.toList s.vars apart W args.toList ds gs before->W.ShapedOpen C.prog->X W args->
   ∃M last o w' t',Aj4 C.prog (M+1) (solo (G (Aci C.prog f args .normal) []) W) #[]=(.ended o w',t')/\runN C.prog M (solo (G (Aci C.prog f args .normal) []) W)=.next last/\
    step C.prog last=.ended o w'/\Conc.Good C.prog (λv W'=>s.post enc C.prog fn apart fresh handsOn again W args v W') last o w' t'):
 ReturnsInLeavingWide a C os f .any (λw args=>(s.pre enc C.prog fn conds apart w args/\X w args)/\sizedMet enc C.prog fn (OpenSpec.ofChange s) apart w args) (s.post enc C.prog fn apart fresh handsOn again):=by
 refine returnsInLeavingWide_of_good own started witness ?_
 intro w tape i _ vz _ dh afp aon;obtain⟨_,_,_,fn',aew,_,_,_,_,AM⟩:=dh;have e:fn'=fn:=ϟ (aew.symm.trans Du);subst e;obtain⟨⟨⟨ds,gs,before,hw,hc⟩,hx⟩,hz⟩:=afp;have AN:=DataW.Whole.of_heap (w':=w.forCall tape i) (by rfl) hw
 obtain⟨M,last,o,w',t',h1,h2,h3,v,e1,h4,h5⟩:=runs (w.forCall tape i) w.heap.size i.args ds gs before AM AN vz (hX _ _ _ (by rfl) hx)
 exact⟨M,last,o,w',t',h1,h2,h3,v,e1,ChangeSpec.post_blind h4,h5⟩
end
end Go.Jn
namespace Go.Jn
open Go Go.Proofs Go.Sim Go.Tw
def fH(W:Ψ)(a:Nat):Prop:=∃c e fr,W.heap[a]?=φ (.cells c e fr)
def LQ{W:Ψ}{p:Addr}{v:υ}(h: W.cell? p=φ v):fH W p.block:=by
 unfold World.cell? at h;split at h
 ·rename_i c e fr ho;exact⟨c,e,fr,ho⟩
 ·cases h
def LP{W:Ψ}{a:Nat}(h:fH W a):a<W.heap.size:=by
 obtain⟨c,e,fr,h⟩:=h;exact(Ϟ.1 h).1
def zL:ϋ.cellsOf 3=1:=by kernel_rfl
def Sq:ϋ.cellsOf 9=1:=by kernel_rfl
def aah:ϋ.cellsOf 22=1:=by kernel_rfl
def aai:ϋ.cellsOf 23=1:=by kernel_rfl
def aaj:ϋ.cellsOf 24=1:=by kernel_rfl
def aak:ϋ.cellsOf 26=4:=by kernel_rfl
def aal:ϋ.cellsOf 33=1:=by kernel_rfl
def Gz:ϋ.cellsOf 37=2:=by kernel_rfl
def aam:ϋ.cellsOf 57=1:=by kernel_rfl
def aan:ϋ.cellsOf 59=3:=by kernel_rfl
def aao:ϋ.cellsOf 72=4:=by kernel_rfl
def aap:ϋ.cellsOf 95=3:=by kernel_rfl
section
variable {H:Type}{enc:ό×υ->H}{W:Ψ}{n:Nat}{cs:List υ}{y:DataW H×List Aj6}
abbrev oh(enc:ό×υ->H)(W:Ψ)(n:Nat)(t:ό)(cs:List υ):Option (DataW H×List Aj6):=DataW.trod enc ϋ W 0 (λ_=>θ) θ n t cs
def Fq{α:Type}{t e:ό}{sz:Nat}{R:α->List υ->Prop}(ht:ϋ.underlying t=φ (.slice e))(hc:ϋ.cellsOf e=sz)(aI:0<sz)
 (Ng:∀(m:Nat) (cs:List υ) (y:DataW H×List Aj6),oh enc W m e cs=φ y->cs.length=sz->∃x,R x cs)(h:oh enc W n t cs=φ y):
 ∃v xs,cs=[v]/\Row W W.heap.size sz R v xs/\Sv (fH W) v:=by
 rcases DataW.trod_slice ht h with⟨rfl,_⟩ | ⟨a,len,cap,elems,rest,m,_,rfl,_,_,hl,hm,hlen,aeq,afu,_⟩
 ·exact⟨_,[],rfl,Row.nil,λA n c e=>by cases e⟩
 ·have one:∀i,i<cap->∃cs y,W.cells? 0 (a.add (i * sz)) sz=φ cs/\oh enc W m e cs=φ y:=λi hi=>by
   by_cases h1:i<len
   ·have:=aeq i h1
    rw[Af9 (by omega),hc,Akr] at this
    obtain⟨cs,h2,h3⟩:=this;exact⟨cs,_,h2,h3⟩
   ·obtain⟨hr,hj⟩:=afu rfl
    have:=hj (i - len) (by omega)
    rw[Af9 (by omega),hc,Akr,show len+(i - len)=i by omega] at this
    obtain⟨cs,h2,h3⟩:=this;exact⟨cs,_,h2,h3⟩
  have two:∀i,i<cap->∃x cs,R x cs/\cs.length=sz/\∀j u,cs[j]?=φ u-> W.cell? (a.add (i * sz+j))=φ u:=λi hi=>by
   obtain⟨cs,y,h1,h2⟩:=one i hi;obtain⟨_,h3,h4⟩:=World.cells?_some h1
   obtain⟨x,hx⟩:=Ng m cs y h2 h3;refine⟨x,cs,hx,h3,λj u hu=>?_⟩
   have hj:j<sz:=by have:=(List.getElem?_eq_some_iff.1 hu).1;omega
   rw[<-Rt,h4 j hj];exact hu
  have hS:0<cap->fH W a.block:=λrP=>by
   obtain⟨x,cs,_,h3,h4⟩:=two 0 rP;obtain⟨u,hu⟩:∃u,cs[0]?=φ u:=⟨cs[0]'(by omega),Af9 _⟩
   have:=LQ (h4 0 u hu);rw[cq] at this;exact this
  refine⟨_,List.ofFn λi:Fin len=>Aa6 (two i.1 (by omega)),rfl,⟨φ a,cap,by rw[List.length_ofFn],by rw[List.length_ofFn];exact hl,hm,λhx=>⟨a,rfl,?_,λi x hi=>?_⟩⟩,λA n c e h0=>?_⟩
  ·refine LP (hS ?_)
   rcases Ako len with h0|h0
   ·subst h0;exact absurd rfl hx
   ·omega
  ·rw[List.getElem?_ofFn] at hi
   split at hi
   ·rename_i al
    cases hi;exact Aa7 (two i (by omega))
   ·cases hi
  ·cases e
   rcases Ako cap with h|h
   ·exact .inr h
   ·exact .inl (hS h)
def AS(h:oh enc W n 3 cs=φ y):∃x:Int,cs=[ξ κ x]:=by
 obtain⟨x,rfl,_⟩:=DataW.trod_int Tryz.underlying3 h;exact⟨x,rfl⟩
def XC(h:oh enc W n 9 cs=φ y):∃s:ByteArray,cs=[.string s]/\s.size<=maxLen:=by
 obtain⟨x,rfl,_,h⟩:=DataW.trod_string Tryz.underlying9 h;exact⟨x,rfl,h⟩
def ey{t:ό}{fs:Array Field}(ht:ϋ.underlying t=φ (.struct fs))(h:oh enc W n t cs=φ y)(i:Nat){u:ό}{o sz:Nat}(hc:ϋ.cellsOf u=sz)(hf:∃f,fs[i]?=φ f/\f.type=u/\f.offset=o):
 ∃m z,oh enc W m u ((cs.drop o).take sz)=φ z:=by
 obtain⟨f,hf,rfl,rfl⟩:=hf;obtain⟨xs,m,_,_,_,hl,h1⟩:=DataW.trod_struct ht h;have hi:i<xs.length:=by have:=(Ϟ.1 hf).1;omega
 exact⟨m,xs[i],by rw[<-Af9 hi,<-hc];exact h1 i f hf⟩
def VV{t:ό}{fs:Array Field}(ht:ϋ.underlying t=φ (.struct fs))(h:oh enc W n t cs=φ y):cs.length=ϋ.cellsOf t:=by
 obtain⟨xs,m,_,_,hl,_⟩:=DataW.trod_struct ht h;exact hl
def P0(h:oh enc W n 37 cs=φ y):∃x:Span,Span.R x cs:=by
 have hl:=VV Tryz.underlying37 h;rw[Gz] at hl;obtain⟨a,b,rfl⟩:∃a b,cs=[a,b]:=by
  match cs,hl with
  | [a,b],_=>exact⟨a,b,rfl⟩
 obtain⟨_,_,h0⟩:=ey Tryz.underlying37 h 0 (u:=3) (o:=0) zL ⟨_,rfl,rfl,rfl⟩;obtain⟨_,_,h1⟩:=ey Tryz.underlying37 h 1 (u:=3) (o:=1) zL ⟨_,rfl,rfl,rfl⟩;simp only[Akm,Akn] at h0 h1;obtain⟨x0,e0⟩:=AS h0;obtain⟨x1,e1⟩:=AS h1;cases e0;cases e1
 exact⟨⟨x0,x1⟩,rfl⟩
def ajG(h:oh enc W n 72 cs=φ y)(hl:cs.length=4):∃x:Piece,Piece.R x cs:=by
 obtain⟨a,b,c,d,rfl⟩:∃a b c d,cs=[a,b,c,d]:=by
  match cs,hl with
  | [a,b,c,d],_=>exact⟨a,b,c,d,rfl⟩
 obtain⟨_,_,h0⟩:=ey Tryz.underlying72 h 0 (u:=9) (o:=0) Sq ⟨_,rfl,rfl,rfl⟩;obtain⟨_,_,h1⟩:=ey Tryz.underlying72 h 1 (u:=37) (o:=1) Gz ⟨_,rfl,rfl,rfl⟩;obtain⟨_,_,h2⟩:=ey Tryz.underlying72 h 2 (u:=3) (o:=3) zL ⟨_,rfl,rfl,rfl⟩;simp only[Akm,Akn] at h0 h1 h2;obtain⟨s,e0,hs⟩:=XC h0;obtain⟨x,e1⟩:=P0 h1;obtain⟨z,e2⟩:=AS h2;cases e0;cases e1;cases e2
 exact⟨⟨s,x,z⟩,rfl,hs⟩
def ZK(h:oh enc W n 59 cs=φ y)(hl:cs.length=3):∃x:bR,bR.R W W.heap.size x cs/\∀u∈cs,Sv (fH W) u:=by
 obtain⟨a,b,c,rfl⟩:∃a b c,cs=[a,b,c]:=by
  match cs,hl with
  | [a,b,c],_=>exact⟨a,b,c,rfl⟩
 obtain⟨_,_,h0⟩:=ey Tryz.underlying59 h 0 (u:=9) (o:=0) Sq ⟨_,rfl,rfl,rfl⟩;obtain⟨_,_,h1⟩:=ey Tryz.underlying59 h 1 (u:=3) (o:=1) zL ⟨_,rfl,rfl,rfl⟩;obtain⟨_,_,h2⟩:=ey Tryz.underlying59 h 2 (u:=57) (o:=2) aam ⟨_,rfl,rfl,rfl⟩;simp only[Akm,Akn] at h0 h1 h2;obtain⟨s,e0,hs⟩:=XC h0;obtain⟨z,e1⟩:=AS h1;obtain⟨v,xs,e2,hr,hv⟩:=Fq (R:=Span.R) Tryz.underlying57 Gz (by omega) (λm cs y h _=>P0 h) h2
 cases e0;cases e1;cases e2
 refine⟨⟨s,z,xs⟩,⟨_,rfl,hs,hr⟩,λu hu=>?_⟩
 simp only[ϫ,Λ,or_false] at hu;rcases hu with rfl|rfl|rfl
 ·intro A n c e;cases e
 ·intro A n c e;cases e
 ·exact hv
def ama(h:oh enc W n 95 cs=φ y)(hl:cs.length=3):∃x:Tw.Tape,Tw.Tape.R W W.heap.size x cs/\∀u∈cs,Sv (fH W) u:=by
 obtain⟨a,b,c,rfl⟩:∃a b c,cs=[a,b,c]:=by
  match cs,hl with
  | [a,b,c],_=>exact⟨a,b,c,rfl⟩
 obtain⟨_,_,h0⟩:=ey Tryz.underlying95 h 0 (u:=33) (o:=0) aal ⟨_,rfl,rfl,rfl⟩;obtain⟨_,_,h1⟩:=ey Tryz.underlying95 h 1 (u:=37) (o:=1) Gz ⟨_,rfl,rfl,rfl⟩;simp only[Akm,Akn] at h0 h1;obtain⟨v,xs,e0,hr,hv⟩:=Fq (R:=cH) Tryz.underlying33 zL (by omega) (λm cs y h _=>AS h) h0
 obtain⟨x,e1⟩:=P0 h1;cases e0;cases e1
 refine⟨⟨xs,x⟩,⟨_,rfl,hr⟩,λu hu=>?_⟩
 simp only[ϫ,Λ,or_false] at hu;rcases hu with rfl|rfl|rfl
 ·exact hv
 ·intro A n c e;cases e
 ·intro A n c e;cases e
def ZP(h:oh enc W n 26 cs=φ y):∃(b:ao) (pv bv tv:υ),cs=[ξ κ b.ag,pv,bv,tv]/\FY (fH W) W W.heap.size b pv bv tv:=by
 have hl:=VV Tryz.underlying26 h;rw[aak] at hl;obtain⟨a,b,c,d,rfl⟩:∃a b c d,cs=[a,b,c,d]:=by
  match cs,hl with
  | [a,b,c,d],_=>exact⟨a,b,c,d,rfl⟩
 obtain⟨_,_,h0⟩:=ey Tryz.underlying26 h 0 (u:=3) (o:=0) zL ⟨_,rfl,rfl,rfl⟩;obtain⟨_,_,h1⟩:=ey Tryz.underlying26 h 1 (u:=22) (o:=1) aah ⟨_,rfl,rfl,rfl⟩;obtain⟨_,_,h2⟩:=ey Tryz.underlying26 h 2 (u:=23) (o:=2) aai ⟨_,rfl,rfl,rfl⟩;obtain⟨_,_,h3⟩:=ey Tryz.underlying26 h 3 (u:=24) (o:=3) aaj ⟨_,rfl,rfl,rfl⟩;simp only[Akm,Akn] at h0 h1 h2 h3;obtain⟨z,e0⟩:=AS h0;obtain⟨pv,ps,e1,r1,s1⟩:=Fq (R:=Piece.R) Tryz.underlying22 aao (by omega) (λm cs y h hl=>ajG h hl) h1
 obtain⟨bv,bs,e2,r2,s2⟩:=Fq (R:=λx cs=>bR.R W W.heap.size x cs/\∀u∈cs,Sv (fH W) u) Tryz.underlying23 aan (by omega) (λm cs y h hl=>ZK h hl) h2
 obtain⟨tv,ts,e3,r3,s3⟩:=Fq (R:=λx cs=>Tw.Tape.R W W.heap.size x cs/\∀u∈cs,Sv (fH W) u) Tryz.underlying24 aap (by omega) (λm cs y h hl=>ama h hl) h3
 cases e0;cases e1;cases e2;cases e3
 exact⟨⟨z,ps,bs,ts⟩,_,_,_,rfl,r1,r2,r3,s1,s2,s3⟩
end
end Go.Jn
namespace Go.Jn
open Go Go.Proofs Go.Sim Go.Conc
def ajq{C C':bQ}(h:∀c,C.clean c->C'.clean c){ρ:Ren}{o o':Obj}(x:iE C ρ o o'):iE C' ρ o o':=by
 cases x with
 |cells e hc hf=>exact .cells e hc hf
 |map clock hm=>exact .map clock hm
 |loop hl=>
  cases hl with
  |mk st px fn ps oU body ht hd ha hb hp=>exact .loop (.mk st px fn ps oU body ht hd (h _ ha) (h _ hb) λc hc=>h _ (hp c hc))
 |EF=>exact .EF
 |calls=>exact .calls
 |stringIter s p=>exact .stringIter s p
 |number lost ha=>exact .number lost ha
def aa2{C C':bQ}(h:∀c,C.clean c->C'.clean c){ρ:Ren}{w w':Ψ}(x:bV C ρ w w'):bV C' ρ w w':=
 ⟨x.dA,x.dc,x.fn,x.inj,λa b o hab ho=>by obtain⟨o',h1,h2⟩:=x.obj a b o hab ho;exact⟨o',h1,ajq h h2⟩⟩
def Rn(f r:Nat)(g:ώ)(_:Ψ):Prop:=∃(t:Array υ) (todo:List Ajz),t[r]?=φ (.bool θ)/\g=aO ⟨f,t,todo,[cQ],.returning,.normal,ν⟩ []
def Cr:Tl:=⟨.skip,[],[],[],.normal⟩
def agR{f r:Nat}{c:ϖ}(hc:cr ϋ G0 c=θ){tl t':Array υ}{ρ:Ren}{wl w:Ψ}
 (hl:∀T,c.wp lp (λe bB _=>e=.ret/\bB.defers=[cQ]/\bB.tmps[r]?=φ (.bool θ)) ⟨tl,[cQ]⟩ (aZ wl T))
 (hW:bV C1 ρ wl w)(hg:ρ 0 0)(hn:bJ wl.heap)(ht:aP ρ tl t'):
 Sim.Safe lp (Rn f r) (aO ⟨f,tl,[.code c,.code di],[cQ],.run,.normal,ν⟩ []) wl:=by
 have hG:∀g,G0 g=θ->ρ g g:=λg oy=>by
  have:g=0:=by simpa [G0] using oy
  subst this;exact hg
 let b:Ϙ:={ (default:Ϙ) with fn:=f,kind:=.normal}
 have b7:eS CA Cr ρ θ ⟨f,tl,[.code c,.code di],[cQ],.run,.normal,ν⟩ ⟨f,t',[.code c],[],.run,.normal,ν⟩:=
  .mk f ht (.cons (.code c hc) .stop) .stop .run .none ⟨λh=>by simp at h,λ_=>rfl,λh=>absurd rfl h,λh=>by simp at h,rfl,λ_=>rfl⟩
 have hi:Inv CA Cr G0 (aO ⟨f,tl,[.code c,.code di],[cQ],.run,.normal,ν⟩ []) wl:=⟨hn,ρ,θ,_,_,_,_,w,rfl,hG,b7,.base,aa2 (C:=C1) (C':=CA) (λ_ h=>h) hW⟩
 have h:=PD (S:=Cr) abN (λ_=>rfl) (Q:=Rn f r) (λg w T h=>h) ?_ hi ?_
 ·rw[Ji] at h;exact h
 ·rintro g w ⟨t,todo,_,rfl⟩ ch;simp
 ·intro T
  rw[Ji];obtain⟨e,bB,aa,⟨rfl,h2,h3⟩,todo,n,hr⟩:=hl T b [.code di] [];refine⟨n,_,_,aa,hr,bB.tmps,todo,h3,?_⟩
  show aO _ _=aO _ _;rw[<-h2];rfl
def ajC{w:Ψ}:Past Iz w.heap.size #[]:=Past.mono past_nil (Nat.zero_le _)
def results1{P:ϑ}{fn:Ϣ}{r:Nat}(hr:fn.results=#[.tmp r])(t:Array υ)(w:Ψ):(results fn t).runT P w #[]=(.ok (t.getD r ω) w,#[]):=by
 have e:results fn t=Akd (t.getD r ω):=by
  unfold results;rw[hr];simp only[Aak,List.mapM_cons,Akg];rfl
 rw[e];rfl
def agQ(yj:Cq){f r:Nat}{fn:Ϣ}{c:ϖ}(hf:ϋ.funcs[f]?=φ fn)(hb:fn.body=φ c)(hc:cr ϋ G0 c=θ)(hr:fn.results=#[.tmp r])(hi:¬2=f)
 {ρ:Ren}{wl W:Ψ}{args tl:Array υ}(hl:∀T,c.wp lp (λe bB _=>e=.ret/\bB.defers=[cQ]/\bB.tmps[r]?=φ (.bool θ)) ⟨tl,[cQ]⟩ (aZ wl T))
 (hW:bV C1 ρ wl W)(hg:ρ 0 0)(hn:bJ wl.heap)(ht:aP ρ tl (args++Θ (fn.ntmps - args.size) ω))(lP:∀b,mZ ρ wl b)(hM:ri W):
 ∃N last o w' t',Aj4 ϋ (N+1) (solo (G (Aci ϋ f args .normal) []) W) #[]=(.ended o w',t')/\runN ϋ N (solo (G (Aci ϋ f args .normal) []) W)=.next last/\
  step ϋ last=.ended o w'/\Conc.Good ϋ (λv w'=>v=.bool θ/\Γ W.heap.size W w') last o w' t':=by
 have hs:=agR (f:=f) (r:=r) hc hl hW hg hn ht;have hG:∀g,G0 g=θ->ρ g g:=λg oy=>by
  have:g=0:=by simpa [G0] using oy
  subst this;exact hg
 have b7:eS C1 Cr ρ θ ⟨f,tl,[.code c,.code di],[cQ],.run,.normal,ν⟩ ⟨f,args++Θ (fn.ntmps - args.size) ω,[.code c],[],.run,.normal,ν⟩:=
  .mk f ht (.cons (.code c hc) .stop) .stop .run .none ⟨λh=>by simp at h,λ_=>rfl,λh=>absurd rfl h,λh=>by simp at h,rfl,λ_=>rfl⟩
 have hR:ni Cr (allM W) ρ (aO ⟨f,tl,[.code c,.code di],[cQ],.run,.normal,ν⟩ []) wl (aO ⟨f,args++Θ (fn.ntmps - args.size) ω,[.code c],[],.run,.normal,ν⟩ []) W:=
  ⟨.inside b7 .base,hW,hG,zF hW,λ_ hb=>kA.1 hb⟩
 have he:=zQ hf hb args .normal;rw[he];have hF:Fr ϋ #[aO ⟨f,args++Θ (fn.ntmps - args.size) ω,[.code c],[],.run,.normal,ν⟩ []] W #[] (λ_=>0) (aO ⟨f,args++Θ (fn.ntmps - args.size) ω,[.code c],[],.run,.normal,ν⟩ []):=
  ⟨rfl,λi x h hx=>by
    have:i<1:=(Ϟ.1 hx).1
    omega,ajC,λop h=>absurd h (by simp),λop h=>absurd h (by simp)⟩
 obtain⟨N1,iK,aA,nQ,nS,Fo,eZ,aE,dG,aa,r1,BS,⟨t,todo,h0,rfl⟩,xB,hB,hk⟩:=
  amp yj (λg w ⟨t,todo,_,e⟩=>by rw[e]) hs (n:=0) rfl hR hM (lP 0) ν hF
 have qj:Γ W.heap.size W aA:=⟨hB.os,hB.tape,hB.e,hB.size,λb hb=>hk b hb (lP b)⟩
 have qk:∀aq,AtRel aA aq->AtEnd ϋ Iz aA.heap.size (λv w'=>v=.bool θ/\Γ W.heap.size W w') eZ aq:=by
  rintro aq ⟨d,rfl⟩;have gr:=xB.gr;generalize eg:aO ⟨f,t,todo,[cQ],.returning,.normal,ν⟩ []=gg at gr;cases gr with
  | @inside b fr aV cs bh b7 hL=>
    have e1:=congrArg Goroutine.frame eg;have e2:=congrArg Aj8 eg;simp only at e1 e2;subst e1 e2;obtain⟨rfl,rfl⟩:=Lu hL;cases b7 with
    | @mk _ t1 t2 ym k1 k2 dg d1 d2 jT m1 rM r1 r2 ye kd2 gM=>
      cases ye;have qt:=gM.Cv rfl;subst qt;have hD:=xf jT;subst hD;obtain⟨v',Ea,vD⟩:=IZ ym h0;cases vD;have vB:t2.getD r ω=.bool θ:=cJ Ea;refine⟨rfl,.bool θ,#[],?_,λe he=>absurd he (by simp),rfl,qj.os,qj.tape,qj.output,qj.size,qj.block⟩
      have e:Abx ϋ θ ⟨f,t2,k2,[],.returning,.normal,ν⟩ [] ν (aA.at d)=.ended (.done (.bool θ)) (aA.at d) #[]:=by
       unfold Abx;simp only[hf,results1 hr,vB,ud,Acm,doReturn];simp[hi]
      exact e
  |hole f hf hx h aw hL=>
   have e2:=congrArg Aj8 eg;simp at e2
 obtain⟨N2,last,o,w',t',k1,k2,k3,k4⟩:=beside_ends (D:=λ_ _ _=>False) (λ_ _ _ h=>h.elim) (sl:=nQ) BS.zero BS.ag1 BS.gD (n:=0) qk
 refine⟨N1+N2,last,o,w',t',?_,?_,k3,k4⟩
 ·rw[Nat.add_assoc]
  exact uc _ _ _ r1 k1
 ·have:=congrArg Prod.fst (uc N1 (solo (G ⟨f,args++Θ (fn.ntmps - args.size) ω,[.code c],[],.run,.normal,ν⟩ []) W) #[] r1 rfl:_=Aj4 ϋ N2 (crowd iK aA nQ) nS)
  rw[runNT_fst,runNT_fst] at this;rw[this];exact k2
end Go.Jn
namespace Go.Jn
open Go Go.Proofs Go.Sim Go.Tw
def rW(W:Ψ):Ren:=λa b=>a=b/\fH W a
def Pv.self{W:Ψ}{v:υ}(h:Pv (fH W) v):ah (rW W) v v:=by
 cases v;case bool b=>exact .bool b
 case int k n=>exact .int k n
 case float=>exact h.elim
 case complex=>exact h.elim
 case string s=>exact .string s
 case pointer p=>
  cases p with
  |none=>exact .ptrNone
  |some a=>exact .ptr ⟨⟨rfl,h⟩,rfl,rfl⟩
 case slice p n c=>
  cases p with
  |none=>exact .sliceNone n c
  |some a=>
   rcases h with h| ⟨rfl,rfl⟩
   ·exact .slice n c ⟨⟨rfl,h⟩,rfl,rfl⟩
   ·exact .sliceDead _ _
 case map p=>
  cases p with
  |none=>exact .mapNone
  |some a=>exact h.elim
 case chan p=>
  cases p with
  |none=>exact .chanNone
  |some a=>exact h.elim
 case func f x y=>
  cases f with
  |func f=>
   obtain⟨rfl,rfl⟩:=h;exact .func (.func f) rfl (λi hi _=>absurd hi (by simp)) rfl (λi hi _=>absurd hi (by simp))
  |_=>exact h.elim
 case nilFunc=>exact .nilFunc
 case iface=>exact h.elim
 case nilIface=>exact .nilIface
 case agg=>exact h.elim
 case tuple=>exact h.elim
def I9(W:Ψ)(c:Array υ):∃u:Array υ,aP (rW W) u c/\u.size=c.size/\∀(i:Nat) (v:υ),c[i]?=φ v->Pv (fH W) v->u[i]?=φ v:=by
 have key:∀v',∃u,ah (rW W) u v'/\(Pv (fH W) v'->u=v'):=λv'=>by
  by_cases hp:Pv (fH W) v'
  ·exact⟨v',hp.self,λ_=>rfl⟩
  ·obtain⟨u,hu⟩:=rB (rW W) v'
   exact⟨u,hu,λh=>absurd h hp⟩
 refine⟨c.map λv=>Aa6 (key v),⟨by simp,λi h1 h2=>?_⟩,by simp,λi v hi hp=>?_⟩
 ·simp only[Array.getElem_map]
  exact(Aa7 (key _)).1
 ·rw[Aa1,hi]
  exact congrArg φ ((Aa7 (key v)).2 hp)
def E9(W:Ψ):Obj->Obj
 | .cells c e _=>.cells (Aa6 (I9 W c)) e (0,(Aa6 (I9 W c)).size)
 |_=>.cells #[] 0 (0,0)
def nA(W:Ψ):Ψ:={W with heap:=W.heap.map (E9 W)}
section
variable {W:Ψ}
def Tk:(nA W).heap.size=W.heap.size:=by simp[nA]
def GM{a:Nat}{c:Array υ}{e:ό}{fr:Nat×Nat}(h:W.heap[a]?=φ (.cells c e fr)):
 ∃u:Array υ,(nA W).heap[a]?=φ (.cells u e (0,u.size))/\aP (rW W) u c/\u.size=c.size/\∀(i:Nat) (v:υ),c[i]?=φ v->Pv (fH W) v->u[i]?=φ v:=by
 refine⟨Aa6 (I9 W c),?_,Aa7 (I9 W c)⟩
 unfold nA;simp only[Aa1,h,Ag3]
 rfl
def acU(C:bQ):bV C (rW W) (nA W) W where
 dA a b hab:=by rw[Tk];exact LP hab.2
 dc a b hab:=by rw[<-hab.1];exact LP hab.2
 fn a b b' x y:=x.1.symm.trans y.1
 inj a a' b x y:=x.1.trans y.1.symm
 obj a b o hab ho:=by
  obtain⟨rfl,c,e,fr,h⟩:=hab;obtain⟨u,h1,h2,h3,h4⟩:=GM h;rw[h1] at ho;cases ho;exact⟨_,h,.cells e h2 (.inr ⟨rfl,ϊ _⟩)⟩
def acV(b:Nat):mZ (rW W) (nA W) b:=by
 rintro a ⟨rfl,c,e,fr,h⟩;obtain⟨u,h1,h2,h3,h4⟩:=GM h;exact⟨_,h1,rfl,ϊ _⟩
def acX:bJ (nA W).heap:=by
 intro o ho hb;obtain⟨a,ha⟩:=Ajr ho
 unfold nA at ha;simp only[Aa1] at ha
 obtain⟨o1,_,rfl⟩:=Aef.1 ha;cases o1<;>exact hb
def acT{p:Addr}{v:υ}(h: W.cell? p=φ v)(hp:Pv (fH W) v):(nA W).cell? p=φ v:=by
 have hS:=LQ h;obtain⟨c,e,fr,ho⟩:=hS;obtain⟨u,h1,h2,h3,h4⟩:=GM ho;unfold World.cell? at h |-
 rw[ho] at h;rw[h1];simp only at h |-
 split at h
 ·cases h
 ·rename_i hs
  rw[if_neg hs];exact h4 _ _ h hp
variable {α:Type}{B sz:Nat}{R R':α->List υ->Prop}{v:υ}{xs:List α}
def Fp(aI:0<sz)(h:Row W B sz R v xs)(he:Sv (fH W) v):Pv (fH W) v:=by
 obtain⟨A,c,rfl,h1,h2,h3⟩:=h;cases A with
 |none=>exact trivial
 |some A=>
  cases xs with
  |nil=>exact(he A _ c rfl rfl).imp id λh=>⟨rfl,h⟩
  |cons x xs=>
   obtain⟨ad,e,hb,h4⟩:=h3 (by simp)
   cases e;obtain⟨cs,_,hl,hc⟩:=h4 0 x rfl;obtain⟨u,hu⟩:∃u,cs[0]?=φ u:=⟨cs[0]'(by omega),Af9 _⟩
   have:=LQ (hc 0 u hu);rw[cq] at this;exact .inl this
def Bq(h:Row W B sz R v xs)(hR:∀x cs,R x cs->R' x cs/\∀u∈cs,Pv (fH W) u):Row (nA W) B sz R' v xs:=by
 obtain⟨A,c,e,h1,h2,h3⟩:=h;refine⟨A,c,e,h1,h2,λhx=>?_⟩
 obtain⟨ad,hA,hb,h4⟩:=h3 hx;refine⟨ad,hA,hb,λi x hi=>?_⟩
 obtain⟨cs,r,hl,au⟩:=h4 i x hi;have:=hR x cs r;exact⟨cs,this.1,hl,λj u hu=>acT (au j u hu) (this.2 u (ϩ hu))⟩
def acS{b:ao}{pv bv tv:υ}(h:FY (fH W) W B b pv bv tv):bg (nA W) B b pv bv tv/\Pv (fH W) pv/\Pv (fH W) bv/\Pv (fH W) tv:=by
 refine⟨⟨Bq h.pieces λx cs r=>⟨r,λu hu=>?_⟩,Bq h.aF λx cs r=>?_,Bq h.aJ λx cs r=>?_⟩,Fp (by omega) h.pieces h.sp,Fp (by omega) h.aF h.sb,Fp (by omega) h.aJ h.st⟩
 ·obtain⟨rfl,_⟩:=r
  simp only[ϫ,Λ,or_false] at hu;rcases hu with rfl|rfl|rfl|rfl<;>exact trivial
 ·obtain⟨⟨kv,rfl,k1,k2⟩,k3⟩:=r
  have hp:Pv (fH W) kv:=Fp (by omega) k2 (k3 kv (by simp))
  refine⟨⟨kv,rfl,k1,Bq k2 λx cs r=>⟨r,λu hu=>?_⟩⟩,λu hu=>?_⟩
  ·rw[show cs=_ from r] at hu
   simp only[ϫ,Λ,or_false] at hu;rcases hu with rfl|rfl<;>exact trivial
  ·simp only[ϫ,Λ,or_false] at hu
   rcases hu with rfl|rfl|rfl
   ·exact trivial
   ·exact trivial
   ·exact hp
 ·obtain⟨⟨kv,rfl,k2⟩,k3⟩:=r
  have hp:Pv (fH W) kv:=Fp (by omega) k2 (k3 kv (by simp))
  refine⟨⟨kv,rfl,Bq k2 λx cs r=>⟨r,λu hu=>?_⟩⟩,λu hu=>?_⟩
  ·rw[show cs=_ from r] at hu
   simp only[ϫ,Λ,or_false] at hu;rcases hu with rfl;exact trivial
  ·simp only[ϫ,Λ,or_false] at hu
   rcases hu with rfl|rfl|rfl
   ·exact hp
   ·exact trivial
   ·exact trivial
def acW(h:ri W):gI (nA W)/\rW W 0 0:=by
 obtain⟨fr,h⟩:=h;refine⟨?_,rfl,_,_,_,h⟩
 obtain⟨u,h1,h2,h3,h4⟩:=GM h;have e:u=#[.func (.func 234) #[] #[],.func (.func 236) #[] #[]]:=by
  have a0:=h4 0 _ rfl ⟨rfl,rfl⟩;have a1:=h4 1 _ rfl ⟨rfl,rfl⟩;refine Ajt λi=>?_
  match i with
  |0=>rw[a0];rfl
  |1=>rw[a1];rfl
  |i+2=>
   rw[Aan (by rw[h3];simp),Aan (by simp)]
 subst e;exact⟨_,h1⟩
end
end Go.Jn
namespace Go.Jn
open Go Go.Proofs Go.Sim Go.Tw Go.ChangeShapes Go.WideShapes Go.ChangeAt Go.RowKit
abbrev Et{H:Type}:List (String×DataW H):=[("ribband/mould.measures",YtfifdjajcogccaaGreatDoor.Rows.laid_ribband_mould_measures)]
def ajr:ownKnob ϋ.godebug=ν:=by kernel_rfl
def agN:laidOutB ϋ=θ:=by kernel_rfl
def ada:ϋ.globalNamed "ribband/mould.measures" =φ 0:=by kernel_rfl
def al9:(ϋ.globals[0]?).map (·.type)=φ 146:=by kernel_rfl
def aaf:ϋ.cellsOf 145=1:=by kernel_rfl
def aag:ϋ.cellsOf 146=2:=by kernel_rfl
def aae:ϋ.cellsOf 143=1:=by kernel_rfl
def abi(os:Os)(args:Array υ):laidMetH ϋ Et ((Ake ϋ 600 os).forCall (λ_ _=>0) ⟨#[],args,[]⟩).memory:=
 laidMetH_of_parts3 (fuel:=8) (laidMet_of_run' 8 (by kernel_rfl) (by kernel_rfl)) (by kernel_rfl) (by kernel_rfl)
def alp(os:Os)(args:Array υ):((Ake ϋ 600 os).forCall (λ_ _=>0) ⟨#[],args,[]⟩).Shaped ϋ:=
 World.shaped_of_RefB (by kernel_rfl) (by kernel_rfl)
def Zu:(((begin ϋ (λ_ _=>0) default).world.heap[0]?).bind Obj.row?).map (λx=>(x.1.size,x.2))=φ (2,146):=by kernel_rfl
def adf:0<ϋ.globals.size:=of_decide_eq_true (by kernel_rfl)
def Wq{W:Ψ}{n:Nat}{c:υ}{d:DataW (List UInt8)}{q:List Aj6}{b:UInt8}{r:List UInt8}{f0:Ϫ}
 (AB:((List.range ϋ.funcs.size).filter λf=>(ϋ.funcs[f]?).any (·.name.toUTF8.data.toList==b::r))=[f0])
 (h:DataW.trod (funcToken ϋ) ϋ W 0 (λ_=>θ) θ n 145 [c]=φ (d,q))(hd:d=.agg [.held (b::r)]):c=.func (.func f0) #[] #[]:=by
 obtain⟨xs,m,_,hx,_,hl,h1⟩:=DataW.trod_struct Tryz.underlying145 h;have e:=congrArg Prod.fst hx;simp only[hd,DataW.agg.injEq] at e;match xs,hl with
 | [x],_=>
   simp only[Akj,Akk,List.cons.injEq,and_true] at e;have h2:DataW.trod (funcToken ϋ) ϋ W 0 (λ_=>θ) θ m 143 [c]=φ x:=by
     have:=h1 0 _ rfl;simpa [aae] using this
   obtain⟨x1,x2⟩:=x;simp only at e;subst e;exact func_of_trod Tryz.underlying143 AB h2
def ah0{W:Ψ}(hs:W.ShapedOpen ϋ)(h:laidMetH ϋ Et W):ri W:=by
 obtain⟨g,t,cs,fuel,p,hg,ht,hv,hd⟩:=h.funcs (Af2.2 rfl);obtain rfl:=ϟ (ada.symm.trans hg);obtain rfl:=ϟ (al9.symm.trans ht);obtain⟨xs,m,_,hx,hl,hn,h1⟩:=DataW.trod_array Tryz.underlying146 hd;rw[aag] at hl;have e:=congrArg Prod.fst hx;match cs,hl with
 | ⟨[c0,c1]⟩,_=>
 match xs,hn with
 | [x0,x1],_=>
   have e2:(DataW.agg [.agg [.held [114,105,98,98,97,110,100,47,109,111,117,108,100,46,109,101,97,115,117,114,101,115,36,49]],.agg [.held [114,105,98,98,97,110,100,47,109,111,117,108,100,46,109,101,97,115,117,114,101,115,36,50]]]:DataW (List UInt8))=.agg [x0.1,x1.1]:=e;simp only[DataW.agg.injEq,List.cons.injEq,and_true] at e2;have k0:=h1 0 (by omega)
   have k1:=h1 1 (by omega)
   simp only[aaf] at k0 k1;have f0:c0=.func (.func 234) #[] #[]:=Wq (by kernel_rfl) (show DataW.trod (funcToken ϋ) ϋ W 0 (λ_=>θ) θ m 145 [c0]=φ (x0.1,x0.2) from k0) e2.1.symm
   have f1:c1=.func (.func 236) #[] #[]:=Wq (by kernel_rfl) (show DataW.trod (funcToken ϋ) ϋ W 0 (λ_=>θ) θ m 145 [c1]=φ (x1.1,x1.2) from k1) e2.2.symm
   subst f0 f1;have hb:=Zu;cases hz:((begin ϋ (λ_ _=>0) default).world.heap[0]?).bind Obj.row? with
   |none=>rw[hz] at hb;cases hb
   |some z=>
    rw[hz] at hb;obtain⟨zero,t⟩:=z;simp only[Ag3,Aeh,Prod.mk.injEq] at hb;obtain⟨ba,rfl⟩:=hb;obtain⟨bh,hc,aI,_⟩:=hs.1 0 zero 146 adf hz;refine⟨(0,0),?_⟩
    rw[hc];have cell:∀i,W.cell? ⟨0,i,ν⟩=bh[i]?:=λi=>cell_of_row W 0 i _ 146 _ hc
    have a0:=World.var?_cell hg hv 0
    have a1:=World.var?_cell hg hv 1
    rw[cell] at a0 a1;have:bh=#[.func (.func 234) #[] #[],.func (.func 236) #[] #[]]:=by
     refine Ajt λi=>?_
     match i with
     |0=>exact a0
     |1=>exact a1
     |i+2=>rw[Aan (by rw[aI,ba];omega),Aan (by simp)]
    rw[this]
end Go.Jn
namespace Go.Jn
open Go Go.Proofs Go.Sim Go.Conc Go.Tw Go.RowKit
end Go.Jn
namespace Go.Jn
open Go Go.Proofs Go.Sim Go.Conc Go.Tw Go.RowKit
def ai1:stub.ntmps=1:=rfl
def akh:stub.results=#[.tmp 0]:=rfl
def P3(w:Ψ):ύ lp 21 #[] w λe w'=>e=Ω (.bool θ)/\w=w':=by
 letI:=jg
 go_enter GO,ai1;unfold kg;go_wp2;exact bodyPost_ret (v:=.bool θ) (by simp[results,akh,go_sem]) rfl ⟨rfl,rfl⟩
@[go_sem]theorem call21(args:Array υ)(w:Ψ):(callFunc 21 args).run (@Tw.prog jg) w=.ok (.enter 21 args) w:=by
  obtain⟨c,hc,_⟩:=Je;have h:=ad3 (P:=lp) GO hc agW args w;have:=congrArg Prod.fst h;rw[Sem.runT_fst] at this;exact this
def Px{α:Type}{w w':Ψ}{sz:Nat}{R:α->List υ->Prop}{v:υ}{xs:List α}(h:Row w w.heap.size sz R v xs)(hb:Γ w.heap.size w w'):Row w' w'.heap.size sz R v xs:=
 (h.still (Δ.aK hb (ϊ _)) λ_ _ h=>h).more hb.size
def ahK{w:Ψ}{B B':Nat}{b:ao}{pv bv tv:υ}(h:bg w B b pv bv tv)(hB:B<=B'):bg w B' b pv bv tv:=
 ⟨h.pieces.more hB,(h.aF.still (Δ.refl _) λx cs ⟨kv,h1,h2,h3⟩=>⟨kv,h1,h2,h3.more hB⟩).more hB,(h.aJ.still (Δ.refl _) λx cs ⟨kv,h1,h3⟩=>⟨kv,h1,h3.more hB⟩).more hB⟩
def adw{w w':Ψ}{b:ao}{mI:List Cut->Int}{e:Ending}(hn:fA b mI=ν)(h:wM w b mI e w'):e=Ω (μ #[ζ ν 0 0,ξ κ 0,.bool χ,ξ κ (cj b 0)])/\Γ w.heap.size w w':=by
 obtain⟨cv,mv,fv,rfl,aQ,hb⟩:=h;rw[hn] at aQ;obtain⟨rfl,rfl,rfl⟩:=aQ;exact⟨rfl,hb⟩
def acR{b:ao}{mI:List Cut->Int}{x:List Cut×Int}(h:fA b mI=φ x):cj b 0=0:=by
 unfold fA at h;split at h
 ·assumption
 ·cases h
def adz{w w':Ψ}{b:ao}{mI:List Cut->Int}{e:Ending}{x:List Cut}{m:Int}(hn:fA b mI=φ (x,m))(h:wM w b mI e w'):∃A k c,e=Ω (μ #[.slice A k c,ξ κ m,.bool θ,ξ κ 0])/\w'.ownsRow w.heap.size 56 2 (.slice A k c) b.pieces.length (x.flatMap Cut.vs)/\Γ w.heap.size w w':=by
 letI:=jg
 obtain⟨cv,mv,fv,rfl,aQ,hb⟩:=h;rw[hn] at aQ;obtain⟨ho,rfl,rfl⟩:=aQ;obtain⟨A,k,c,rfl⟩:=j8 ho;exact⟨A,k,c,by rw[acR hn],ho,hb⟩
def afa{b:ao}(h:sS b=θ):dF b=0:=by
 unfold sS at h;simp only[Aa3,decide_eq_true_eq] at h;exact h.2
def c7:ϖ:=(Tryz.f7.body).getD .skip
def t7(v:υ)(p q:Nat):Array υ:=#[v,.int .u8 p,.int .u8 q,ω,ω,ω,ω,ω,ω,ω,ω,ω,ω,ω,ω,ω,ω,ω,ω,ω,ω,ω,ω,ω,ω,ω,ω,ω,ω,ω,ω,ω,ω,ω,ω,ω,ω,ω,ω,ω,ω,ω,ω,ω,ω,ω,ω,ω,ω,ω,ω,ω,ω,ω,ω,ω,ω,ω,ω,ω,ω,ω,ω,ω,ω,ω,ω,ω,ω,ω,ω,ω,ω,ω,ω,ω,ω,ω,ω,ω,ω,ω,ω,ω,ω,ω,ω,ω,ω,ω,ω,ω,ω,ω,ω,ω,ω,ω,ω,ω,ω,ω,ω,ω,ω,ω,ω,ω,ω,ω,ω,ω,ω,ω,ω,ω,ω,ω,ω,ω,ω]
def Za(r:Nat)(e:Exit)(a:Act)(_:Ψ):Prop:=e=.ret/\a.defers=[cQ]/\a.tmps[r]?=φ (.bool θ)
end Go.Jn
namespace Go.Jn
open Go Go.Proofs Go.Sim Go.Tw Go.Conc Go.ChangeShapes Go.WideShapes Go.ChangeAt Go.RowKit
open YtfifdjajcogccaaGreatDoor
def aj2{W:Ψ}{b:ao}{pv bv tv:υ}(q1:Pv (fH W) pv)(q2:Pv (fH W) bv)(q3:Pv (fH W) tv):ah (rW W) (η #[ξ κ b.ag,pv,bv,tv]) (η #[ξ κ b.ag,pv,bv,tv]):=
 .agg rfl λi h1 h2=>by
  match i,h1,h2 with
  |0,_,_=>exact .int _ _
  |1,_,_=>exact q1.self
  |2,_,_=>exact q2.self
  |3,_,_=>exact q3.self
def aj7(ρ:Ren)(n:Nat):aP ρ (Θ n ω) (Θ n ω):=
 bU.refl λa ha=>by
  rw[(Aav.1 ha).2];exact ah.tuple' .empty
def apJ{ρ:Ren}{a b c a' b' c':υ}(h1:ah ρ a a')(h2:ah ρ b b')(h3:ah ρ c c'):aP ρ #[a,b,c] #[a',b',c']:=
 ⟨rfl,λi k1 k2=>by
   match i,k1,k2 with
   |0,_,_=>exact h1
   |1,_,_=>exact h2
   |2,_,_=>exact h3⟩
end Go.Jn
namespace Go.Jn
open Go Go.Proofs Go.Sim Go.Conc Go.Tw Go.RowKit
def c6:ϖ:=(Tryz.f6.body).getD .skip
def t6(v k:υ):Array υ:=#[v,k,ω,ω,ω,ω,ω,ω,ω,ω,ω,ω,ω,ω,ω,ω,ω,ω,ω,ω,ω,ω,ω,ω,ω,ω,ω,ω,ω,ω,ω,ω,ω,ω,ω,ω,ω,ω,ω,ω,ω,ω,ω,ω,ω,ω,ω,ω,ω,ω,ω,ω,ω,ω,ω,ω,ω,ω,ω,ω,ω,ω,ω,ω,ω,ω,ω,ω,ω,ω,ω,ω,ω,ω,ω,ω,ω,ω,ω,ω,ω,ω,ω,ω,ω,ω,ω,ω,ω,ω,ω,ω,ω,ω,ω,ω,ω,ω,ω,ω,ω,ω,ω,ω,ω,ω,ω,ω,ω,ω,ω,ω,ω,ω,ω,ω,ω,ω,ω,ω,ω,ω,ω,ω,ω,ω,ω,ω,ω,ω,ω,ω,ω,ω,ω,ω,ω,ω,ω,ω,ω,ω,ω,ω,ω,ω,ω,ω,ω,ω,ω,ω,ω,ω,ω,ω,ω,ω,ω,ω,ω,ω,ω,ω,ω,ω,ω,ω,ω,ω,ω,ω,ω,ω,ω,ω,ω,ω,ω,ω,ω,ω,ω,ω,ω,ω,ω,ω,ω,ω,ω,ω,ω,ω,ω,ω,ω,ω,ω,ω,ω,ω,ω,ω,ω,ω,ω,ω,ω,ω]
def RO{b:ao}{x:List Cut}(h:cj b 0=0)(hx:wH b x):cj b (ez b x)=0:=by
 letI:=jg
 have:ez b x=0:=by
  unfold ez;rw[if_neg (by simpa using hx.1)]
  exact EM _ _ hx.2
 rw[this];exact h
def RL{b:ao}(hn:0<b.aF.length)(ps:List Nat):wH b (sd b ps):=by
 refine⟨by simp[sd],λc hc=>?_⟩
 unfold sd at hc;obtain⟨i,-,rfl⟩:=List.mem_map.1 hc;refine⟨⟨_,rfl,Nat.mod_lt _ hn⟩,?_,?_⟩
 ·show(0:Int)<=((pn ps (4+2 * i) % 41:Nat):Int);omega
 ·show((pn ps (4+2 * i) % 41:Nat):Int)<=40;omega
def apb{b:ao}(h:cj b 0=0):aD b≠ []:=by
 intro e;unfold cj at h;split at h
 ·rename_i hc;exact hc h
 ·rw[if_neg (by simp),if_pos (by rw[e];rfl)] at h;cases h
end Go.Jn
namespace Go.Jn
open Go Go.Proofs Go.Sim Go.Tw Go.Conc Go.ChangeShapes Go.WideShapes Go.ChangeAt Go.RowKit
open YtfifdjajcogccaaGreatDoor
def apL{W:Ψ}{r:Reach}{base:Nat}{v:υ}(h:Value.okWide ϋ W r base 50 v):v.cells=#[v]:=by
 unfold Value.okWide at h;rw[Tryz.underlying50] at h;simp only at h;unfold Cell.okWide at h;rw[Tryz.underlying50] at h;cases v<;>first|rfl| (unfold Cell.ok at h;rw[Tryz.underlying50] at h;exact h.elim)
def ahM:ϋ.cellsOf 161=1:=by kernel_rfl
def apc{H:Type}{enc:ό×υ->H}{W:Ψ}{n:Nat}{cs:List υ}{y:DataW H×List Aj6}(h:oh enc W n 50 cs=φ y):∃v ps,cs=[v]/\Row W W.heap.size 1 yc v ps/\Sv (fH W) v:=
 Fq Tryz.underlying50 ahM (by decide) (λm cs y h _=>by
  obtain⟨x,rfl,_,hw⟩:=DataW.trod_int Tryz.underlying161 h;simp[Lit.wf,IntKind.min,IntKind.max,IntKind.signed,IntKind.bits] at hw;exact⟨x.toNat,by rw[Int.toNat_of_nonneg (by omega)],by omega⟩) h
end Go.Jn
namespace Go.Jn
open Go Go.Proofs Go.Sim Go.Conc Go.Tw Go.RowKit
def c15:ϖ:=(Tryz.f15.body).getD .skip
def t15(v k:υ)(p:Nat):Array υ:=#[v,k,.int .u8 p,ω,ω,ω,ω,ω,ω,ω,ω,ω,ω,ω,ω,ω,ω,ω,ω,ω,ω,ω,ω,ω,ω,ω,ω,ω,ω,ω,ω,ω,ω,ω,ω,ω,ω,ω,ω,ω,ω,ω,ω,ω,ω,ω,ω,ω,ω,ω,ω,ω,ω,ω,ω,ω,ω,ω,ω,ω,ω,ω,ω,ω,ω,ω,ω,ω,ω,ω,ω,ω,ω,ω,ω,ω,ω,ω,ω,ω,ω,ω,ω,ω,ω,ω,ω,ω,ω,ω,ω,ω,ω,ω,ω,ω,ω,ω,ω,ω,ω,ω,ω,ω,ω,ω,ω,ω,ω,ω,ω,ω,ω,ω,ω,ω,ω,ω,ω,ω,ω,ω,ω,ω,ω,ω,ω,ω,ω,ω,ω,ω,ω,ω,ω,ω,ω,ω,ω,ω,ω,ω,ω,ω,ω,ω,ω,ω,ω,ω,ω,ω,ω,ω,ω,ω,ω,ω,ω,ω,ω,ω,ω,ω,ω,ω,ω,ω,ω,ω,ω,ω,ω,ω,ω,ω,ω,ω,ω,ω,ω,ω,ω,ω,ω,ω,ω,ω,ω,ω,ω,ω,ω,ω,ω,ω,ω,ω,ω,ω,ω,ω,ω,ω,ω,ω,ω,ω,ω,ω,ω,ω,ω,ω,ω,ω,ω,ω,ω,ω,ω,ω,ω,ω,ω,ω,ω,ω,ω,ω,ω]
structure abG(b o:ao)(ps:List Nat)(L:an):Prop where
 h0:dF o=0
 mem:L∈aD o
 op:cj o 0=0
 aH:qL o (en b ps)=0
 o5:o5 o (en b ps)=0
 tn:tn o (en b ps)=θ
 clash:zM o=[]
 one:0<Gt o
 tot:bX L.sum (oK (aD o)).lo (oK (aD o)).hi=θ
 sum:sg L (oC b.pieces.length)=L.sum
 list:en b ps=zn b.pieces.length L
 lens:fK (en b ps)=L
 ok:L.Ok
def aph{b:ao}(h:dF b=0)(ps:List Nat):abG b (sc b (fK (en b ps))) ps (fK (en b ps)):=by
 letI:=jg
 have hv:=iy h;have Bm:=Tf hv ps;have h0:=aeu (R9 Bm) h;have K7:=iy h0;have hm:=apf h ps;have aw:(aD (sc b (fK (en b ps)))).length≠0:=by
  intro e;rw[List.eq_nil_of_length_eq_zero e] at hm;cases hm
 have rL:qL (sc b (fK (en b ps))) (en b ps)=0:=by
  unfold qL;rw[if_neg (by rw[z7];simp[sc]),if_neg]
  simp only[List.any_eq_true,Ajy,not_exists,not_and,Bool.not_eq_false];intro n hn;have:=Bm n hn;unfold bX;simp;omega
 have hs:o5 (sc b (fK (en b ps))) (en b ps)=0:=by unfold Tw.o5;rw[if_neg (by simpa using h0),rL]
 refine⟨h0,hm,?_,rL,hs,?_,?_,?_,?_,?_,?_,rfl,ag9 Bm⟩
 ·unfold cj
  rw[if_neg (by simpa using h0),if_neg (by simp),if_neg aw]
 ·unfold Tw.tn
  rw[if_pos hs];exact(Q8 K7 (ahl rL).1).1 hm
 ·unfold zM;rw[if_neg aw]
 ·unfold Gt;rw[if_neg (by simpa using h0)];omega
 ·have:=apV hm
  unfold bX;simp;omega
 ·exact ag0 K7 hm
 ·rw[adO (by rw[z7]) hv.np.2]
def aet{o:ao}{L:an}(hm:L∈aD o)(ho:cj o 0=0){c:List Cut}(hc:wH o c):wz o c=0\/(wz o c=1/\fp o L c=θ)\/(wz o c=2/\fp o L c=χ):=by
 letI:=jg
 have aw:=apb ho;have e:wz o c=za (iI (λL=>fp o L c) (aD o)) (aD o).length:=by
  unfold wz;rw[if_neg (by rw[RO ho hc];simp)]
 have h1:=apS (P:=λL=>fp o L c) aw
 have h2:=apT (P:=λL=>fp o L c) (l:=aD o)
 rw[<-e] at h1 h2;by_cases q1:wz o c=1
 ·exact .inr (.inl ⟨q1,h1.1 q1 L hm⟩)
 by_cases q2:wz o c=2
 ·exact .inr (.inr ⟨q2,by simpa using h2.1 q2 L hm⟩)
 left;rw[e] at q1 q2 |-
 unfold za at q1 q2 |-
 split
 ·rename_i h;rw[if_pos h] at q2;omega
 ·split
  ·rename_i h h';rw[if_neg h,if_pos h'] at q1;omega
  ·rfl
def aps{w:Ψ}{B n c i:Nat}{A:Option Addr}{l:List Int}{x:Int}(h:Row w B 1 cH (.slice A n c) l)(hx:l[i]?=φ x):∃la,A=φ la/\la.block<B/\ w.cell? (la.add i)=φ (ξ κ x):=by
 obtain⟨A',c',e,-,-,h3⟩:=h;cases e;obtain⟨la,ha,hb,hc⟩:=h3 (by intro e;rw[e] at hx;simp at hx)
 obtain⟨cs,rfl,-,au⟩:=hc i x hx;have:=au 0 _ rfl;rw[Nat.mul_one] at this;exact⟨la,ha,hb,this⟩
def adA{b:ao}{x:List Cut}(hx:wH b x):ez b x=0:=by
 letI:=jg
 unfold ez;rw[if_neg (by simpa using hx.1)]
 exact EM _ _ hx.2
def acK{b:ao}{mI:List Cut->Int}{x:List Cut}{m:Int}(h:fA b mI=φ (x,m)){L:an}(hL:L∈aD b):fp b L x=θ:=by
 letI:=jg
 have ho:=acR h;unfold fA at h;rw[if_pos ho] at h;exact(ahq h).1 L hL
def ao8{b:ao}{x:List Cut}(h:b.aF.length=0)(hp:0<b.pieces.length)(hx:wH b x):False:=by
 cases x with
 |nil=>have:=hx.1;simp at this;omega
 |cons c x=>
  obtain⟨⟨k,-,hk⟩,-⟩:=hx.2 c (by simp)
  omega
def apr{b:ao}{ps:List Nat}{p:Nat}{pv bv tv kv:υ}{w:Ψ}{B:Nat}(ai:bg w B b pv bv tv)(NU:Row w B 1 yc kv ps)(hB:B<=w.heap.size)(hm:gI w)(hp:p<256):
 c15.wp lp (Za 6) ⟨t15 (η #[ξ κ b.ag,pv,bv,tv]) kv p,[cQ]⟩ w:=by
 letI:=jg
 have bT:=ψ ai;have Z2:=ψ NU;have HM:=ψ hm;obtain⟨PA,np,pc,rfl,e1,-⟩:=ai.pieces.Φ;obtain⟨TA,nt,tc,rfl,-⟩:=ai.aJ.Φ;obtain⟨A,m,c,rfl,e2,NF,hmx,-⟩:=ai.aF.Φ;obtain⟨KA,nk,kc,rfl,-⟩:=NU.Φ;have EL:=ψ (ϐ e1 e2);obtain⟨W0,z8⟩:∃W0,W0=w.alloc (Ξ #[ξ κ b.ag,.slice PA np pc,.slice A m c,.slice TA nt tc] 26):=⟨_,rfl⟩
 have Z0:W0.heap.size=w.heap.size+1:=by rw[z8];simp
 have BW:Hid (Below w.heap.size w W0):=ψ (by rw[z8];exact(Below.refl _ _).alloc (ϊ _) _)
 have KB:Hid (Bk W0 w.heap.size 26 #[ξ κ b.ag,.slice PA np pc,.slice A m c,.slice TA nt tc]):=ψ (by rw[z8];exact Bk.new _ _ _)
 have ST:Hid (∀W,Below (w.heap.size+1) W0 W->Δ B w W/\w.heap.size+1<=W.heap.size):=ψ λW hW=>by
  have hs:=hW.size;exact⟨Δ.aK (BW.e.trans (hW.mono (by omega))) hB,by omega⟩
 have S0:Hid (∀W,Below (w.heap.size+1) W0 W-> W.cell? ⟨w.heap.size,0,ν⟩=φ (ξ κ b.ag)/\ W.cell? ⟨w.heap.size,1,ν⟩=φ (.slice PA np pc)/\ W.cell? ⟨w.heap.size,2,ν⟩=φ (.slice A m c)/\ W.cell? ⟨w.heap.size,3,ν⟩=φ (.slice TA nt tc)/\w.heap.size<W.heap.size):=ψ λW hW=>
  have k:=KB.e.below hW (by omega)
  ⟨k.cell 0,k.cell 1,k.cell 2,k.cell 3,k.lt⟩
 have KT:Hid (∀W,Below (w.heap.size+1) W0 W->ύ lp 40 #[η #[ξ κ b.ag,.slice PA np pc,.slice A m c,.slice TA nt tc]] W λe w'=>e=Ω (.bool (sS b))/\Below (w.heap.size+1) W0 w'):=ψ λW hW=>by
  obtain⟨st,hs⟩:=ST.e W hW;exact(fit (bT.e.still st) (by omega)).mono λe w' ⟨h,hb⟩=>⟨h,hW.trans (hb.mono hs)⟩
 clear ai NU hm e1 e2 NF hmx;unfold c15 t15;simp only[Tryz.f15,Akq];go_wp2;rw[<-z8]
 go_at_call 40
 refine(KT.e _ (Below.refl _ _)).mono ?_
 rintro e w1 ⟨rfl,ae⟩;obtain⟨r0,r1,r2,r3,yF⟩:=S0.e w1 ae;have H1:=ψ ae;clear ae z8;cases hf:sS b with
 |false=>
  go_wp2
  go_at_call 21
  refine(P3 _).mono ?_
  rintro e w' ⟨rfl,rfl⟩;go_wp2;exact⟨rfl,rfl,rfl⟩
 |true=>
 have h0:=afa hf;have hv:=iy h0;have kH:1<=np/\np<=3:=by have:=hv.np;have:=EL.e.1;omega
 have QM:m<=3:=by have:=hv.nb;have:=EL.e.2;omega
 obtain⟨L,hL⟩:∃L,L=fK (en b ps):=⟨_,rfl⟩
 obtain⟨O,hO⟩:∃O,O=sc b L:=⟨_,rfl⟩
 have RF:Hid (abG b O ps L):=ψ (by rw[hO,hL];exact aph h0 ps)
 have Pl:O.ag=b.ag:=by rw[hO];rfl
 have EO:Hid (O.pieces.length=np/\O.aF.length=m):=ψ (by rw[hO];exact EL.e)
 have C65:Hid (∀W,Below (w.heap.size+1) W0 W->ύ lp 65 #[η #[ξ κ b.ag,.slice PA np pc,.slice A m c,.slice TA nt tc],.slice KA nk kc] W λe w'=>∃LA lc,e=Ω (.slice LA np lc)/\w'.ownsRow (w.heap.size+1) 3 1 (.slice LA np lc) np ((en b ps).map (ξ κ))/\Below (w.heap.size+1) W0 w'):=ψ λW hW=>by
  obtain⟨st,hs⟩:=ST.e W hW;refine(apd (bT.e.still st) (Z2.e.still st λ_ _ h=>h) (by omega) hv).mono ?_
  rintro e w' ⟨u,rfl,ho,hb⟩;obtain⟨LA,n',lc,rfl⟩:=j8 ho;obtain rfl:=Be ho;rw[EL.e.1] at ho |-
  exact⟨LA,lc,rfl,ho.base (by omega),hW.trans (hb.mono hs)⟩
 have C76:Hid (∀W LA lc,Below (w.heap.size+1) W0 W->Row W W.heap.size 1 cH (.slice LA np lc) (en b ps)->ύ lp 76 #[η #[ξ κ b.ag,.slice PA np pc,.slice A m c,.slice TA nt tc],.slice LA np lc] W λe w'=>∃TB n2 c2,e=Ω (η #[ξ κ b.ag,.slice PA np pc,.slice A m c,.slice TB n2 c2])/\(∀V,Kept B W.heap.size w' V->bg V V.heap.size O (.slice PA np pc) (.slice A m c) (.slice TB n2 c2))/\Below W.heap.size W w'):=ψ λW LA lc hW hr=>by
  obtain⟨st,hs⟩:=ST.e W hW;refine(apZ (B:=B) (by omega) (bT.e.still st) hr hv (z7 b ps) (Tf hv ps)).mono ?_
  rintro e w' ⟨u,rfl,hk,hb⟩;rw[<-hL,<-hO] at hk;have MT:=hk w' ⟨ϊ _,λ_ _=>rfl⟩
  obtain⟨TB,n2,c2,rfl,-⟩:=MT.aJ.Φ;exact⟨TB,n2,c2,rfl,hk,hb⟩
 have HV:=ψ hv;clear hv h0 hf hL hO;go_wp2
 go_at_call 65
 refine(C65.e _ H1.e).mono ?_
 rintro e w2 ⟨LA,lc,rfl,aG,hb⟩;have H2:=ψ hb;have Cb:=ψ aG;clear r0 r1 r2 r3;obtain⟨r0,r1,r2,r3,lt2⟩:=S0.e w2 hb;clear hb aG;go_wp2
 go_at_call 76
 refine(C76.e w2 LA lc H2.e (Ih (by rw[z7,EL.e.1];exact Cb.e))).mono ?_
 rintro e w3 ⟨TB,n2,c2,rfl,Nu,hb⟩;have lt3:w.heap.size<w3.heap.size:=by have:=hb.size;omega
 have yl:Bk w3 w.heap.size 26 #[ξ κ b.ag,.slice PA np pc,.slice A m c,.slice TA nt tc]:=(KB.e.below H2.e (by omega)).below hb lt2
 obtain⟨W3,iL⟩:∃W3,W3=(((w3.setCell ⟨w.heap.size,0,ν⟩ (ξ κ b.ag)).setCell ⟨w.heap.size,1,ν⟩ (.slice PA np pc)).setCell ⟨w.heap.size,2,ν⟩ (.slice A m c)).setCell ⟨w.heap.size,3,ν⟩ (.slice TB n2 c2):=⟨_,rfl⟩
 have Z3:W3.heap.size=w3.heap.size:=by rw[iL];simp
 have K3:Hid (Bk W3 w.heap.size 26 #[ξ κ b.ag,.slice PA np pc,.slice A m c,.slice TB n2 c2]):=ψ (by rw[iL];exact(((yl.set 0 _).set 1 _).set 2 _).set 3 _)
 have cu:∀q:Addr,q.block≠w.heap.size-> W3.cell? q= w3.cell? q:=λq hq=>by
  rw[iL,Aiv _ _ _ _ hq.symm,Aiv _ _ _ _ hq.symm,Aiv _ _ _ _ hq.symm,Aiv _ _ _ _ hq.symm]
 have B3:Hid (Below w.heap.size w W3):=ψ (by
  have h:Below w.heap.size w w3:=(BW.e.trans (H2.e.mono (by omega))).trans (hb.mono (by omega))
  rw[iL];exact(((h.setCell (ϊ _) _).setCell (ϊ _) _).setCell (ϊ _) _).setCell (ϊ _) _)
 have BO3:Hid (bg W3 W3.heap.size O (.slice PA np pc) (.slice A m c) (.slice TB n2 c2)):=ψ (Nu W3 ⟨by omega,λq hq=>cu q (by rcases hq with h|h<;>omega)⟩)
 have RL0:Hid (Row W3 W3.heap.size 1 cH (.slice LA np lc) (en b ps)):=ψ (by
  have h:=qO Cb.e hb (ϊ _);have h':W3.ownsRow (w.heap.size+1) 3 1 (.slice LA np lc) np ((en b ps).map (ξ κ)):=by
   rw[iL];exact eo (eo (eo (eo h (by simp)) (by simp)) (by simp)) (by simp)
  exact Ih (by rw[z7,EL.e.1];exact h'))
 have q0:=yl.cell 0;have q1:=yl.cell 1;have q2:=yl.cell 2;have q3:=yl.cell 3;have f0:=yl.frozen 0;have f1:=yl.frozen 1;have f2:=yl.frozen 2;have f3:=yl.frozen 3;have nY:Hid (gI W3):=ψ (HM.e.below B3.e HM.e.lt);have G:Hid (∀W,Below W3.heap.size W3 W->bg W W.heap.size O (.slice PA np pc) (.slice A m c) (.slice TB n2 c2)/\gI W/\Row W W.heap.size 1 yc (.slice KA nk kc) ps/\W3.heap.size<=W.heap.size):=ψ λW hW=>by
  have hs:=hW.size;have st3:Δ B w W3:=Δ.aK B3.e hB;exact⟨ahK (BO3.e.still (Δ.aK hW (ϊ _))) hs,nY.e.below hW (by omega),((Z2.e.still st3 λ_ _ h=>h).still (Δ.aK hW (by omega)) λ_ _ h=>h).more (by omega),hs⟩
 have SX:Hid (∀W,Below W3.heap.size W3 W-> W.cell? ⟨w.heap.size,0,ν⟩=φ (ξ κ b.ag)/\ W.cell? ⟨w.heap.size,1,ν⟩=φ (.slice PA np pc)/\ W.cell? ⟨w.heap.size,2,ν⟩=φ (.slice A m c)/\ W.cell? ⟨w.heap.size,3,ν⟩=φ (.slice TB n2 c2)/\w.heap.size<W.heap.size):=ψ λW hW=>
  have k:=K3.e.below hW (by omega)
  ⟨k.cell 0,k.cell 1,k.cell 2,k.cell 3,k.lt⟩
 obtain⟨i,hi⟩:∃i,i=p % np:=⟨_,rfl⟩
 have M8:i<np:=by rw[hi];exact Nat.mod_lt _ (by omega)
 have apF:((p:Int).tmod (np:Int))=(i:Int):=by rw[hi,Int.tmod_eq_emod_of_nonneg (by omega)];simp
 have NN:(np:Int)≠0:=by omega
 have apH:((np:Int)==0)=χ:=by simp;omega
 have arw:(i:Int)<np:=by omega
 have adJ:∀ {s:Int},s=0->cj O s=0:=λh=>by rw[h];exact RF.e.op
 have Cc:=ψ Pl;have CB:∀W,Below W3.heap.size W3 W->bg W W.heap.size O (.slice PA np pc) (.slice A m c) (.slice TB n2 c2):=λW hW=>(G.e W hW).1
 have wU:(η #[ξ κ b.ag,.slice PA np pc,.slice A m c,.slice TB n2 c2]:υ)=η #[ξ κ O.ag,.slice PA np pc,.slice A m c,.slice TB n2 c2]:=by rw[Pl]
 have C73:Hid (∀W,Below W3.heap.size W3 W->Row W W.heap.size 1 cH (.slice LA np lc) (en b ps)->ύ lp 73 #[η #[ξ κ b.ag,.slice PA np pc,.slice A m c,.slice TB n2 c2],(.slice LA np lc)] W λe w'=>e=Ω (μ #[.bool θ,ξ κ 0])/\Below W.heap.size W w'):=ψ λW hW hr=>by
  have:=amF (ϊ _) (CB W hW) hr;rw[RF.e.tn,RF.e.o5,<-wU] at this;exact this
 have T8:Hid (∀W,Below W3.heap.size W3 W->ύ lp 22 #[η #[ξ κ b.ag,.slice PA np pc,.slice A m c,.slice TB n2 c2]] W λe w'=>e=Ω (μ #[ξ κ (Gt O),ξ κ 0])/\Below W.heap.size W w'):=ψ λW hW=>by
  have:=ZL (ϊ _) (CB W hW);rw[RF.e.h0,<-wU] at this;exact this
 have C24:Hid (∀W,Below W3.heap.size W3 W->ύ lp 24 #[η #[ξ κ b.ag,.slice PA np pc,.slice A m c,.slice TB n2 c2],ξ κ i] W λe w'=>∃XA nx cx,e=Ω (μ #[.slice XA nx cx,ξ κ 0])/\Row w' w'.heap.size 1 cH (.slice XA nx cx) (Il O i)/\Below W.heap.size W w'):=ψ λW hW=>by
  have:=ag8 (k:=i) (ϊ _) (CB W hW) (adJ (by unfold Bh;rw[if_pos (by unfold bX;simp;have:=EO.e.1;omega)]))
  rw[<-wU] at this;refine this.mono ?_
  rintro e w' ⟨v,rfl,ho,hb⟩;obtain⟨XA,nx,cx,rfl⟩:=j8 ho;exact⟨XA,nx,cx,rfl,Ih ho,hb⟩
 obtain⟨y1,jA⟩:∃y,y=(oK (aD O)).lo:=⟨_,rfl⟩
 obtain⟨y2,qH⟩:∃y,y=(oK (aD O)).hi:=⟨_,rfl⟩
 have C26:Hid (∀W,Below W3.heap.size W3 W->ύ lp 26 #[η #[ξ κ b.ag,.slice PA np pc,.slice A m c,.slice TB n2 c2]] W λe w'=>e=Ω (μ #[η #[ξ κ y1,ξ κ y2],ξ κ 0])/\Below W.heap.size W w'):=ψ λW hW=>by
  have:=amm (ϊ _) (CB W hW) RF.e.op;rw[<-wU,<-jA,<-qH] at this;exact this
 have C56:Hid (∀W,Below W3.heap.size W3 W->ύ lp 56 #[η #[ξ κ b.ag,.slice PA np pc,.slice A m c,.slice TB n2 c2]] W λe w'=>∃AL cl,e=Ω (μ #[.slice AL 0 cl,ξ κ 0])/\Below W.heap.size W w'):=ψ λW hW=>by
  have:=aaq (ϊ _) (CB W hW) RF.e.h0;rw[<-wU,RF.e.clash] at this;refine this.mono ?_
  rintro e w' ⟨v,rfl,hr,hb⟩;obtain⟨AL,nl,cl,rfl,el,-⟩:=hr.Φ;obtain rfl:0=nl:=el;exact⟨AL,cl,rfl,hb⟩
 have V7:Hid (∀W,Below W3.heap.size W3 W->ύ lp 33 #[η #[ξ κ b.ag,.slice PA np pc,.slice A m c,.slice TB n2 c2]] W (wM W O j6)):=ψ λW hW=>by
  have:=Md (ϊ _) (CB W hW) (G.e W hW).2.1;rwa[<-wU] at this
 have V9:Hid (∀W,Below W3.heap.size W3 W->ύ lp 36 #[η #[ξ κ b.ag,.slice PA np pc,.slice A m c,.slice TB n2 c2]] W (wM W O (qM O))):=ψ λW hW=>by
  have:=Xm (ϊ _) (CB W hW) (G.e W hW).2.1;rwa[<-wU] at this
 have B9:Hid (∀W z v,Below W3.heap.size W3 W->Row W W.heap.size 1 cH (.slice LA np lc) (en b ps)->Row W W.heap.size 2 Cut.R v z->ez O z=0->ύ lp 43 #[η #[ξ κ b.ag,.slice PA np pc,.slice A m c,.slice TB n2 c2],(.slice LA np lc),v] W λe w'=>e=Ω (μ #[.bool (fp O L z),ξ κ 0])/\Below W.heap.size W w'):=ψ λW z v hW hr hz h=>by
  have:=Ta (ϊ _) (CB W hW) hr hz RF.e.h0 (by rw[RF.e.aH,h];rfl)
  rw[<-wU,RF.e.lens] at this;exact this
 have U5:Hid (∀W z v,Below W3.heap.size W3 W->Row W W.heap.size 2 Cut.R v z->cj O (ez O z)=0->ύ lp 28 #[η #[ξ κ b.ag,.slice PA np pc,.slice A m c,.slice TB n2 c2],v] W λe w'=>e=Ω (μ #[ξ κ (wz O z),ξ κ 0])/\Below W.heap.size W w'):=ψ λW z v hW hr h=>by
  have:=L4 (ϊ _) (CB W hW) hr h;rw[<-wU] at this;refine this.mono λe w' h'=>⟨?_,h'.2⟩
  unfold wz;rw[if_neg (by rw[h];simp)]
  exact h'.1
 have W6:Hid (0<m->∀W,Below W3.heap.size W3 W->ύ lp 41 #[η #[ξ κ b.ag,.slice PA np pc,.slice A m c,.slice TB n2 c2],.slice KA nk kc] W λe w'=>∃A' n' c',e=Ω (.slice A' n' c')/\Row w' w'.heap.size 2 Cut.R (.slice A' n' c') (sd O ps)/\Below W.heap.size W w'):=ψ λDN W hW=>by
  have gy:0<O.aF.length:=by have:=EO.e.2;omega
  have:=ahN (CB W hW) (G.e W hW).2.2.1 (ϊ _) (by have:=EO.e.1;omega) gy (by have:=EO.e.2;omega)
  rw[<-wU] at this;refine this.mono ?_
  rintro e w' ⟨u,rfl,ho,hb⟩;obtain⟨A',n',c',rfl⟩:=j8 ho;exact⟨A',n',c',rfl,lu (l:=sd O ps) (f:=Cut.vs) (by rw[(RL gy ps).1];exact ho) (λ_=>rfl) (λ_ _=>rfl),hb⟩
 have X2:Hid (∀W,ύ lp 78 #[ξ κ np] W λe w'=>∃A' n' c',e=Ω (.slice A' n' c')/\Row w' w'.heap.size 1 cH (.slice A' n' c') (oC np)/\Below W.heap.size W w'):=ψ λW=>by
  refine(aie (n:=np) (by omega) W).mono ?_
  rintro e w' ⟨u,rfl,ho,hb⟩;obtain⟨A',n',c',rfl⟩:=j8 ho;exact⟨A',n',c',rfl,Ih (by rw[show(oC np).length=np by simp[oC]];exact ho),hb⟩
 have K9:Hid (∀W A' n' c',Row W W.heap.size 1 cH (.slice LA np lc) (en b ps)->Row W W.heap.size 1 cH (.slice A' n' c') (oC np)->ύ lp 77 #[(.slice LA np lc),.slice A' n' c'] W λe w'=>e=Ω (ξ κ L.sum)/\W=w'):=ψ λW A' n' c' hr hf=>by
  have h:=aeo (L:=L) (n:=b.pieces.length) (by rw[<-RF.e.list];exact hr) hf (λk hk=>by
   unfold oC at hk;obtain⟨j,hj,rfl⟩:=List.mem_map.1 hk;have:=List.mem_range.1 hj;have:=EL.e.1;omega) (by simp[oC];omega) RF.e.ok
  rw[show sg L (oC np)=L.sum by rw[<-EL.e.1];exact RF.e.sum] at h
  exact h
 have PX:Hid (∀W XA nx cx,Row W W.heap.size 1 cH (.slice XA nx cx) (Il O i)->(Il O i).length<=1000->ύ lp 79 #[.slice XA nx cx,ξ κ (L.at i)] W λe w'=>e=Ω (.bool θ)/\W=w'):=ψ λW XA nx cx hr hl=>by
  have:=aih (n:=L.at i) hr hl;rwa[show hasB (Il O i) (L.at i)=θ by unfold hasB;exact decide_eq_true (anw RF.e.mem i)] at this
 have O5:Hid (∀W,ύ lp 62 #[ξ κ L.sum,ξ κ y1,ξ κ y2] W λe w'=>e=Ω (.bool θ)/\W=w'):=ψ λW=>by
  have:=lg L.sum y1 y2 W;rwa[jA,qH,RF.e.tot,<-jA,<-qH] at this
 obtain⟨n,hn⟩:∃n,n=Gt O:=⟨_,rfl⟩
 rw[<-hn] at T8;have qx:¬n<1:=by rw[hn];have:=RF.e.one;omega
 have YA:Hid ((Il O i).length<=1000):=ψ (Ϥ (anl (iy RF.e.h0) (Af9 (show i<O.pieces.length by rw[EO.e.1];exact M8))) (by omega))
 have LC:Hid (∀W,Row W W.heap.size 1 cH (.slice LA np lc) (en b ps)->∃la,LA=φ la/\la.block<W.heap.size/\ W.cell? (la.add i)=φ (ξ κ (L.at i))):=ψ λW hr=>by
  obtain⟨la,UD,tE,h⟩:=aps hr (i:=i) (x:=L.at i) (by rw[RF.e.list];exact SA L (by have:=EL.e.1;omega))
  exact⟨la,UD,tE,h⟩
 obtain⟨sm,Hz⟩:∃s,s=L.sum:=⟨_,rfl⟩
 rw[<-Hz] at K9 O5;obtain⟨li,Aw⟩:∃l,l=L.at i:=⟨_,rfl⟩
 rw[<-Aw] at PX LC;have iC:Hid (Below W3.heap.size W3 W3):=ψ (Below.refl _ _);have lt:W3.heap.size<=W3.heap.size:=ϊ _;clear r0 r1 r2 r3 hb Nu cu yl adJ hn hi jA qH Hz Aw CB wU Pl;go_wp2;rw[<-iL];have H3:=iC;have s3:=lt;have RL3:=RL0
 go_at_call 73
 refine(C73.e W3 H3.e RL3.e).mono ?_
 rintro e w4 ⟨rfl,jS⟩;have cO:=H3.e.trans (jS.mono s3);have s4:W3.heap.size<=w4.heap.size:=cO.size;clear q0 q1 q2 q3 f0 f1 f2 f3;obtain⟨r0,r1,r2,r3,l4⟩:=SX.e w4 cO;have RL4:=ψ (Px RL3.e jS);have H4:=ψ cO;clear cO jS;go_wp2
 go_at_call 22
 refine(T8.e w4 H4.e).mono ?_
 rintro e w5 ⟨rfl,jS⟩;have eR:=H4.e.trans (jS.mono s4);have s5:W3.heap.size<=w5.heap.size:=eR.size;clear r0 r1 r2 r3;obtain⟨r0,r1,r2,r3,l5⟩:=SX.e w5 eR;have RL5:=ψ (Px RL4.e jS);have H5:=ψ eR;clear eR jS;go_wp2
 go_at_call 24
 refine(C24.e w5 H5.e).mono ?_
 rintro e w6 ⟨XA,nx,cx,rfl,hx,jS⟩;have fI:=H5.e.trans (jS.mono s5);have s6:W3.heap.size<=w6.heap.size:=fI.size;clear r0 r1 r2 r3;obtain⟨r0,r1,r2,r3,l6⟩:=SX.e w6 fI;have RL6:=ψ (Px RL5.e jS);have RX6:=ψ hx;clear hx;have H6:=ψ fI;clear fI jS;go_wp2
 go_at_call 26
 refine(C26.e w6 H6.e).mono ?_
 rintro e w7 ⟨rfl,jS⟩;have jx:=H6.e.trans (jS.mono s6);have s7:W3.heap.size<=w7.heap.size:=jx.size;clear r0 r1 r2 r3;obtain⟨r0,r1,r2,r3,l7⟩:=SX.e w7 jx;have RL7:=ψ (Px RL6.e jS);have RX7:=ψ (Px RX6.e jS);obtain⟨Z9,F2⟩:∃Z,Z=w7.alloc (Ξ #[ξ κ y1,ξ κ y2] 37):=⟨_,rfl⟩
 have z9:Z9.heap.size=w7.heap.size+1:=by rw[F2];simp
 have Vu:Below w7.heap.size w7 Z9:=by rw[F2];exact(Below.refl _ _).alloc (ϊ _) _
 have KZ:Hid (Bk Z9 w7.heap.size 37 #[ξ κ y1,ξ κ y2]):=ψ (by rw[F2];exact Bk.new _ _ _)
 have SY:Hid (∀W,Below Z9.heap.size Z9 W-> W.cell? ⟨w7.heap.size,0,ν⟩=φ (ξ κ y1)/\ W.cell? ⟨w7.heap.size,1,ν⟩=φ (ξ κ y2)/\w7.heap.size<W.heap.size):=ψ λW hW=>
  have k:=KZ.e.below hW (by omega)
  ⟨k.cell 0,k.cell 1,k.lt⟩
 have Ah:=jx.trans (Vu.mono s7);have H8:Hid (Below W3.heap.size W3 Z9):=ψ Ah;have s8:W3.heap.size<=Z9.heap.size:=Ah.size;have RL8:=ψ (Px RL7.e Vu);have RX8:=ψ (Px RX7.e Vu);have D8:Hid (Below Z9.heap.size Z9 Z9):=ψ (Below.refl _ _);have d8:Z9.heap.size<=Z9.heap.size:=ϊ _;have x0:=True.intro;have x1:=True.intro;clear Ah Vu jx jS;go_wp2;rw[<-F2]
 go_at_call 56
 refine(C56.e Z9 H8.e).mono ?_
 rintro e w9 ⟨AL,cl,rfl,jS⟩;have oZ:=H8.e.trans (jS.mono s8);have s9:W3.heap.size<=w9.heap.size:=oZ.size;have D9:=ψ (D8.e.trans (jS.mono d8));have d9:Z9.heap.size<=w9.heap.size:=D9.e.size;clear r0 r1 r2 r3;obtain⟨r0,r1,r2,r3,l9⟩:=SX.e w9 oZ;clear x0 x1;obtain⟨x0,x1,xl⟩:=SY.e w9 D9.e;have RL9:=ψ (Px RL8.e jS);have RX9:=ψ (Px RX8.e jS);have H9:=ψ oZ;clear oZ jS;go_wp2;rcases ae:fA O j6 with _| ⟨x,m1⟩
 ·have ak:fA O (qM O)=ν:=by
   have:=abT O j6 (qM O);rw[ae] at this;cases h:fA O (qM O) with
   |none=>rfl
   |some y=>rw[h] at this;cases this
  have HN:=ψ (ϐ ae ak);clear ae ak
  go_at_call 33
  refine(V7.e w9 H9.e).mono ?_
  intro e S6 jY;obtain⟨rfl,jS⟩:=adw HN.e.1 jY;rw[RF.e.op];have yT:=H9.e.trans (jS.mono s9);have ET:W3.heap.size<=S6.heap.size:=yT.size;have zo:=ψ (D9.e.trans (jS.mono d9));have d10:Z9.heap.size<=S6.heap.size:=zo.e.size;clear r0 r1 r2 r3;obtain⟨r0,r1,r2,r3,l10⟩:=SX.e S6 yT;clear x0 x1;obtain⟨x0,x1,xl⟩:=SY.e S6 zo.e;have M9:=ψ (Px RL9.e jS);have PG:=ψ (Px RX9.e jS);have Bo:=ψ yT;clear yT jS jY;go_wp2
  go_at_call 36
  refine(V9.e S6 Bo.e).mono ?_
  intro e HU jY;obtain⟨rfl,jS⟩:=adw HN.e.2 jY;rw[RF.e.op];have yW:=Bo.e.trans (jS.mono ET);have E0:W3.heap.size<=HU.heap.size:=yW.size;have zq:=ψ (zo.e.trans (jS.mono d10));have d11:Z9.heap.size<=HU.heap.size:=zq.e.size;clear r0 r1 r2 r3;obtain⟨r0,r1,r2,r3,l11⟩:=SX.e HU yW;clear x0 x1;obtain⟨x0,x1,xl⟩:=SY.e HU zq.e;have NM:=ψ (Px M9.e jS);have P4:=ψ (Px PG.e jS);have Lv:=ψ yW;clear yW jS jY;go_wp2
  go_at_call 78
  refine(X2.e HU).mono ?_
  rintro e lR ⟨OA,no,co,rfl,DY,jS⟩;have yn:=Lv.e.trans (jS.mono E0);have E4:W3.heap.size<=lR.heap.size:=yn.size;have Bn:=ψ (zq.e.trans (jS.mono d11));have d12:Z9.heap.size<=lR.heap.size:=Bn.e.size;clear r0 r1 r2 r3;obtain⟨r0,r1,r2,r3,V3⟩:=SX.e lR yn;clear x0 x1;obtain⟨x0,x1,xl⟩:=SY.e lR Bn.e;have zl:=ψ (Px NM.e jS);have P8:=ψ (Px P4.e jS);have O3:=ψ DY;clear DY;have Bp:=ψ yn;clear yn jS;go_wp2
  go_at_call 77
  refine(K9.e lR OA no co zl.e O3.e).mono ?_
  rintro e w' ⟨rfl,rfl⟩;obtain⟨la,rfl,tE,fY⟩:=LC.e lR zl.e;go_wp2
  go_at_call 79
  refine(PX.e lR XA nx cx P8.e YA.e).mono ?_
  rintro e w' ⟨rfl,rfl⟩;go_wp2
  go_at_call 62
  refine(O5.e lR).mono ?_
  rintro e w' ⟨rfl,rfl⟩;rcases Ako m with rfl|DN
  ·have RZ:(((0:Nat):Int)==0)=θ:=by simp
   go_wp2
   go_at_call 21
   refine(P3 _).mono ?_
   rintro e w' ⟨rfl,rfl⟩;go_wp2;exact⟨rfl,rfl,rfl⟩
  have RZ:((m:Int)==0)=χ:=by simp;omega
  have zP:Hid (wH O (sd O ps)):=ψ (RL (by have:=EO.e.2;omega) ps)
  go_wp2
  go_at_call 41
  refine(W6.e DN lR Bp.e).mono ?_
  rintro e Am ⟨CA,cn,cc,rfl,gP,jS⟩;have yO:=Bp.e.trans (jS.mono E4);have WX:W3.heap.size<=Am.heap.size:=yO.size;clear r0 r1 r2 r3;obtain⟨r0,r1,r2,r3,l13⟩:=SX.e Am yO;have D1:=ψ (Px zl.e jS);have aa4:=ψ gP;clear gP;have Bs:=ψ yO;clear yO jS;go_wp2
  go_at_call 28
  refine(U5.e Am _ _ Bs.e aa4.e (RO RF.e.op zP.e)).mono ?_
  rintro e Bj ⟨rfl,jS⟩;have yP:=Bs.e.trans (jS.mono WX);have V5:W3.heap.size<=Bj.heap.size:=yP.size;clear r0 r1 r2 r3;obtain⟨r0,r1,r2,r3,l14⟩:=SX.e Bj yP;have O0:=ψ (Px D1.e jS);have afr:=ψ (Px aa4.e jS);have CK:=ψ yP;clear yP jS;go_wp2
  go_at_call 43
  refine(B9.e Bj _ _ CK.e O0.e afr.e (adA zP.e)).mono ?_
  rintro e w' ⟨rfl,-⟩;have hd:=aet RF.e.mem RF.e.op zP.e;obtain⟨d,F1⟩:∃d,d=wz O (sd O ps):=⟨_,rfl⟩
  obtain⟨q,B0⟩:∃q,q=fp O L (sd O ps):=⟨_,rfl⟩
  rw[<-F1,<-B0] at hd |-
  clear F1 B0;rcases hd with rfl| ⟨rfl,rfl⟩ | ⟨rfl,rfl⟩
  ·cases q
   all_goals
    go_wp2
    go_at_call 21
    refine(P3 _).mono ?_
    rintro e w' ⟨rfl,rfl⟩;go_wp2;exact⟨rfl,rfl,rfl⟩
  all_goals
   go_wp2
   go_at_call 21
   refine(P3 _).mono ?_
   rintro e w' ⟨rfl,rfl⟩;go_wp2;exact⟨rfl,rfl,rfl⟩
 rcases ak:fA O (qM O) with _| ⟨y,m2⟩
 ·have:=abT O j6 (qM O)
  rw[ae,ak] at this;cases this
 obtain⟨Dx,hcx,-⟩:=acM ae;obtain⟨Dy,hcy,-⟩:=acM ak;have HN:=ψ (ϐ ae ak);have HG:=ψ (ϐ Dx (ϐ hcx (ϐ Dy hcy)));have HF:Hid (fp O L x=θ/\fp O L y=θ):=ψ ⟨acK ae RF.e.mem,acK ak RF.e.mem⟩;have HZ:Hid (m=0->False):=ψ λh=>ao8 (b:=O) (by rw[EO.e.2];exact h) (by rw[EO.e.1];omega) Dx
 clear ae ak Dx hcx Dy hcy
 go_at_call 33
 refine(V7.e w9 H9.e).mono ?_
 intro e S6 jY;obtain⟨FA,nf,cf,rfl,hof,jS⟩:=adz HN.e.1 jY;have yT:=H9.e.trans (jS.mono s9);have ET:W3.heap.size<=S6.heap.size:=yT.size;have zo:=ψ (D9.e.trans (jS.mono d9));have d10:Z9.heap.size<=S6.heap.size:=zo.e.size;clear r0 r1 r2 r3;obtain⟨r0,r1,r2,r3,l10⟩:=SX.e S6 yT;clear x0 x1;obtain⟨x0,x1,xl⟩:=SY.e S6 zo.e;have M9:=ψ (Px RL9.e jS);have PG:=ψ (Px RX9.e jS);have afI:Hid (Row S6 S6.heap.size 2 Cut.R (.slice FA nf cf) x):=ψ (lu (l:=x) (f:=Cut.vs) (by rw[HG.e.1.1];exact hof) (λ_=>rfl) (λ_ _=>rfl))
 clear hof;have Bo:=ψ yT;clear yT jS jY;go_wp2
 go_at_call 36
 refine(V9.e S6 Bo.e).mono ?_
 intro e HU jY;obtain⟨GA,ng,cg,rfl,U1,jS⟩:=adz HN.e.2 jY;have yW:=Bo.e.trans (jS.mono ET);have E0:W3.heap.size<=HU.heap.size:=yW.size;have zq:=ψ (zo.e.trans (jS.mono d10));have d11:Z9.heap.size<=HU.heap.size:=zq.e.size;clear r0 r1 r2 r3;obtain⟨r0,r1,r2,r3,l11⟩:=SX.e HU yW;clear x0 x1;obtain⟨x0,x1,xl⟩:=SY.e HU zq.e;have NM:=ψ (Px M9.e jS);have P4:=ψ (Px PG.e jS);have afK:=ψ (Px afI.e jS);have afN:Hid (Row HU HU.heap.size 2 Cut.R (.slice GA ng cg) y):=ψ (lu (l:=y) (f:=Cut.vs) (by rw[HG.e.2.2.1.1];exact U1) (λ_=>rfl) (λ_ _=>rfl))
 clear U1;have Lv:=ψ yW;clear yW jS jY;go_wp2
 go_at_call 78
 refine(X2.e HU).mono ?_
 rintro e lR ⟨OA,no,co,rfl,DY,jS⟩;have yn:=Lv.e.trans (jS.mono E0);have E4:W3.heap.size<=lR.heap.size:=yn.size;have Bn:=ψ (zq.e.trans (jS.mono d11));have d12:Z9.heap.size<=lR.heap.size:=Bn.e.size;clear r0 r1 r2 r3;obtain⟨r0,r1,r2,r3,V3⟩:=SX.e lR yn;clear x0 x1;obtain⟨x0,x1,xl⟩:=SY.e lR Bn.e;have zl:=ψ (Px NM.e jS);have P8:=ψ (Px P4.e jS);have afL:=ψ (Px afK.e jS);have afO:=ψ (Px afN.e jS);have O3:=ψ DY;clear DY;have Bp:=ψ yn;clear yn jS;go_wp2
 go_at_call 77
 refine(K9.e lR OA no co zl.e O3.e).mono ?_
 rintro e w' ⟨rfl,rfl⟩;obtain⟨la,rfl,tE,fY⟩:=LC.e lR zl.e;go_wp2
 go_at_call 79
 refine(PX.e lR XA nx cx P8.e YA.e).mono ?_
 rintro e w' ⟨rfl,rfl⟩;go_wp2
 go_at_call 62
 refine(O5.e lR).mono ?_
 rintro e w' ⟨rfl,rfl⟩;go_wp2
 go_at_call 43
 refine(B9.e lR x _ Bp.e zl.e afL.e HG.e.2.1).mono ?_
 rintro e Am ⟨rfl,jS⟩;have yO:=Bp.e.trans (jS.mono E4);have WX:W3.heap.size<=Am.heap.size:=yO.size;clear r0 r1 r2 r3;obtain⟨r0,r1,r2,r3,l13⟩:=SX.e Am yO;have D1:=ψ (Px zl.e jS);have afS:=ψ (Px afO.e jS);have Bs:=ψ yO;clear yO jS;rw[HF.e.1];go_wp2
 go_at_call 43
 refine(B9.e Am y _ Bs.e D1.e afS.e HG.e.2.2.2).mono ?_
 rintro e Bj ⟨rfl,jS⟩;have yP:=Bs.e.trans (jS.mono WX);have V5:W3.heap.size<=Bj.heap.size:=yP.size;clear r0 r1 r2 r3;obtain⟨r0,r1,r2,r3,l14⟩:=SX.e Bj yP;have O0:=ψ (Px D1.e jS);have CK:=ψ yP;clear yP jS;rw[HF.e.2];rcases Ako m with rfl|DN
 ·have RZ:(((0:Nat):Int)==0)=θ:=by simp
  go_wp2;exact(HZ.e trivial).elim
 have RZ:((m:Int)==0)=χ:=by simp;omega
 have zP:Hid (wH O (sd O ps)):=ψ (RL (by have:=EO.e.2;omega) ps)
 go_wp2
 go_at_call 41
 refine(W6.e DN Bj CK.e).mono ?_
 rintro e T4 ⟨CA,cn,cc,rfl,gP,jS⟩;have JY:=CK.e.trans (jS.mono V5);have TW:W3.heap.size<=T4.heap.size:=JY.size;clear r0 r1 r2 r3;obtain⟨r0,r1,r2,r3,l15⟩:=SX.e T4 JY;have af0:=ψ (Px O0.e jS);have abe:=ψ gP;clear gP;have Yo:=ψ JY;clear JY jS;go_wp2
 go_at_call 28
 refine(U5.e T4 _ _ Yo.e abe.e (RO RF.e.op zP.e)).mono ?_
 rintro e T5 ⟨rfl,jS⟩;have KX:=Yo.e.trans (jS.mono TW);have s16:W3.heap.size<=T5.heap.size:=KX.size;clear r0 r1 r2 r3;obtain⟨r0,r1,r2,r3,l16⟩:=SX.e T5 KX;have af4:=ψ (Px af0.e jS);have afF:=ψ (Px abe.e jS);have H16:=ψ KX;clear KX jS;go_wp2
 go_at_call 43
 refine(B9.e T5 _ _ H16.e af4.e afF.e (adA zP.e)).mono ?_
 rintro e w' ⟨rfl,-⟩;have hd:=aet RF.e.mem RF.e.op zP.e;obtain⟨d,F1⟩:∃d,d=wz O (sd O ps):=⟨_,rfl⟩
 obtain⟨q,B0⟩:∃q,q=fp O L (sd O ps):=⟨_,rfl⟩
 rw[<-F1,<-B0] at hd |-
 clear F1 B0;rcases hd with rfl| ⟨rfl,rfl⟩ | ⟨rfl,rfl⟩
 ·cases q
  all_goals
   go_wp2
   go_at_call 21
   refine(P3 _).mono ?_
   rintro e w' ⟨rfl,rfl⟩;go_wp2;exact⟨rfl,rfl,rfl⟩
 all_goals
  go_wp2
  go_at_call 21
  refine(P3 _).mono ?_
  rintro e w' ⟨rfl,rfl⟩;go_wp2;exact⟨rfl,rfl,rfl⟩
end Go.Jn
namespace Go.Jn
open Go Go.Proofs Go.Sim Go.Tw Go.Conc Go.ChangeShapes Go.WideShapes Go.ChangeAt Go.RowKit
open YtfifdjajcogccaaGreatDoor
def ahr:Tryz.f15.body=φ c15:=by
 unfold c15;rfl
def ahs:cr ϋ G0 c15=θ:=by decide+kernel
def apQ(v k:υ)(p:Nat):t15 v k p=#[v,k,.int .u8 p]++Θ 228 ω:=by kernel_rfl
def apl(yj:Cq)(os:Os)(started:os.Started)(H:Type)(enc:ό×υ->H):
 ReturnsInLeavingWide {} Tryz.checked os 15 .any (λw args=>(Rows.mouldRealSpec.pre enc ϋ Tryz.f15 [] χ w args/\laidMetH ϋ Et w)/\sizedMet enc ϋ Tryz.f15 (OpenSpec.ofChange Rows.mouldRealSpec) χ w args)
  (Rows.mouldRealSpec.post enc ϋ Tryz.f15 χ θ χ χ):=by
 refine ag2 (C:=Tryz.checked) (X:=λw _=>laidMetH ϋ Et w) (λ_ _ _ hh h=>laidMetH.of_heap hh h) ajr started Tryz.func15
  (ChangeSpec.witness_shaped (enc:=enc) (C:=Tryz.checked) (os:=os) (X:=λw _=>laidMetH ϋ Et w) χ (Ake ϋ 600 os) #[η #[ξ κ 0,ζ ν 0 0,ζ ν 0 0,ζ ν 0 0],ζ ν 0 0,.int .u8 0] 8 rfl (alp os _) (by kernel_rfl) (by kernel_rfl) (by kernel_rfl) (abi os _)) ?_
 intro W base args ds gs before Vn hW hS hL;have AM:∀(j:Nat) t v,Tryz.f15.params[j]?=φ t->args[j]?=φ v->Value.okWide ϋ W .any base t v:=Vn
 have MJ:=hW;obtain⟨p,q,TK,hV,rfl,Hh,nH⟩:=hW;have hA:DataW.TrodAll enc ϋ W 0 (λ_=>θ) θ Tryz.f15.params.toList args.toList ds p:=TK
 rw[Tryz.params15] at hA AM;obtain⟨v0,v1,v2,d0,d1,d2,p0,p1,p2,rfl,rfl,rfl,h0,h1,h2⟩:=trodAll_three hA;obtain⟨rfl,rfl⟩:=trodVars_none hV;obtain⟨x,rfl,rfl,rfl,wx⟩:=open_int Tryz.underlying5 (AM 2 5 v2 rfl rfl) h2;have vC:=apL (AM 1 50 v1 rfl rfl);have Og:=AM 0 26 v0 rfl rfl;unfold Value.okWide at Og;rw[Tryz.underlying26] at Og;obtain⟨cs,rfl,_,_⟩:=Og;have Fc:=h0;have h1k:=h1;obtain⟨fuel,hf⟩:=h0;obtain⟨ara,gM⟩:=h1;obtain⟨b,pv,bv,tv,fg,ai⟩:=ZP (enc:=enc) (W:=W) hf;obtain⟨v,ps,hk,eI,oD⟩:=apc (enc:=enc) (W:=W) gM;have rH:v1=v:=by
  rw[vC] at hk;simpa using hk
 subst rH;have aeh:cs=#[ξ κ b.ag,pv,bv,tv]:=by
  have:cs.toList=_:=fg;rw[<-Array.toList_inj,this]
 subst aeh;clear TK Vn;simp only[List.append_nil,List.nil_append] at MJ;have jW:∀y∈p0,y.block<W.heap.size:=λy hy=>MJ.lt y (by simp[hy])
 have ae4:∀y∈p1,y.block<W.heap.size:=λy hy=>MJ.lt y (by simp[hy])
 have hm:=ah0 hS hL;obtain⟨hM,Fb⟩:=acW hm;obtain⟨hB,q1,q2,q3⟩:=acS ai;have hR:=Bq (R:=yc) (R':=yc) eI λx cs r=>⟨r,λu hu=>by
  rw[r.1] at hu;rw[Af2] at hu;subst hu;exact trivial⟩
 have q4:=Fp (by omega) eI oD
 obtain⟨xn,rfl,hx⟩:∃m:Nat,x=m/\m<256:=by
  simp[Lit.wf,IntKind.min,IntKind.max,IntKind.signed,IntKind.bits] at wx;exact⟨x.toNat,by omega,by omega⟩
 obtain⟨M,last,o,w',t',r1,r2,r3,r4⟩:=agQ yj (f:=15) (r:=6) (fn:=Tryz.f15) (c:=c15) Tryz.func15 ahr ahs rfl (by omega) (ρ:=rW W) (wl:=nA W) (W:=W) (args:=#[η #[ξ κ b.ag,pv,bv,tv],v1,.int .u8 xn]) (tl:=t15 (η #[ξ κ b.ag,pv,bv,tv]) v1 xn)
  (λT=>apr (w:=aZ (nA W) T) (B:=W.heap.size) ⟨hB.pieces,hB.aF,hB.aJ⟩ hR (Nat.le_of_eq Tk.symm) hM hx) (acU C1) Fb acX (by rw[apQ];exact(apJ (aj2 q1 q2 q3) q4.self (.int _ _)).append (aj7 _ 228)) acV hm
 refine⟨M,last,o,w',t',r1,r2,r3,Conc.Good.mono r4 λv hF=>?_⟩
 obtain⟨rfl,hb⟩:=hF;have e01:p0++(p1++ [])=p0++p1:=by simp
 rw[<-e01] at MJ;refine⟨_,_,_,[],p0++(p1++ []),[],MJ,?_,?_,rfl,hb.frame _,λh=>by cases h⟩
 ·exact trodAll_mk1 (shut_bool Tryz.underlying4 _)
 ·exact trodAll_mk3 (Below.trod agN (by kernel_rfl) (of_decide_eq_true (by kernel_rfl)) Fc hb jW) (Below.trod agN (by kernel_rfl) (of_decide_eq_true (by kernel_rfl)) h1k hb ae4) (shut_int Tryz.underlying5 wx)
end Go.Jn
namespace Go.Jn
open Go Go.Proofs
open YtfifdjajcogccaaGreatDoor
def ame(Lk:Looks){p:Pinned}{s:OpenSpec}{c:OpenClaim}(kinds:List LaidKind)(P7:Bool)(xE:Bool×String)(lk:Bool)
 (hc:c.holds p s)(hw:c.wfByText s=θ)(afH:c.laidByTextAt Lk p kinds P7)(aQ:c.start=.entering)(gy:c.noBlocks=χ/\c.again=χ)(hm:p.checked.prog.mainIs=φ (xE.1,xE.2.toList))(hn:(!xE.1 && xE.2.isEmpty && !lk)=χ)
 (hl:∀f fn,p.checked.prog.funcNamed c.func=φ f->p.checked.prog.funcs[f]?=φ fn->lk=p.checked.prog.looks []/\∀(j:Nat) t,fn.params[j]?=φ t->p.checked.prog.wantsStandIn t=χ)
 (hg:θ=c.goesBy p.checked.prog):
 Claim7.holds p (.plain s) {stood:={row:=c,standIns:=[],harness:=xE,looks:=lk},kinds:=[],alts:=[],goes:=θ,laidByText:=θ,laidKinds:=kinds,laidTests:=P7,laidLooks:=Lk}:=by
 have h6:Claim7.isSixth {stood:={row:=c,standIns:=[],harness:=xE,looks:=lk},kinds:=[]}=χ:=by simpa [Claim7.isSixth] using hn
 exact⟨Claim7.tied_new_at Lk kinds P7 (Claim7.new_of_sixth hc xE lk aQ gy hm h6 hl) hw,(λD hD=>by cases hD),afH,(λh=>by cases h),hg⟩
def ak9:ϋ.laidByTextLater Rows.mouldLeastRow.laid [.funcs] θ:=
 Program.laidByTextLater_by_one 16 8 2 (by kernel_rfl) (by kernel_rfl) (by kernel_rfl) (by kernel_rfl) (by kernel_rfl) (by kernel_rfl) (λ_ _=>by kernel_rfl)
def ajx:Tryz.pinned.checked.prog.headLifts.contains "ownunsafe" =χ:=by kernel_rfl
def ahV:Tryz.pinned.checked.prog.mainIs=φ (θ,"8b4c60804a89a2dc1775d2d899c432f4b3d9a7cd22d2b16114beb87ecc832d7f".toList):=by kernel_rfl
def aiZ:χ=Tryz.pinned.checked.prog.looks []:=by kernel_rfl
end Go.Jn
namespace Go.Jn
open Go Go.Proofs Go.Sim Go.Conc Go.Tw
def akg(w:Ψ)(cN cL:Nat):Sim.aaa:=⟨λq=>q<w.heap.size/\q≠cN/\q≠cL,λ_=>False⟩
def alJ{b:ao}{ρ:Ren}{wl wB w1 w2:Ψ}{pv bv tv:υ}{B lb bk n NB cN cL p6 p7:Nat}{t1 t:Array υ}{M:Sim.aaa}(hP:Le b ρ wl pv bv tv B lb bk n NB wB w1)(h4:R4 t1 (allM w1) w1 cN cL p6 p7 t M w2):
 ∃ej Qt l6 l7,St b ej Qt pv bv tv B lb l6 l7 bk p6 p7 cN cL n NB wB (akg w2 cN cL) w2/\(∀a q,ej a q->q<max p6 p7+1)/\NB<=max p6 p7+1:=by
 obtain⟨core,gL,Wc,fixed,rb,hB,book,c0,c1,c2,c3,⟨bc,e,fb,A,c,ae,ak⟩,old,gy⟩:=hP;have kept:∀q,q<w1.heap.size->w2.heap[q]?=w1.heap[q]?:=λq hq=>h4.kept q (.inl hq)
 have aa1:=ta core h4.size λa q hq=>kept q (core.dc a q hq)
 have jk:∀(σ:Ren) (c:Nat),aP σ #[μ #[]] #[.chan (φ c)]:=λσ c=>⟨rfl,λj h1 h2=>by
  have:j=0:=by simp at h1;omega
  subst this;exact .junk rfl (by simp) (by simp)⟩
 have eJ:=uP (o:=.cells #[μ #[]] 154 (0,1)) aa1 h4.vn.2.2.2 (λa ha=>by have:=core.dc a _ ha;have:=h4.vn.2.2.1;omega) (.cells 154 (jk _ _) (.inr ⟨rfl,by simp⟩))
 have jw:=uP (o:=.cells #[μ #[]] 155 (0,1)) eJ h4.vl.2.2.2 (λa ha=>by
  rcases ha with ha| ⟨_,e⟩
  ·have:=core.dc a _ ha;have:=h4.vl.2.2.1;omega
  ·exact h4.np e.symm) (.cells 155 (jk _ _) (.inr ⟨rfl,by simp⟩))
 have st1:=(Δ.refl wl).alloc hB (Ξ #[μ #[]] 154 (0,1));have om:B<=(wl.alloc (Ξ #[μ #[]] 154 (0,1))).heap.size:=by rw[eM];exact Akp hB
 have mT:=st1.alloc om (Ξ #[μ #[]] 155 (0,1));have cl:∀ {j:Nat} {v:υ},wl.cell? ⟨lb,j,ν⟩=φ v->((wl.alloc (Ξ #[μ #[]] 154 (0,1))).alloc (Ξ #[μ #[]] 155 (0,1))).cell? ⟨lb,j,ν⟩=φ v:=λhv=>
  (Afz _ _ ⟨lb,_,ν⟩ (by show lb<_;rw[eM];have:=core.dA _ _ rb;omega)).trans ((Afz wl _ _ (core.dA _ _ rb)).trans hv)
 have yF:∀ {q:Nat},q<w1.heap.size->q<w2.heap.size/\q≠cN/\q≠cL:=λ{q} hq=>⟨Ϡ hq h4.size,by have:=h4.n.2.2.1;omega,by have:=h4.l.2.2.1;omega⟩
 have Io:p6<w2.heap.size/\p6≠cN/\p6≠cL:=⟨h4.low _ (.inl h4.vn.2.1),(by rintro rfl;have:=h4.vn.2.2.2;rw[h4.n.2.2.2] at this;cases this),(by rintro rfl;have:=h4.vn.2.2.2;rw[h4.l.2.2.2] at this;cases this)⟩
 have lt7:p7<w2.heap.size/\p7≠cN/\p7≠cL:=⟨h4.low _ (.inl h4.vl.2.1),(by rintro rfl;have:=h4.vl.2.2.2;rw[h4.n.2.2.2] at this;cases this),(by rintro rfl;have:=h4.vl.2.2.2;rw[h4.l.2.2.2] at this;cases this)⟩
 refine⟨_,_,_,_,⟨⟨jw,.inl (.inl gL),bJ.push (bJ.push Wc (o:=.cells #[μ #[]] 154 (0,1)) (λh=>h)) (o:=.cells #[μ #[]] 155 (0,1)) (λh=>h),?_,?_,.inl (.inl rb),.inl (.inr ⟨rfl,rfl⟩),.inr ⟨rfl,rfl⟩,by rw[eM];exact Akp om,book.still mT,cl c0,cl c1,cl c2,cl c3⟩,?_,.inl Io,.inl lt7,.inl (yF (core.dc _ _ rb)),h4.vn.2.2.2,h4.vl.2.2.2,
  ⟨bc,e,fb,A,c,(kept _ (core.dc _ _ rb)).trans ae,ak⟩,λq hq=>⟨.inl (yF (by omega)),(kept q (by omega)).trans (old q hq)⟩,Ϥ gy h4.size,⟨?_,?_⟩,⟨h4.low _ (.inl h4.n.2.1),h4.low _ (.inl h4.l.2.1)⟩⟩,?_,by have:=h4.vn.2.2.1;omega⟩
 ·rintro a q ((ha| ⟨_,rfl⟩) | ⟨_,rfl⟩)
  ·exact .inl (yF (core.dc _ _ ha))
  ·exact .inl Io
  ·exact .inl lt7
 ·rintro a q ((ha| ⟨rfl,_⟩) | ⟨rfl,_⟩)
  ·obtain⟨o,k1,k2⟩:=fixed a q ha
   have:=core.dA _ _ ha;exact⟨o,(kB (by rw[eM];omega)).trans ((kB this).trans k1),k2⟩
  ·exact⟨_,(kB (by rw[eM];omega)).trans jO,⟨rfl,by simp⟩⟩
  ·exact⟨_,jO,⟨rfl,by simp⟩⟩
 ·rintro q (hq|hq)
  ·exact hq.1
  ·exact hq.elim
 ·rintro(hq|hq)
  ·exact hq.2.1 rfl
  ·exact hq
 ·rintro(hq|hq)
  ·exact hq.2.2 rfl
  ·exact hq
 ·rintro a q ((ha| ⟨_,rfl⟩) | ⟨_,rfl⟩)
  ·have:=core.dc _ _ ha;have:=h4.vn.2.2.1;omega
  ·omega
  ·omega
section
variable {b:ao}{ρ:Ren}{wl wB:Ψ}{pv bv tv:υ}{B lb l6 l7 bk p6 p7 cN cL n N0 NB NR:Nat}{eU:Nat->Bool}{cs:List Ϙ}
def hears(hr:∀a q,ρ a q->q<NR)(hN:NB<=NR)(hn:n<=1000)(t:Array υ)(M:Sim.aaa)(w:Ψ)(hs:jN bk p6 p7 t)(hS:(St b ρ wl pv bv tv B lb l6 l7 bk p6 p7 cN cL n NB wB) M w)(Df:NR<=w.heap.size):
 Walk ϋ θ (nj (Pm.mk ϋ n N0 cL cN eU X0 (Kn NR NB wB cs)) n []) M (rg 38 t [.code (.seq (.region 11 Bf χ) ub)] [] .normal cs) w:=by
 refine fF (gH ?_)
 rw[E0];obtain⟨o,ho,ab,hd,hg⟩:=ahw;refine du (v:=ζ ν 0 0) ho (bI hg) rfl (λaa _=>⟨_,run_assign t aa ab,cS⟩) ?_
 rw[hd];have h9:(ay t (φ 9) (ζ ν 0 0))[9]?=φ (ζ ν 0 0):=tY (by rw[hs.sz];omega)
 have cZ:jN bk p6 p7 (ay t (φ 9) (ζ ν 0 0)):=hs.put ⟨by omega,by omega,by omega⟩
 revert h9 cZ
 generalize ay t (φ 9) (ζ ν 0 0)=t1;intro h9 cZ;refine iA ?_
 rw[akd];refine fF (fF (gH ?_))
 rw[E4];obtain⟨o,ho,ab,hd,hg⟩:=ahx;obtain⟨dir,hu⟩:=BG;refine du (v:=.chan (φ cN)) ho (bI hg) rfl (λaa hk=>⟨_,sx _ aa ab (cJ cZ.t6) hu rfl (lL ((hk.kept _ hS.m6).trans hS.h6) rfl rfl),vY hS.m6 _ rfl⟩) ?_
 rw[hd];refine iA (BL (Qp ?_))
 refine recvs hr hN hn n [] _ M w (by simp) (by simp[ay,cZ.sz]) (tY (by rw[cZ.sz];omega)) ⟨⟨ζ ν 0 0,(bL (by omega)).trans h9,⟨rfl,.inl ⟨rfl,rfl⟩⟩,λg k c e=>by cases e⟩,Df,λ_=>(bL (by omega)).trans h9⟩ hS
def alL(vt:∀i,eU i=(search b (cz (aD b)) (λk=>decide (k=i)) b.pieces.length []).isNone)(ab:cj b 0=0)(hr:∀a q,ρ a q->q<NR)(hN:NB<=NR)(hn:n<=1000)(t:Array υ)(M:Sim.aaa)(w:Ψ)(hs:jN bk p6 p7 t)(hS:(St b ρ wl pv bv tv B lb l6 l7 bk p6 p7 cN cL n NB wB) M w)(Df:NR<=w.heap.size)
 (De:∀M w,(St b ρ wl pv bv tv B lb l6 l7 bk p6 p7 cN cL n NB wB) M w->NR<=w.heap.size):
 Walk ϋ θ (StopA (Pm.mk ϋ n N0 cL cN eU X0 (Kn NR NB wB cs)) n) M (rg 38 t [.code nP] [] .normal cs) w:=by
 rw[akf];refine fF (fF (gH ?_))
 rw[s5];obtain⟨bc,e,fb,A,c,ae,ak⟩:=hS.hb;obtain⟨o,ho,bG,hd,hg⟩:=m50;obtain⟨fs,fd,fi,hu,hf,NT,hi,aI⟩:=XU;refine du ho (bI hg) rfl (λaa _=>⟨_,WN t aa bG (cJ hs.t1) hu hf hi aI,cS⟩) ?_
 rw[hd,NT];have cZ:jN bk p6 p7 (ay t (φ 21) (π (φ ((⟨bk,0,ν⟩:Addr).add 2)))):=hs.put ⟨by omega,by omega,by omega⟩
 have rC:(ay t (φ 21) (π (φ ((⟨bk,0,ν⟩:Addr).add 2)))).getD 21 ω=π (φ ((⟨bk,0,ν⟩:Addr).add 2)):=ib (by rw[hs.sz];omega)
 revert cZ rC
 generalize ay t (φ 21) (π (φ ((⟨bk,0,ν⟩:Addr).add 2)))=t1;intro cZ rC;obtain⟨o,ho,bG,hd,hg⟩:=m51;obtain⟨e23,D7⟩:=XT;refine du ho (bI hg) rfl (λaa hk=>⟨_,sx _ aa bG rC D7 rfl (lL ((hk.kept _ hS.mb).trans ae) rfl ak),vY hS.mb _ rfl⟩) ?_
 rw[hd];have dD:jN bk p6 p7 (ay t1 (φ 22) (.slice A n c)):=cZ.put ⟨by omega,by omega,by omega⟩
 have Mq:(ay t1 (φ 22) (.slice A n c)).getD 22 ω=.slice A n c:=ib (by rw[cZ.sz];omega)
 revert dD Mq
 generalize ay t1 (φ 22) (.slice A n c)=t2;intro dD Mq;obtain⟨o,ho,bG,hd,hg⟩:=m52;refine du ho (bI hg) rfl (λaa _=>⟨_,WQ _ aa bG Mq D7,cS⟩) ?_
 rw[hd];have gQ:jN bk p6 p7 (ay t2 (φ 23) (goInt n)):=dD.put ⟨by omega,by omega,by omega⟩
 have xx:(ay t2 (φ 23) (goInt n))[23]?=φ (ξ κ n):=tY (by rw[dD.sz];omega)
 revert gQ xx
 generalize ay t2 (φ 23) (goInt n)=t3;intro gQ xx;obtain⟨o,ho,bG,hd,hg⟩:=m53;refine du (v:=ξ κ 0) ho (bI hg) rfl (λaa _=>⟨_,run_move _ aa bG,cS⟩) ?_
 rw[hd];refine iA (BL (Qp ?_))
 refine spawns vt ab (by omega) (λt M w hs hS=>hears hr hN hn t M w hs hS (De M w hS)) n _ M w (ϊ _) (gQ.put ⟨by omega,by omega,by omega⟩) ((bL (by omega)).trans xx) ((tY (by rw[gQ.sz];omega)).trans (by simp)) hS
end
end Go.Jn
end
