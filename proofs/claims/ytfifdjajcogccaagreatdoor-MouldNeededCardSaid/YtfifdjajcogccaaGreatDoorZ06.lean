import Derived.Test.YtfifdjajcogccaaGreatDoorZ03
import Derived.LaidMore
import Derived.Test.YtfifdjajcogccaaGreatDoorRows
import Derived.OpenShut
import Derived.Stop.Joined
import Derived.Conc.LeavingOf
set_option linter.all false
set_option maxHeartbeats 0
set_option maxRecDepth 100000
open Array renaming replicate -> ϭ, getElem?_of_mem -> Ajz, getElem?_eq_some_iff -> ϛ, getElem?_setIfInBounds_ne -> ė, getElem?_map -> Đ, size_setIfInBounds -> Ē, mem_iff_getElem -> Aay, getElem?_eq_getElem -> õ, getElem?_setIfInBounds_self_of_lt -> Aj0, append_empty -> á, mapM_eq_mapM_toList -> į, ext_getElem? -> ŝ, getElem?_setIfInBounds -> Ù, map_empty -> Aj1, push_eq_append -> ŏ, getElem?_push -> ţ, getD_eq_getD_getElem? -> î, mem_replicate -> Aav, all_eq_true_iff_forall_mem -> Ģ, mem_of_getElem? -> ļ, getElem?_eq_none -> Ė, ofFn -> Aj2, getElem_ofFn -> Aj3, getElem?_ofFn -> Aj4, getElem?_mapIdx -> Aeo, getElem?_toList -> ī
open Bool renaming false_eq_true -> Ð, and_eq_true -> ϩ, not_eq_true' -> Aj5
open Classical renaming choose -> å, choose_spec -> Î
open Go renaming Goroutine -> ϐ, Program -> ϕ, Frame -> Ϛ, Deferred -> È, FuncId -> Â, CallKind -> ű, stepG -> Ϙ, Code -> ϖ, Operand -> Ë, yielded -> Ê, goexitEntry -> Aj7, Trace -> Θ, runNT -> ô, callDeferred -> ģ, unwind -> Ï, Oper -> Í, TypeInfo -> Ħ, TypeId -> ό
open Go.Conc renaming crowd -> Ϫ, served -> ϧ
open Go.Frame renaming eval -> Þ, oper? -> š, finish -> đ, enter -> Ý
open Go.GStep renaming after -> ß
open Go.Goroutine renaming callers -> Akc
open Go.Proofs.Tryz renaming prog -> ϋ
open Go.Region renaming wanted -> Ä, ready -> Ç, schedule -> Akd
open Go.Region.linearise renaming go -> Ake
open Go.Sem renaming bind -> ϫ, runT -> Ϥ, pure -> Ļ
open Go.World renaming grownBy_alloc -> ϯ, cell?_of_block -> Akg, putObj_heap_same -> Ŋ, putObj_heap_other -> Á, cell?_alloc_lt -> ù
open Go.stepG renaming exec -> ϱ, oper -> Ų, apply -> Ò
open List renaming mem_of_getElem? -> Ϩ, mapM_nil -> Aki, all_eq_true -> ġ, map_toArray -> Ţ, map_cons -> ō, map_nil -> Ŏ, mem_toArray -> ã, mem_singleton -> ā, mem_range -> ş, mem_cons -> Ϧ, not_mem_nil -> Λ, getElem?_eq_getElem -> Ã, getElem?_take -> ĕ, mapM_cons -> Akn, drop -> Ako, take -> Akp, eq_nil_of_length_eq_zero -> Ō, pairwise_lt_range -> Akq
open Nat renaming le_refl -> ϊ, eq_zero_or_pos -> Akr, le_trans -> ϡ, lt_of_lt_of_le -> ϟ, le_succ_of_le -> Aks
open Ne renaming symm -> ϸ
open Option renaming map_some -> é, getD_some -> ϻ, map_eq_some_iff -> Č, bind_eq_some_iff -> ď
open Option.some renaming inj -> Ϟ, injEq -> č
open Bool renaming true -> θ, false -> χ
open Go renaming Value -> υ, undef -> ω, World -> Ψ
open Go.Ending renaming returned -> Ω
open Go.IntKind renaming i64 -> κ
open Go.Lib renaming hid -> ψ
open Go.Obj renaming cells -> Ξ
open Go.RowKit renaming Below -> Γ, Below -> Γ
open Go.Value renaming slice -> ζ, pointer -> π, tuple -> μ, agg -> η, int -> ξ
open Option renaming some -> φ, none -> ν
variable{α:Type}{es:Array Go.Event}{fs:Array Go.Field}{gs:Array Go.Goroutine}{ops:Array Go.Oper}{t t' u tl args fe T:Array υ}{main ok:Bool}{kd:Go.CallKind}{dir:Go.ChanDir}{c:Go.Code}{fr:Go.Frame}{fn:Go.Func}{f:Go.FuncId}{g g':Go.Goroutine}{o':Go.Obj}{o:Go.Oper}{P:Go.Program}{ρ σ aM:Go.Sim.Ren}{S:Go.Sim.Tl}{M:Go.Sim.ay}{C C':Go.Sim.bX}{b:Go.Tw.eR}{ty e e7 e6 Q0 ek:Go.TypeId}{D:List Go.Deferred}{cs:List Go.Frame}{k k':List Go.Item}{zs:List Int}{rest aD:List Nat}{i n B r a p lb bk d pk q NR NB N gE m s cN cL gp gb gk gt gl gc n1 c1 n2 c2 n3:Nat}{w wl w' aa W wB au w1 w0 bz mn:Ψ}{v pv bv tv x v' ov x0 arg v0 z y ol:υ}
noncomputable section
namespace Go.Jn
open Go Go.Sim
def Ym{F:Array Func}{G:Nat->Bool}(E:Env P F C G)(hh:∀f,C.hole f=χ){Q:ϐ->Ψ->Prop}
 (h:Sim.Safe (tw P F) Q g w)(hi:Inv C S G g w):Sim.Safe (tw P F) (λg w=>Q g w/\bO w.heap) g w:=by
 induction h with
 |stop hq=>exact .stop ⟨hq,hi.1⟩
 |step nx h _ ih=>
  refine .step nx h λT=>ih T ?_
  obtain⟨⟨es,h1⟩,h2⟩:=h T;exact(hi.bq T).step E hh h1 h2
section
variable {P:ϕ}{F:Array Func}{C:bX}{G:Nat->Bool}
def Me{b:Bool}{bu:List Ϛ}(h:Below C S ρ b [] bu):b=θ/\bu=S.callers:=by
 cases h;exact⟨rfl,rfl⟩
def Xd(h:py C S ρ θ [.code dt] k'):k'=S.items:=by
 cases h with
 |stop=>rfl
 |cons _ t=>cases t
def zh{k':List È}(h:kM S ρ θ [cQ] k'):k'=S.defers:=by
 cases h with
 |stop=>rfl
 |cons _ t=>cases t
def aqC(E:Env P F C G)(hh:∀f,C.hole f=χ)(S:Tl)(hc:C.clean c){a:Act}(hk:(S.kind==.early)=χ)
 (hd:a.defers=[cQ]){QL:Exit->Act->Ψ->Prop}
 (hl:∀T,c.wp (tw P F) (λe bJ aa=>(e=.normal/\bJ.defers=[cQ]\/e=.ret)/\QL e bJ aa) a (bq w T))
 (hw:cg C ρ w w')(hg:∀g,G g=θ->ρ g g)(hf:Fits M ρ w)(iU:∀b,M.has b->b<w'.heap.size)(hn:bO w.heap)(ht:aV ρ a.tmps t')
 {Stop:ay->ϐ->Ψ->Prop}
 (post:∀e bJ aa b6 aM fq aF,QL e bJ aa->iO M ρ w w' b6 aM aa aF->cg C aM aa aF->Fits b6 aM aa->(∀b,b6.has b->b<aF.heap.size)->(∀g,G g=θ->aM g g)->bO aa.heap->aV aM bJ.tmps fq->
   (e=.normal->bJ.defers=[cQ]->Stop b6 (aT ⟨f,fq,S.items,S.defers,.run,S.kind,ν⟩ S.callers) aF)/\
   (e=.ret->∀tW D',kM S aM θ bJ.defers D'->Stop b6 (aT ⟨f,fq,tW,D',.returning,S.kind,ν⟩ S.callers) aF)):
 Walk P main Stop M (aT ⟨f,t',.code c::S.items,S.defers,.run,S.kind,ν⟩ S.callers) w':=by
 let b:Ϛ:={ (default:Ϛ) with fn:=f,kind:=.normal}
 let Q:ϐ->Ψ->Prop:=λg w=>∃T e bJ todo m,QL e bJ (bq w T)/\g=aT ⟨f,bJ.tmps,todo,bJ.defers,m,.normal,ν⟩ []/\
  (e=.normal/\todo=[.code dt]/\m=.run/\bJ.defers=[cQ]\/e=.ret/\m=.returning)
 have cq:eo C S ρ θ (b.at a [.code c,.code dt]) ⟨f,t',.code c::S.items,S.defers,.run,S.kind,ν⟩:=
  .mk f ht (.cons (.code c hc) .stop) (by rw[hd];exact .stop) .run .none ⟨λh=>by simp at h,λ_=>rfl,λh=>absurd rfl h,λh=>by simp at h,hk,λ_=>rfl⟩
 have ew:uG P (tw P F) C S ρ (aT (b.at a [.code c,.code dt]) []) (aT ⟨f,t',.code c::S.items,S.defers,.run,S.kind,ν⟩ S.callers):=.inside cq .base;have hi:Inv C S G (aT (b.at a [.code c,.code dt]) []) w:=⟨hn,ρ,θ,_,_,_,_,w',rfl,hg,cq,.base,hw⟩;have OU:Sim.Safe (tw P F) Q (aT (b.at a [.code c,.code dt]) []) w:=by
  refine Qn (S:=S) E hh ?_ ?_ hi ?_
  ·rintro g w T ⟨T',e,bJ,todo,m,h1,h2,h3⟩
   exact⟨T',e,bJ,todo,m,h1,h2,h3⟩
  ·rintro g w ⟨T',e,bJ,todo,m,h1,rfl,h3⟩ ch
   rcases h3 with⟨_,_,rfl,_⟩ | ⟨_,rfl⟩<;>simp
  ·intro T
   obtain⟨e,bJ,aa,⟨h1,h2⟩,h3⟩:=hl T b [.code dt] [];rcases h1 with⟨rfl,kT⟩ |rfl
   ·obtain⟨n,hr⟩:=h3
    exact⟨n,_,_,aa,hr,aa.tape,.normal,bJ,[.code dt],.run,h2,rfl,.inl ⟨rfl,rfl,rfl,kT⟩⟩
   ·obtain⟨todo,n,hr⟩:=h3
    exact⟨n,_,_,aa,hr,aa.tape,.ret,bJ,todo,.returning,h2,rfl,.inr ⟨rfl,rfl⟩⟩
 refine Zx E main (Ym E hh OU hi) ⟨ew,hw,hg,hf,iU⟩ ?_
 intro b6 aM dP aa eB aF hR cr _ _ hq;obtain⟨gr,core,iy,fits,low⟩:=hR;cases gr with
 |hole f hf=>rw[hh] at hf;simp at hf
 |inside xt Eh=>
  obtain⟨⟨T,e,bJ,todo,m,h1,h2,h3⟩,qF⟩:=hq.resolve_right λh=>h ⟨_,_,_,_,_,rfl,rfl,xt,Eh⟩
  have e1:=congrArg Goroutine.frame h2;have e2:=congrArg Akc h2;simp only at e1 e2;subst e1 e2;obtain⟨rfl,rfl⟩:=Me Eh;have MH:cg C aM (bq aa T) aF:=core.left rfl;cases xt with
  |mk _ Aq fj kT qy rY iz=>
   cases rY;have Qr:iO M ρ w w' b6 aM (bq aa T) aF:=⟨cr.le,cr.new,cr.oa,cr.gO,cr.lD,cr.jd,cr.R,cr.O,cr.On,cr.tape,cr.os,cr.e⟩;have rR:=iz.DJ rfl;subst rR;have:=post e bJ (bq aa T) b6 aM _ aF h1 Qr MH fits low iy qF Aq;rcases h3 with⟨rfl,rfl,rfl,U6⟩ | ⟨rfl,rfl⟩
   ·have hD:=kT
    rw[U6] at hD;rw[Xd fj,zh hD];exact this.1 rfl U6
   ·exact this.2 rfl _ _ kT
end
abbrev rg(f:Â)(t:Array υ)(k:List Item)(D:List È)(kd:ű)(cs:List Ϛ):ϐ:=aT ⟨f,t,k,D,.run,kd,ν⟩ cs
def BP(M:ay)(w:Ψ):M.grow w w=M:=by
 unfold ay.grow;have:(λb=>M.O b\/(w.heap.size<=b/\b<w.heap.size))=M.O:=funext λb=>propext ⟨λh=>h.elim id λh=>absurd h.1 (by omega),.inl⟩
 rw[this]
section
variable {P:ϕ}{main:Bool}{Stop:ay->ϐ->Ψ->Prop}{M:ay}{w:Ψ}
def lL(hr:g.status=.running)(h:∀aa,Ϙ P main g aa=.go g' aa #[])(k:Walk P main Stop M g' w):Walk P main Stop M g w:=
 .step hr (λaa=>(g',aa,#[])) (λaa _=>⟨h aa,eZ.idle M aa⟩) λaa hk=>by
  show Walk P main Stop (M.grow aa aa) g' aa;rw[BP];exact k.rely hk
variable {f:Â}{t:Array υ}{k:List Item}{D:List È}{kd:ű}{cs:List Ϛ}
def fZ{x y:ϖ}(h:Walk P main Stop M (rg f t (.code x:: .code y::k) D kd cs) w):Walk P main Stop M (rg f t (.code (.seq x y)::k) D kd cs) w:=
 lL rfl (λaa=>by simp[Ϙ,ϱ]) h
def Q7(h:Walk P main Stop M (rg f t k D kd cs) w):Walk P main Stop M (rg f t (.code .skip::k) D kd cs) w:=
 lL rfl (λaa=>by simp[Ϙ,ϱ]) h
def De{id:Nat}(h:Walk P main Stop M (rg f t (.code c:: .inBlock id::k) D kd cs) w):Walk P main Stop M (rg f t (.code (.block id c)::k) D kd cs) w:=
 lL rfl (λaa=>by simp[Ϙ,ϱ]) h
def Q4{id:Nat}(h:Walk P main Stop M (rg f t k D kd cs) w):Walk P main Stop M (rg f t (.inBlock id::k) D kd cs) w:=
 lL rfl (λaa=>by simp[Ϙ,ϱ]) h
def Q6(h:Walk P main Stop M (rg f t (.code c:: .inLoop c::k) D kd cs) w):Walk P main Stop M (rg f t (.code (.loop c)::k) D kd cs) w:=
 lL rfl (λaa=>by simp[Ϙ,ϱ]) h
def Q5(h:Walk P main Stop M (rg f t (.code c:: .inLoop c::k) D kd cs) w):Walk P main Stop M (rg f t (.inLoop c::k) D kd cs) w:=
 lL rfl (λaa=>by simp[Ϙ,ϱ]) h
def Q3{id:Nat}(hk:exitTo id k=φ k')(h:Walk P main Stop M (rg f t k' D kd cs) w):Walk P main Stop M (rg f t (.code (.exit id)::k) D kd cs) w:=
 lL rfl (λaa=>by simp[Ϙ,ϱ,hk]) h
def Df{x y:ϖ}{q:Bool}(hq:t.getD n ω=.bool q)(h:Walk P main Stop M (rg f t (.code (if q then x else y)::k) D kd cs) w):Walk P main Stop M (rg f t (.code (.cond (.tmp n) x y)::k) D kd cs) w:=
 lL rfl (λaa=>by
  have:Þ ⟨f,t,.code (.cond (.tmp n) x y)::k,D,.run,kd,ν⟩ (.tmp n)=.bool q:=hq;simp[Ϙ,ϱ,this]) h
def aqL(h:Walk P main Stop M (aT ⟨f,t,.code .ret::k,D,.returning,kd,ν⟩ cs) w):Walk P main Stop M (rg f t (.code .ret::k) D kd cs) w:=
 lL rfl (λaa=>by simp[Ϙ,ϱ]) h
def aqJ(h:Walk P main Stop M (aT ⟨f,t,[],D,.returning,kd,ν⟩ cs) w):Walk P main Stop M (rg f t [] D kd cs) w:=
 lL rfl (λaa=>by simp[Ϙ,ϱ]) h
def iu{id:Nat}(h:Walk P main Stop M (rg f t (.inRegion ops (List.range ops.size)::k) D kd cs) w):Walk P main Stop M (rg f t (.code (.region id ops χ)::k) D kd cs) w:=
 lL rfl (λaa=>by simp[Ϙ,ϱ]) h
def jl(h:Walk P main Stop M (rg f t k D kd cs) w):Walk P main Stop M (rg f t (.inRegion ops []::k) D kd cs) w:=
 lL rfl (λaa=>by simp[Ϙ,ϱ]) h
end
def aX(t:Array υ):Ë->υ:=(Act.mk t []).eval
def uU:Þ ⟨f,t,k,D,.run,kd,ν⟩=aX t:=by
 funext x;cases x<;>rfl
def aA(t:Array υ)(d:Option Tmp)(v:υ):Array υ:=match d with
 |some d=>t.setIfInBounds d v
 |none=>t
section
variable {P:ϕ}{main:Bool}{Stop:ay->ϐ->Ψ->Prop}{M:ay}{w:Ψ}
variable {f:Â}{t:Array υ}{k:List Item}{D:List È}{kd:ű}{cs:List Ϛ}
def J8(ho:ops[i]?=φ o)(hg:Ä o (Ê ops t)=θ)(hk:(kd==.early)=χ)
 (hr:(execOp (aX t) o).runT P aa #[]=(.ok (.value v) au,es)):
 Ϙ P main (rg f t (.inRegion ops (i::rest)::k) D kd cs) aa=.go (rg f (aA t o.dst v) (.inRegion ops rest::k) D kd cs) au (seen P f es):=by
 have e1:Þ ⟨f,t,.inRegion ops (i::rest)::k,D,.run,kd,ν⟩=aX t:=uU;simp only[Ϙ,ϱ,ho,é,hg,ϻ,if_true,Ų,š,Ò,e1,hr];cases hd:o.dst<;>simp[đ,ho,hd,aA,hk,ß]
def YT(ho:ops[i]?=φ o)(hg:Ä o (Ê ops t)=θ)(hk:(kd==.early)=χ)
 (hr:(execOp (aX t) o).runT P aa #[]=(.ok .skip au,es)):
 Ϙ P main (rg f t (.inRegion ops (i::rest)::k) D kd cs) aa=.go (rg f (aA t o.dst ω) (.inRegion ops rest::k) D kd cs) au (seen P f es):=by
 have e1:Þ ⟨f,t,.inRegion ops (i::rest)::k,D,.run,kd,ν⟩=aX t:=uU;simp only[Ϙ,ϱ,ho,é,hg,ϻ,if_true,Ų,š,Ò,e1,hr];cases hd:o.dst<;>simp[đ,ho,hd,aA,hk,ß]
def apu(ho:ops[i]?=φ o)(hg:Ä o (Ê ops t)=θ)(hk:(kd==.early)=χ)
 {d:È}(hr:(execOp (aX t) o).runT P aa #[]=(.ok (.defer d) aa,#[])):
 Ϙ P main (rg f t (.inRegion ops (i::rest)::k) D kd cs) aa=.go (rg f (aA t o.dst ω) (.inRegion ops rest::k) (d::D) kd cs) aa #[]:=by
 have e1:Þ ⟨f,t,.inRegion ops (i::rest)::k,D,.run,kd,ν⟩=aX t:=uU;simp only[Ϙ,ϱ,ho,é,hg,ϻ,if_true,Ų,š,Ò,e1,hr];cases hd:o.dst<;>simp[đ,ho,hd,aA,hk,ß,seen]
def YU(ho:ops[i]?=φ o)(hg:Ä o (Ê ops t)=θ)(hk:(kd==.early)=χ)
 {d:È}(hn:d.target≠ .nil)(hr:(execOp (aX t) o).runT P aa #[]=(.ok (.spawn d) aa,#[])):
 Ϙ P main (rg f t (.inRegion ops (i::rest)::k) D kd cs) aa=.spawn (rg f (aA t o.dst ω) (.inRegion ops rest::k) D kd cs)
  {frame:={ (default:Ϛ) with fn:=P.funcs.size,defers:=[d],mode:=.panicking [Aj7]},callers:=[],status:=.running,dying:=ν} aa #[]:=by
 have e1:Þ ⟨f,t,.inRegion ops (i::rest)::k,D,.run,kd,ν⟩=aX t:=uU;simp only[Ϙ,ϱ,ho,é,hg,ϻ,if_true,Ų,š,Ò,e1,hr];obtain⟨tg,ar⟩:=d;cases tg<;>first|exact absurd rfl hn| (cases hd:o.dst<;>simp[đ,ho,hd,aA,hk,ß,seen])
def Gi(ho:ops[i]?=φ o)(hg:Ä o (Ê ops t)=θ)(hk:(kd==.early)=χ)
 {cases:Array CommCase}{bl:Bool}{sh:CommShape}(hr:(execOp (aX t) o).runT P aa #[]=(.ok (.comm cases bl sh) aa,#[])):
 Ϙ P main (rg f t (.inRegion ops (i::rest)::k) D kd cs) aa=.comm (rg f t (.inRegion ops (i::rest)::k) D kd cs) cases bl sh aa #[]:=by
 have e1:Þ ⟨f,t,.inRegion ops (i::rest)::k,D,.run,kd,ν⟩=aX t:=uU;simp only[Ϙ,ϱ,ho,é,hg,ϻ,if_true,Ų,š,Ò,e1,hr];simp[hk,ß,seen]
def Dg(ho:ops[i]?=φ o)(hg:Ä o (Ê ops t)=θ)(hk:(kd==.early)=χ)
 (h:∀aa,bR M w aa->∃v au es,((execOp (aX t) o).runT P aa #[]=(.ok (.value v) au,es)\/v=ω/\(execOp (aX t) o).runT P aa #[]=(.ok .skip au,es))/\eZ M aa au es/\
   Walk P main Stop (M.grow aa au) (rg f (aA t o.dst v) (.inRegion ops rest::k) D kd cs) au):
 Walk P main Stop M (rg f t (.inRegion ops (i::rest)::k) D kd cs) w:=by
 have key:∀aa,∃y:ϐ×Ψ×Array Event,bR M w aa->Ϙ P main (rg f t (.inRegion ops (i::rest)::k) D kd cs) aa=.go y.1 y.2.1 y.2.2/\eZ M aa y.2.1 y.2.2/\Walk P main Stop (M.grow aa y.2.1) y.1 y.2.1:=by
  intro aa;by_cases hw:bR M w aa
  ·obtain⟨v,au,es,hr,hd,hW⟩:=h aa hw
   have gh:eZ M aa au (seen P f es):=⟨hd.size,hd.kept,hd.tape,hd.os,hd.e,λe he=>hd.ev e (mem_seen he)⟩
   rcases hr with hr| ⟨rfl,hr⟩
   ·exact⟨(_,au,seen P f es),λ_=>⟨J8 ho hg hk hr,gh,hW⟩⟩
   ·exact⟨(_,au,seen P f es),λ_=>⟨YT ho hg hk hr,gh,hW⟩⟩
  ·exact⟨(rg f t k D kd cs,w,#[]),λh=>absurd h hw⟩
 refine .step rfl (λaa=>å (key aa)) (λaa hw=>?_) λaa hw=>?_
 ·exact⟨(Î (key aa) hw).1,(Î (key aa) hw).2.1⟩
 ·exact(Î (key aa) hw).2.2
def dJ(ho:ops[i]?=φ o)(hg:Ä o (Ê ops t)=θ)(hk:(kd==.early)=χ)
 (hr:∀aa,bR M w aa->∃es,(execOp (aX t) o).runT P aa #[]=(.ok (.value v) aa,es)/\∀e∈es,yP M e)
 (h:Walk P main Stop M (rg f (aA t o.dst v) (.inRegion ops rest::k) D kd cs) w):Walk P main Stop M (rg f t (.inRegion ops (i::rest)::k) D kd cs) w:=
 Dg ho hg hk λaa hw=>by
  obtain⟨es,h1,h2⟩:=hr aa hw;refine⟨v,aa,es,.inl h1,⟨ϊ _,λ_ _ _=>rfl,rfl,rfl,rfl,λe he=>by rw[BP];exact h2 e he⟩,?_⟩
  rw[BP];exact h.rely hw
def aqI{d:È}(ho:ops[i]?=φ o)(hg:Ä o (Ê ops t)=θ)(hk:(kd==.early)=χ)
 (hr:∀aa,(execOp (aX t) o).runT P aa #[]=(.ok (.defer d) aa,#[]))
 (h:Walk P main Stop M (rg f (aA t o.dst ω) (.inRegion ops rest::k) (d::D) kd cs) w):Walk P main Stop M (rg f t (.inRegion ops (i::rest)::k) D kd cs) w:=
 lL rfl (λaa=>apu ho hg hk (hr aa)) h
end
end Go.Jn
namespace Go.Jn
open Go Go.Sim Go.Conc
open Go.ConcN (sumTo upd sumTo_upd upd_ne upd_same)
def Dz(N:Nat)(es:Array Event):Prop:=∀e∈es,∀b,N<=b->e.loc≠ .obj b
inductive WalkE(P:ϕ)(main:Bool)(N:Nat)(Stop:ay->ϐ->Ψ->Prop):ay->ϐ->Ψ->Prop
 |stop {M:ay} {g:ϐ} {w:Ψ} (h:∀aa,bR M w aa->Stop M g aa):WalkE P main N Stop M g w
 |step {M:ay} {g:ϐ} {w:Ψ} (run:g.status=.running) (nx:Ψ->ϐ×Ψ×Array Event)
   (h:∀aa,bR M w aa->Ϙ P main g aa=.go (nx aa).1 (nx aa).2.1 (nx aa).2.2/\eZ M aa (nx aa).2.1 (nx aa).2.2/\Dz N (nx aa).2.2)
   (hs:∀aa,bR M w aa->WalkE P main N Stop (M.grow aa (nx aa).2.1) (nx aa).1 (nx aa).2.1):WalkE P main N Stop M g w
section
variable {P:ϕ}{main:Bool}{N:Nat}{Stop:ay->ϐ->Ψ->Prop}
def WalkE.rely(h:WalkE P main N Stop M g w)(k:bR M w aa):WalkE P main N Stop M g aa:=by
 cases h with
 |stop h=>exact .stop λau k2=>h au (k.trans k2)
 |step run nx h hs=>exact .step run nx (λau k2=>h au (k.trans k2)) λau k2=>hs au (k.trans k2)
def Zy(hr:g.status=.running)(h:∀aa,Ϙ P main g aa=.go g' aa #[])(k:WalkE P main N Stop M g' w):WalkE P main N Stop M g w:=
 .step hr (λaa=>(g',aa,#[])) (λaa _=>⟨h aa,eZ.idle M aa,λe he=>absurd he (by simp)⟩) λaa hk=>by
  show WalkE P main N Stop (M.grow aa aa) g' aa;rw[BP];exact k.rely hk
variable {f:Â}{k:List Item}{D:List È}{kd:ű}{cs:List Ϛ}
def Zz(h:WalkE P main N Stop M (rg f t k D kd cs) w):WalkE P main N Stop M (rg f t (.inRegion ops []::k) D kd cs) w:=
 Zy rfl (λaa=>by simp[Ϙ,ϱ]) h
def aqF(ho:ops[i]?=φ o)(hg:Ä o (Ê ops t)=θ)(hk:(kd==.early)=χ)
 (h:∀aa,bR M w aa->∃v au es,((execOp (aX t) o).runT P aa #[]=(.ok (.value v) au,es)\/v=ω/\(execOp (aX t) o).runT P aa #[]=(.ok .skip au,es))/\eZ M aa au es/\(∀e∈es,∀b,e.loc≠ .obj b)/\
   WalkE P main N Stop (M.grow aa au) (rg f (aA t o.dst v) (.inRegion ops rest::k) D kd cs) au):
 WalkE P main N Stop M (rg f t (.inRegion ops (i::rest)::k) D kd cs) w:=by
 have key:∀aa,∃y:ϐ×Ψ×Array Event,bR M w aa->(Ϙ P main (rg f t (.inRegion ops (i::rest)::k) D kd cs) aa=.go y.1 y.2.1 y.2.2/\eZ M aa y.2.1 y.2.2/\Dz N y.2.2)/\WalkE P main N Stop (M.grow aa y.2.1) y.1 y.2.1:=by
  intro aa;by_cases hw:bR M w aa
  ·obtain⟨v,au,es,hr,hd,aw,hW⟩:=h aa hw
   have gh:eZ M aa au (seen P f es):=⟨hd.size,hd.kept,hd.tape,hd.os,hd.e,λe he=>hd.ev e (Sim.mem_seen he)⟩
   have dn:Dz N (seen P f es):=λe he b _=>aw e (Sim.mem_seen he) b
   rcases hr with hr| ⟨rfl,hr⟩
   ·exact⟨(_,au,seen P f es),λ_=>⟨⟨J8 ho hg hk hr,gh,dn⟩,hW⟩⟩
   ·exact⟨(_,au,seen P f es),λ_=>⟨⟨YT ho hg hk hr,gh,dn⟩,hW⟩⟩
  ·exact⟨(rg f t k D kd cs,w,#[]),λh=>absurd h hw⟩
 refine .step rfl (λaa=>å (key aa)) (λaa hw=>?_) λaa hw=>?_
 ·exact(Î (key aa) hw).1
 ·exact(Î (key aa) hw).2
def aqE(hk:(kd==.early)=χ)(I:Nat->Array Bool->Array υ->ay->Ψ->Prop)
 (Oj:∀n l t M w aa,I n l t M w->bR M w aa->I n l t M aa)
 (dH:∀n l t M w i,I n l t M w->i∈Ç .any ops l->∃o v au es,ops[i]?=φ o/\Ä o (Ê ops t)=θ/\
   ((execOp (aX t) o).runT P w #[]=(.ok (.value v) au,es)\/v=ω/\(execOp (aX t) o).runT P w #[]=(.ok .skip au,es))/\eZ M w au es/\(∀e∈es,∀b,e.loc≠ .obj b)/\I (n+1) (l.setIfInBounds i θ) (aA t o.dst v) (M.grow w au) au)
 (rP:∀n l t M w,I n l t M w->(Ç .any ops l=[]\/n=ops.size)->WalkE P main N Stop M (rg f t k D kd cs) w):
 ∀(fuel n s:Nat) (l:Array Bool) (t:Array υ) (M:ay) (w:Ψ),n+fuel=ops.size->I n l t M w->
  WalkE P main N Stop M (rg f t (.inRegion ops (Ake .any ops fuel s l [])::k) D kd cs) w:=by
 intro fuel;induction fuel with
 |zero=>
  intro n s l t M w hn hI;have:Ake .any ops 0 s l []=[]:=by simp[Ake]
  rw[this];exact Zz (rP n l t M w hI (.inr (by omega)))
 |succ fuel ih=>
  intro n s l t M w hn hI;simp only[Ake];change WalkE P main N Stop M (rg f t (.inRegion ops (match(Ç .any ops l)[s % (Ç .any ops l).length]? with
   |some i=>Ake .any ops fuel (s / (Ç .any ops l).length) (l.setIfInBounds i θ) [i]
   |none=> [].reverse)::k) D kd cs) w
  cases hi:(Ç .any ops l)[s % (Ç .any ops l).length]? with
  |none=>
   have OD:Ç .any ops l=[]:=by
    cases hr:Ç .any ops l with
    |nil=>rfl
    |cons x xs=>
     rw[hr] at hi;have ao:s % (x::xs).length<(x::xs).length:=Nat.mod_lt _ (by simp)
     simp at hi;simp at ao;omega
   exact Zz (rP n l t M w hI (.inl OD))
  |some i=>
   simp only[];rw[linearise_go_acc,List.reverse_singleton,List.singleton_append];have ma:= Ϩ hi;obtain⟨o0,-,-,-,V1,IA,-,-,-,-⟩:=dH n l t M w i hI ma;refine aqF V1 IA hk λaa hw=>?_
   obtain⟨o,v,au,es,ho,hg,hr,hd,aw,zF⟩:=dH n l t M aa i (Oj _ _ _ _ _ _ hI hw) ma;rw[V1] at ho;cases ho
   exact⟨v,au,es,hr,hd,aw,ih (n+1) _ _ _ _ _ (by omega) zF⟩
def aqD(hm:P.follows .mixedOrders=θ){id:Nat}(hk:(kd==.early)=χ)(I:Nat->Array Bool->Array υ->ay->Ψ->Prop)
 (Oj:∀n l t M w aa,I n l t M w->bR M w aa->I n l t M aa)
 (dH:∀n l t M w i,I n l t M w->i∈Ç .any ops l->∃o v au es,ops[i]?=φ o/\Ä o (Ê ops t)=θ/\
   ((execOp (aX t) o).runT P w #[]=(.ok (.value v) au,es)\/v=ω/\(execOp (aX t) o).runT P w #[]=(.ok .skip au,es))/\eZ M w au es/\(∀e∈es,∀b,e.loc≠ .obj b)/\I (n+1) (l.setIfInBounds i θ) (aA t o.dst v) (M.grow w au) au)
 (rP:∀n l t M w,I n l t M w->(Ç .any ops l=[]\/n=ops.size)->WalkE P main N Stop M (rg f t k D kd cs) w)
 (h0:I 0 (ϭ ops.size χ) t M w):
 WalkE P main N Stop M (rg f t (.code (.region id ops θ)::k) D kd cs) w:=by
 have key:=aqE (P:=P) (main:=main) (N:=N) (Stop:=Stop) (f:=f) (k:=k) (D:=D) (cs:=cs) hk I Oj dH rP;refine .step rfl (λaa=>(rg f t (.inRegion ops (Akd θ ops ((Question.order f id).cut (aa.tape aa.drawn (.order f id))))::k) D kd cs,aa.at (aa.drawn+1),#[])) (λaa hw=>⟨?_,?_,λe he=>absurd he (by simp)⟩) λaa hw=>?_
 ·simp[Ϙ,ϱ,choose,Sem.run,Question.forced,hm]
  rfl
 ·exact⟨ϊ _,λ_ _ _=>rfl,rfl,rfl,rfl,λe he=>absurd he (by simp)⟩
 ·have hg:M.grow aa (aa.at (aa.drawn+1))=M:=BP M aa
  show WalkE P main N Stop (M.grow aa (aa.at (aa.drawn+1))) _ _;rw[hg];have:WalkE P main N Stop M (rg f t (.inRegion ops (Akd θ ops ((Question.order f id).cut (aa.tape aa.drawn (.order f id))))::k) D kd cs) w:=by
   simp only[Akd,Bool.true_or,if_true];exact key ops.size 0 _ _ _ _ _ (by simp) h0
  exact this.rely (hw.trans (bR.of_heap rfl rfl rfl rfl))
def mE(N:Nat)(t:Θ):Prop:=∀op∈t,∀a,op.act.touch? =φ a->∀b,N<=b->a.loc≠ .obj b
def mE.app{t u:Θ}(h:mE N t)(k:mE N u):mE N (t++u):=λop ag=>(Array.mem_append.1 ag).elim (h op) (k op)
def mE.events{g:Nat}{fn:Â}{pos:String}(h:Dz N es):mE N (MemOp.ofEvents g fn pos es):=by
 intro op ag a ha b hb;obtain⟨e,he,rfl⟩:=Go.Conc.mem_ofEvents ag;have:=h e he b hb;simp only at ha;obtain⟨loc,wr,sy⟩:=e;cases loc with
 |mark m=>cases m<;>cases wr<;>cases sy<;>simp[MemAct.ofEvent,MemAct.touch?] at ha<;>(subst ha;intro hx;cases hx)
 |_=>cases wr<;>cases sy<;>simp[MemAct.ofEvent,MemAct.touch?] at ha<;>subst ha<;>first|exact this| (intro hx;cases hx)
def mE.of_low{t:Θ}(h:∀op∈t,op.act.low N):mE N t:=by
 intro op ag a ha b hb e;obtain⟨k,hk⟩:=Ajz ag
 have:touchAt t k=φ a:=by rw[touchAt_of hk];exact ha
 have:=QR h this (.inl e);omega
def Um{sl:Option (Nat×Nat)}{t:Θ}{q:Nat->Nat}{dP:ϐ}(h:Fr P gs w t q g)(hs:Ϙ P θ g w=.go dP aa es)(hd:eZ M w aa es)(hM:∀b,M.has b->b<w.heap.size)
 (aw:Dz N es)(ht:mE N t):∃aY ops,runT P (Ϫ gs w sl) 0=(.next (Ϫ aY aa sl),ops)/\aY.size=gs.size/\Fr P aY aa (t++ops) q dP/\mE N (t++ops):=by
 obtain⟨h0,hL,hP,hN,hG⟩:=h;have vy:=runT_crowd_go (P:=P) (sl:=sl) (i:=0) h0 (show Ϙ P (0==0) g w=_ from hs)
 have ao:0<gs.size:=(ϛ.1 h0).1
 refine⟨_,_,vy,by simp,⟨by simp[ao],λj x hj hx=>?_,(hP.mono hd.size).own λe he=>MT (hd.ev e he) λb hb=>?_,hN.app (PY hd.ev),λop ag=>?_⟩,ht.app (.events aw)⟩
 ·have aw:0≠j:=by omega
  rw[ė aw,Đ] at hx
  obtain⟨y,hy,rfl⟩:=Č.1 hx;have hq:=hL j y hj hy;rw[Sim.woken_quits hq];exact hq
 ·exact BO hd hM b hb
 ·rw[Ē,Array.size_map]
  rcases Array.mem_append.1 ag with ag|ag
  ·exact hG op ag
  ·obtain⟨e,_,rfl⟩:=Go.Conc.mem_ofEvents ag
   exact ao
def Uo{sl:Option (Nat×Nat)}{t:Θ}{q:Nat->Nat}(h:Fr P gs w t q g)(bh:g.status=.running):
 (∃d bB,stepT P (Ϫ gs w sl)=runT P (Ϫ gs (w.at d) bB) 0)\/
 ∃aY d bB q',stepT P (Ϫ gs w sl)=(.next (Ϫ aY (w.at d) bB),#[])/\aY.size=gs.size/\sumTo aY.size q'<sumTo gs.size q/\Fr P aY (w.at d) t q' g:=by
 obtain⟨h0,hL,hP,hN,hG⟩:=h;have vc:∀g∈gs,awake g:=by
  intro x hx;obtain⟨i,hi,rfl⟩:=Aay.1 hx;rcases Akr i with rfl|te
  ·have:gs[0]=g:=by simpa [õ hi] using h0
   rw[this];exact awake_of (.inl bh)
  ·exact awake_of ((hL i _ te (õ hi)).status.elim .inl λx=>.inr (.inr x))
 obtain⟨i,x,d,bB,hi,hg,eW⟩:=crowd_pick (P:=P) (w:=w) (sl:=sl) vc ⟨0,g,h0,bh⟩;rcases Akr i with rfl|te
 ·exact .inl ⟨d,bB,eW⟩
 ·right
  have hq:=hL i x te hi;have cJ:(i==0)=χ:=by simp;omega
  have ao:i<gs.size:=(ϛ.1 hi).1
  cases qH:q i with
  |zero=>rw[qH] at hq;rw[show x.status=.finished from hq] at hg;cases hg
  |succ k=>
   rw[qH] at hq;rcases hq with hf| ⟨_,g',Fa,oQ⟩
   ·rw[hf] at hg;cases hg
   have vy:=runT_crowd_go (P:=P) (sl:=bB) (i:=i) hi (by rw[cJ];exact Fa (w.at d))
   rw[oW] at vy;have aN:((gs.map (woken P x g' (w.at d))).setIfInBounds i g').size=gs.size:=by simp
   have I2:sumTo gs.size (upd q i k)+(k+1)=sumTo gs.size q+k:=by
    have:=sumTo_upd q k id ao;simpa [qH] using this
   refine⟨(gs.map (woken P x g' (w.at d))).setIfInBounds i g',d,bB,upd q i k,eW.trans vy,aN,by rw[aN];omega,?_,λj y hj hy=>?_,hP,hN,λop ag=>by rw[aN];exact hG op ag⟩
   ·have aw:i≠0:=by omega
    rw[ė aw,Đ,h0]
    simp[woken_run bh]
   ·by_cases qv:i=j
    ·subst qv
     rw[Aj0 (by simpa using ao)] at hy
     obtain rfl:=Ϟ hy;rw[upd_same];exact oQ
    ·rw[ė qv,Đ] at hy
     obtain⟨z,hz,rfl⟩:=Č.1 hy;have Aj:=hL j z hj hz;rw[Sim.woken_quits Aj,upd_ne q k (ϸ qv)];exact Aj
def acy(h:WalkE P θ N Stop M g w):
 ∀(gs:Array ϐ) (sl:Option (Nat×Nat)) (t:Θ) (q:Nat->Nat),Fr P gs w t q g->(∀b,M.has b->b<w.heap.size)->mE N t->
  ∃(n:Nat) (aY:Array ϐ) (M':ay) (g':ϐ) (w':Ψ) (bB:Option (Nat×Nat)) (t':Θ) (q':Nat->Nat),
    ô P n (Ϫ gs w sl) t=(.next (Ϫ aY w' bB),t')/\aY.size=gs.size/\Stop M' g' w'/\Fr P aY w' t' q' g'/\mE N t':=by
 induction h with
 | @stop M g w h=>exactλgs sl t q hF hM hT=>⟨0,gs,M,g,w,sl,t,q,rfl,rfl,h w (bR.refl M w),hF,hT⟩
 | @step M g w run nx h hs ih=>
   have key:∀(n:Nat) (gs:Array ϐ) (sl:Option (Nat×Nat)) (t:Θ) (q:Nat->Nat) (au:Ψ),sumTo gs.size q<=n->bR M w au->Fr P gs au t q g->(∀b,M.has b->b<au.heap.size)->mE N t->
    ∃(n:Nat) (aY:Array ϐ) (M':ay) (g':ϐ) (w':Ψ) (bB:Option (Nat×Nat)) (t':Θ) (q':Nat->Nat),
     ô P n (Ϫ gs au sl) t=(.next (Ϫ aY w' bB),t')/\aY.size=gs.size/\Stop M' g' w'/\Fr P aY w' t' q' g'/\mE N t':=by
    intro n;induction n with
    |zero=>
     intro gs sl t q au hn k hF hM hT;rcases Uo (sl:=sl) hF run with⟨d,bB,eW⟩ | ⟨aY,d,bB,q',_,_,ao,_⟩
     ·have k2:=k.trans (AA M au d)
      obtain⟨h1,h2,h3⟩:=h _ k2;obtain⟨jw,ops,hr,aN,mL,zH⟩:=Um (sl:=bB) (w:=au.at d) (M:=M) ⟨hF.zero,hF.lv,hF.il,hF.nd,hF.gb⟩ h1 h2 hM h3 hT;obtain⟨N',aY,M',g',w',oc,t',q',r1,r2,r3,r4⟩:=ih _ k2 jw bB _ q mL (BO h2 hM) zH;exact⟨N'+1,aY,M',g',w',oc,t',q',by simp only[ô,eW,hr];exact r1,r2.trans aN,r3,r4⟩
     ·omega
    |succ n Fy=>
     intro gs sl t q au hn k hF hM hT;rcases Uo (sl:=sl) hF run with⟨d,bB,eW⟩ | ⟨aY,d,bB,q',eW,aN,ao,mL⟩
     ·have k2:=k.trans (AA M au d)
      obtain⟨h1,h2,h3⟩:=h _ k2;obtain⟨jw,ops,hr,aN,mL,zH⟩:=Um (sl:=bB) (w:=au.at d) (M:=M) ⟨hF.zero,hF.lv,hF.il,hF.nd,hF.gb⟩ h1 h2 hM h3 hT;obtain⟨N',aY,M',g',w',oc,t',q',r1,r2,r3,r4⟩:=ih _ k2 jw bB _ q mL (BO h2 hM) zH;exact⟨N'+1,aY,M',g',w',oc,t',q',by simp only[ô,eW,hr];exact r1,r2.trans aN,r3,r4⟩
     ·obtain⟨N',zw,M',g',w',oc,t',Qa,r1,r2,r3,r4⟩:=Fy aY bB t q' (au.at d) (by omega) (k.trans (AA M au d)) mL hM hT
      exact⟨N'+1,zw,M',g',w',oc,t',Qa,by simp only[ô,eW,á];exact r1,r2.trans aN,r3,r4⟩
   exactλgs sl t q hF hM hT=>key _ gs sl t q w (ϊ _) (bR.refl M w) hF hM hT
end
end Go.Jn
namespace Go.Jn
open Go Go.Sim Go.Conc
def G7(w:Ψ):Base w w:=⟨ϊ _,rfl,rfl,rfl⟩
def sG{a b c:Ψ}(h:Base a b)(k:Base b c):Base a c:=⟨ϡ h.size k.size,k.tape.trans h.tape,k.os.trans h.os,k.e.trans h.e⟩
def G6{M:Sim.ay}{a b:Ψ}(k:bR M a b):Base a b:=⟨k.size,k.tape,k.os,k.e⟩
def SO{M:Sim.ay}{a b:Ψ}(k:eZ M a b es):Base a b:=⟨k.size,k.tape,k.os,k.e⟩
def Gp{Stop:Sim.ay->ϐ->Ψ->Prop}{M:Sim.ay}(h:Walk P main Stop M g w):∀ {w0:Ψ},Base w0 w->Walk P main (λM g w'=>Stop M g w'/\Base w0 w') M g w:=by
 induction h with
 |stop h=>exactλhb=>.stop λaa k=>⟨h aa k,sG hb (G6 k)⟩
 |step run nx h hs ih=>exactλhb=>.step run nx h λaa k=>ih aa k (sG (sG hb (G6 k)) (SO (h aa k).2))
def aqA{Stop:Sim.ay->ϐ->Ψ->Prop}{M:Sim.ay}(h:WalkE P main N Stop M g w):∀ {w0:Ψ},Base w0 w->WalkE P main N (λM g w'=>Stop M g w'/\Base w0 w') M g w:=by
 induction h with
 |stop h=>exactλhb=>.stop λaa k=>⟨h aa k,sG hb (G6 k)⟩
 |step run nx h hs ih=>exactλhb=>.step run nx h λaa k=>ih aa k (sG (sG hb (G6 k)) (SO (h aa k).2.1))
def vO{b:Nat}{m':Machine}{t':Θ}{r:Stepped×Θ}:∀(a:Nat) (m:Machine) (t:Θ),ô P a m t=(.next m',t')->ô P b m' t'=r->ô P (a+b) m t=r:=by
 intro a;induction a with
 |zero=>intro m t h k;simp only[ô,Prod.mk.injEq,Stepped.next.injEq] at h;obtain⟨rfl,rfl⟩:=h;rw[Nat.zero_add];exact k
 |succ a ih=>
  intro m t h k;rw[Nat.succ_add];simp only[ô] at h |-
  cases hs:Go.stepT P m with
  |mk e ops=>
   rw[hs] at h;cases e with
   |next m1=>exact ih _ _ h k
   |ended o w=>simp at h
def cS(P:ϕ):Ϛ:={ (default:Ϛ) with fn:=P.funcs.size,defers:=[],mode:=.panicking [Aj7]}
def born(P:ϕ)(d:È):ϐ:={frame:={ (default:Ϛ) with fn:=P.funcs.size,defers:=[d],mode:=.panicking [Aj7]},callers:=[],status:=.running,dying:=ν}
def vR(P:ϕ)(f:Â):seen P f #[]=#[]:=by simp[seen]
section
variable {P:ϕ}{main:Bool}{Stop:ay->ϐ->Ψ->Prop}{M:ay}{w:Ψ}
def aps(hr:(callFunc f (args++fe)).runT P aa #[]=(.ok (.enter f (args++fe)) aa,#[])):
 Ϙ P main (born P {target:=.fn (.func f) fe,args}) aa=.go (aT (Ý P f (args++fe) .deferred) [cS P]) aa #[]:=by
 have hi:invoke (.fn (.func f) fe) args=callFunc f (args++fe):=rfl;have e:ģ P (cS P) [] ν {target:=.fn (.func f) fe,args} aa=.go (aT (Ý P f (args++fe) .deferred) [cS P]) aa #[]:=by
  unfold ģ;simp only[hi,hr,vR,ß,Bool.false_and,Ð,if_false];rfl
 exact e
def BL(hf:P.funcs[f]?=φ fn)(hb:fn.body=φ c)(x:Array υ)(kd:ű):
 Ý P f x kd=⟨f,x++ϭ (fn.ntmps - x.size) ω,[.code c],[],.run,kd,ν⟩:=by
 simp[Ý,hf,hb]
def ZA(hf:P.funcs[f]?=φ fn)(hb:fn.body=φ c)(hr:∀aa,(callFunc f (args++fe)).runT P aa #[]=(.ok (.enter f (args++fe)) aa,#[]))
 (h:Walk P main Stop M (rg f ((args++fe)++ϭ (fn.ntmps - (args++fe).size) ω) [.code c] [] .deferred [cS P]) w):Walk P main Stop M (born P {target:=.fn (.func f) fe,args}) w:=
 lL rfl (λaa=>(aps (hr aa)).trans (by rw[BL hf hb])) h
def DU(hf:P.funcs[f]?=φ fn)(hb:fn.body=φ c)(hn:(fn.name== "runtime.NumGoroutine")=χ)(args:Array υ)(aa:Ψ):(callFunc f args).runT P aa #[]=(.ok (.enter f args) aa,#[]):=by
 simp only[callFunc,Go.program,bind,ϫ,Ϥ,hf,hb,hn,Option.isNone_some,Ð,if_false];rfl
def results_none(hr:fn.results=#[])(t:Array υ)(aa:Ψ):(results fn t).runT P aa #[]=(.ok (μ #[]) aa,#[]):=by
 have e:results fn t=Ļ (μ #[]):=by
  unfold results;rw[hr];simp only[į,Aki];rfl
 rw[e];rfl
def apy(hf:P.funcs[f]?=φ fn)(hr:fn.results=#[])(aa:Ψ):
 Ϙ P χ (aT ⟨f,t,k,[],.returning,.deferred,ν⟩ [cS P]) aa=.go (aT (cS P) []) aa #[]:=by
 have e:Ï P χ ⟨f,t,k,[],.returning,.deferred,ν⟩ [cS P] ν aa=.go (aT (cS P) []) aa #[]:=by
  unfold Ï;simp only[hf,results_none hr,vR,ß,doReturn];rfl
 exact e
def apw(aa:Ψ)(hc:(cS P).catches P=χ):Ϙ P χ (aT (cS P) []) aa=.go {frame:=cS P,callers:=[],status:=.finished,dying:=ν} aa #[]:=by
 have e:Ï P χ (cS P) [] ν aa=.go {frame:=cS P,callers:=[],status:=.finished,dying:=ν} aa #[]:=by
  have e1:(cS P).defers=[]:=rfl;have e2:(cS P).mode=.panicking [Aj7]:=rfl;unfold Ï;simp only[e1,e2,hc,Ð,if_false];rfl
 exact e
def afZ(P:ϕ):(cS P).catches P=χ:=by
 have e:(cS P).todo=[]:=rfl;have e2:P.funcs[(cS P).fn]?=ν:=by show P.funcs[P.funcs.size]?=ν;simp
 unfold Frame.catches;rw[e,e2]
def X5(hf:P.funcs[f]?=φ fn)(hr:fn.results=#[]):QuitsIn P 2 (aT ⟨f,t,k,[],.returning,.deferred,ν⟩ [cS P]):=
 .inr ⟨rfl,_,λaa=>apy hf hr aa,.inr ⟨rfl,_,λaa=>apw aa (afZ P),rfl⟩⟩
end
end Go.Jn
namespace Go.Jn
open Go Go.Proofs Go.Sim
def bp:ϖ->ϖ
 | .seq a _=>a
 |c=>c
def aS:ϖ->ϖ
 | .seq _ b=>b
 |c=>c
def opsOf:ϖ->Array Í
 | .region _ ops _=>ops
 |_=>#[]
def BB:ϖ:=(Tryz.f38.body).getD .skip
def jB:Array Í:=opsOf (bp (aS (aS BB)))
def bn(b:Bool):Nat:=if b then 1 else 0
def wQ(i:Nat)(a0 a1 a2 a3 a4 a5:Bool):Bool:=match i with
 |0=> !a0
 |1=> !a1
 |2=> !a2
 |3=> !a3
 |4=> !a4 && a0 && a2
 |5=> !a5 && a1 && a3
 |_=>χ
def wL:List Bool:=[χ,θ]
def G1(p:Bool->Bool->Bool->Bool->Bool->Bool->Bool):Bool:=wL.all λa0=>wL.all λa1=>wL.all λa2=>wL.all λa3=>wL.all λa4=>wL.all λa5=>p a0 a1 a2 a3 a4 a5
def Sz{p:Bool->Bool->Bool->Bool->Bool->Bool->Bool}(h:G1 p=θ)(a0 a1 a2 a3 a4 a5:Bool):p a0 a1 a2 a3 a4 a5=θ:=by
 unfold G1 at h;simp only[ġ] at h;have hb:∀b:Bool,b∈wL:=by intro b;cases b<;>simp[wL]
 exact h a0 (hb _) a1 (hb _) a2 (hb _) a3 (hb _) a4 (hb _) a5 (hb _)
def anf:G1 (λa0 a1 a2 a3 a4 a5=>(Ç .any jB #[a0,a1,a2,a3,a4,a5]).all λi=>wQ i a0 a1 a2 a3 a4 a5)=θ:=by decide+kernel
def aer:G1 (λa0 a1 a2 a3 a4 a5=> !(Ç .any jB #[a0,a1,a2,a3,a4,a5]).isEmpty|| (a0 && a1 && a2 && a3 && a4 && a5))=θ:=by decide+kernel
def amF:∃o,jB[0]?=φ o/\o.op=.makeChan 154 (.const (ξ κ 0))/\o.dst=φ 19/\o.guard=ν:=⟨_,rfl,rfl,rfl,rfl⟩
def amG:∃o,jB[1]?=φ o/\o.op=.makeChan 155 (.const (ξ κ 0))/\o.dst=φ 20/\o.guard=ν:=⟨_,rfl,rfl,rfl,rfl⟩
def amH:∃o,jB[2]?=φ o/\o.op=.alloc 154/\o.dst=φ 6/\o.guard=ν:=⟨_,rfl,rfl,rfl,rfl⟩
def amI:∃o,jB[3]?=φ o/\o.op=.alloc 155/\o.dst=φ 7/\o.guard=ν:=⟨_,rfl,rfl,rfl,rfl⟩
def amJ:∃o,jB[4]?=φ o/\o.op=.store 154 (.tmp 6) (.tmp 19)/\o.dst=ν/\o.guard=ν:=⟨_,rfl,rfl,rfl,rfl⟩
def amK:∃o,jB[5]?=φ o/\o.op=.store 155 (.tmp 7) (.tmp 20)/\o.dst=ν/\o.guard=ν:=⟨_,rfl,rfl,rfl,rfl⟩
def ao2:jB.size=6:=rfl
def cx{y:Nat->Option Bool}(h:o.guard=ν):Ä o y=θ:=by unfold Ä;rw[h]
def Yi(t:Array υ)(ho:o.op=.makeChan ty (.const (ξ κ 0)))(hu:P.underlying ty=φ (.chan dir e))(w:Ψ)
 (hi:∃i,P.info? e=φ i):(execOp (aX t) o).runT P w #[]=(.ok (.value (.chan (φ w.heap.size))) (w.alloc (.chan 0 #[] χ 0 0 χ)),#[]):=by
 obtain⟨i,hi⟩:=hi;have h1:¬ ((0:Int)<0\/(0:Int)>IntKind.i64.max\/(i.bytes:Int) * 0>2 ^ 48 - 112):=by
  rintro(h|h|h)
  ·omega
  ·exact absurd h (by decide)
  ·omega
 unfold execOp;rw[ho];simp only[Instr.makeChan,aX,Act.eval,asInt,asIntOf,Go.underlying,Go.typeInfo,Go.program,bind,ϫ,Ϥ,hu,hi,pure,newObj,World.alloc];rw[if_neg h1];rfl
def Qj(t:Array υ)(ho:o.op=.alloc ty){i:Ħ}(hi: P.info? ty=φ i)(hz:i.zero=φ v)(hv:v.cells=#[v])(w:Ψ):
 (execOp (aX t) o).runT P w #[]=(.ok (.value (π (φ ⟨w.heap.size,0,ν⟩))) (w.alloc (Ξ #[v] ty)),#[]):=by
 unfold execOp;rw[ho];simp only[Instr.alloc,Go.zeroValue,Go.typeInfo,Go.program,bind,ϫ,Ϥ,hi,hz,pure,newVar,newRow,newObj,World.alloc,hv]
def P5:TypeDesc->Bool
 | .struct _| .array _ _=>χ
 |_=>θ
def ajs{d:TypeDesc}(hu:P.underlying ty=φ d)(hd:P5 d=θ)(w:Ψ)(es:Array Event):(Go.isAgg ty).runT P w es=(.ok χ w,es):=by
 simp only[Go.isAgg,Go.underlying,Go.program,bind,ϫ,Ϥ,hu,pure];cases d<;>first|rfl|exact absurd hd (by simp[P5])
def Qm(t:Array υ)(ho:o.op=.store ty (.tmp n) (.tmp m)){b:Nat}(ht:t.getD n ω=π (φ ⟨b,0,ν⟩))(hm:t.getD m ω=v)(hv:v.cells=#[v])(h1:T8 v=θ)
 {i:Ħ}(hi: P.info? ty=φ i)(hs:i.size=1)
 (w:Ψ)(hw:w.heap[b]?=φ (Ξ #[v0] e (0,0))):
 (execOp (aX t) o).runT P w #[]=(.ok .skip {w with heap:=w.heap.setIfInBounds b (Ξ #[v] e (0,0))},#[⟨.cell ⟨b,0,ν⟩,θ,χ⟩]):=by
 have hc: w.cell? ⟨b,0,ν⟩=φ v0:=mH hw rfl rfl;have hf: w.frozen? ⟨b,0,ν⟩=χ:=by rw[zp hw];rfl
 have e1:aX t (.tmp n)=π (φ ⟨b,0,ν⟩):=ht;have e3:aX t (.tmp m)=v:=hm;have I0:w.setCell ⟨b,0,ν⟩ v={w with heap:=w.heap.setIfInBounds b (Ξ #[v] e (0,0))}:=by
  have hh:(w.setCell ⟨b,0,ν⟩ v).heap=w.heap.setIfInBounds b (Ξ #[v] e (0,0)):=by
   apply ŝ;intro i;rw[C4 hw rfl i,Ù]
   by_cases hi:i=b
   ·subst hi
    have ao:=(ϛ.1 hw).1
    simp only[if_true,ao];rfl
   ·simp only[hi,ϸ hi,if_false]
  rw[<-hh];rfl
 have e2:execOp (aX t) o=(storeVar ty ⟨b,0,ν⟩ v>>=λ_=>pure .skip):=by
  unfold execOp;rw[ho];simp only[Instr.storeAt,e1,e3,Instr.sureAddr,bind,ϫ,pure]
 rw[e2];have eW:∀es,(Go.store ⟨b,0,ν⟩ v).runT P w es=(.ok () (w.setCell ⟨b,0,ν⟩ v),es.push ⟨.cell ⟨b,0,ν⟩,θ,χ⟩):=by
  intro es;cases v<;>first| (unfold Go.store;simp only[Ϥ,hc,hf,Ð,if_false];rfl) |cases h1
 rw[<-I0];have aw:¬ (#[v].size≠1):=by simp
 simp only[storeVar,hv,storeCells,sizeOf,Go.typeInfo,Go.program,bind,ϫ,Ϥ,hi,hs,pure];rw[if_neg aw];have ha:(⟨b,0,ν⟩:Addr).add 0=⟨b,0,ν⟩:=rfl;rw[ha];show(((Go.store ⟨b,0,ν⟩ v).bind λ_=>Ļ ()).bind λ_=>Ļ Next.skip).runT P w #[]=_
 rw[qR,qR,eW];rfl
end Go.Jn
namespace Go.Jn
open Go Go.Sim Go.Conc
section
variable {P:ϕ}(t:Array υ){o:Í}(w:Ψ)
def run_move{x:Ë}(ho:o.op=.move x):(execOp (aX t) o).runT P w #[]=(.ok (.value (aX t x)) w,#[]):=by
 unfold execOp;rw[ho];rfl
def run_assign{x:Ë}(ho:o.op=.assign x):(execOp (aX t) o).runT P w #[]=(.ok (.value (aX t x)) w,#[]):=by
 unfold execOp;rw[ho];rfl
def Qk{cp:Array Ë}(ho:o.op=.makeFunc (.func f) #[] cp):(execOp (aX t) o).runT P w #[]=(.ok (.value (.func (.func f) #[] (cp.map (aX t)))) w,#[]):=by
 unfold execOp;rw[ho]
 simp only[Aj1,Instr.makeFunc];rfl
def Yf{n:Nat}{ts:Array ό}{f:Â}{fe:Array υ}(ho:o.op=.go {callee:=.value (.tmp n),args:=#[],argTypes:=ts})(hn:t.getD n ω=.func (.func f) #[] fe):
 (execOp (aX t) o).runT P w #[]=(.ok (.spawn {target:=.fn (.func f) fe,args:=#[]}) w,#[]):=by
 have e1:aX t (.tmp n)=.func (.func f) #[] fe:=hn;unfold execOp;rw[ho];simp only[resolve,e1,Deferred.ofValue,Aj1,á];rfl
def anY{n:Nat}{ts:Array ό}{f:Â}{fe:Array υ}(ho:o.op=.defer {callee:=.value (.tmp n),args:=#[],argTypes:=ts})(hn:t.getD n ω=.func (.func f) #[] fe):
 (execOp (aX t) o).runT P w #[]=(.ok (.defer {target:=.fn (.func f) fe,args:=#[]}) w,#[]):=by
 have e1:aX t (.tmp n)=.func (.func f) #[] fe:=hn;unfold execOp;rw[ho];simp only[resolve,e1,Deferred.ofValue,Aj1,á];rfl
def Yj{x:Ë}{c:Nat}(ho:o.op=.send (.tmp n) x)(hn:t.getD n ω=.chan (φ c)):
 (execOp (aX t) o).runT P w #[]=(.ok (.comm #[scase c (aX t x) (μ #[])] θ .send) w,#[]):=by
 have e1:aX t (.tmp n)=.chan (φ c):=hn;unfold execOp;rw[ho];simp only[e1];rfl
def Ql{c:Nat}(ho:o.op=.recv ty (.tmp n) ok)(hn:t.getD n ω=.chan (φ c))(hu:P.underlying ty=φ (.chan dir e)){i:Ħ}(hi: P.info? e=φ i)(hz:i.zero=φ z):
 (execOp (aX t) o).runT P w #[]=(.ok (.comm #[rcase c z] θ (.recv ok)) w,#[]):=by
 have e1:aX t (.tmp n)=.chan (φ c):=hn;unfold execOp;rw[ho]
 simp only[e1,Go.underlying,Go.zeroValue,Go.typeInfo,Go.program,bind,ϫ,Ϥ,hu,hi,hz,pure];rfl
def F9{x:Array υ}(ho:o.op=.extract (.tmp n) i)(hn:t.getD n ω=.tuple x)(hx:x[i]?=φ v):
 (execOp (aX t) o).runT P w #[]=(.ok (.value v) w,#[]):=by
 have e1:aX t (.tmp n)=.tuple x:=hn;unfold execOp;rw[ho]
 simp only[e1,Instr.extract,hx];rfl
def JU{x y:Ë}{a b:Int}(ho:o.op=.binOp .lss ty x y Q0)(hx:aX t x=ξ κ a)(hy:aX t y=ξ κ b):
 (execOp (aX t) o).runT P w #[]=(.ok (.value (.bool (decide (a<b)))) w,#[]):=by
 unfold execOp;rw[ho]
 simp only[hx,hy];rfl
def Yc{x y:Ë}{a b:Int}(ho:o.op=.binOp .add ty x y Q0)(hx:aX t x=ξ κ a)(hy:aX t y=ξ κ b):
 (execOp (aX t) o).runT P w #[]=(.ok (.value (ξ κ (IntKind.i64.wrap (a+b)))) w,#[]):=by
 unfold execOp;rw[ho]
 simp only[hx,hy];rfl
def Yg{n:Nat}{ty e:ό}{b:Option Addr}{l c:Nat}(ho:o.op=.call {callee:=.builtin .len,args:=#[.tmp n],argTypes:=#[ty]})(hn:t.getD n ω=.slice b l c)(hu:P.underlying ty=φ (.slice e)):
 (execOp (aX t) o).runT P w #[]=(.ok (.value (goInt l)) w,#[]):=by
 have e1:aX t (.tmp n)=.slice b l c:=hn;unfold execOp;rw[ho]
 simp only[resolve,Ţ,ō,Ŏ,e1];show((Builtin.len_ #[ty] o.type #[.slice b l c]).bind λv=>Ļ (Next.value v)).runT P w #[]=_
 have e2:(Builtin.len_ #[ty] o.type #[.slice b l c]).runT P w #[]=(.ok (goInt l) w,#[]):=by
  unfold Builtin.len_;simp only[Go.underlying,Go.program,bind,ϫ,Ϥ,pure,List.getElem?_toArray,List.getElem?_cons_zero,hu]
 rw[qR,e2];rfl
def Ye{f:Nat}(ho:o.op=.fieldAddr ty (.tmp n) f){a:Addr}(hn:t.getD n ω=π (φ a))(hu:P.underlying ty=φ (.struct fs)){fd:Field}(hf:fs[f]?=φ fd){i:Ħ}(hi: P.info? fd.type=φ i)(hs:i.size≠0):
 (execOp (aX t) o).runT P w #[]=(.ok (.value (π (φ (a.add fd.offset)))) w,#[]):=by
 have e1:aX t (.tmp n)=π (φ a):=hn;unfold execOp;rw[ho]
 simp only[e1,Instr.fieldAt,Instr.sureAddr,fieldPlace,sizeOf,Go.underlying,Go.typeInfo,Go.program,bind,ϫ,Ϥ,pure,hu,hf,hi,if_neg hs]
def yz(ho:o.op=.load ty (.tmp n)){a:Addr}(hn:t.getD n ω=π (φ a)){d:TypeDesc}(hu:P.underlying ty=φ d)(hd:P5 d=θ)(hc: w.cell? a=φ v):
 (execOp (aX t) o).runT P w #[]=(.ok (.value v) w,#[⟨.cell a,χ,χ⟩]):=by
 have e1:aX t (.tmp n)=π (φ a):=hn;have e2:execOp (aX t) o=(do let x <-(do if <-Go.isAgg ty then pure (.agg (<-loadCells a (<-sizeOf ty))) else Go.load a);pure (.value x)):=by
  unfold execOp;rw[ho];simp only[Instr.loadAt,e1,Instr.sureAddr,loadVar,bind,ϫ,pure]
 rw[e2];simp only[bind,Go.load];rw[qR,qR,ajs hu hd];simp only[Ð,if_false,Ϥ,hc,ŏ];rfl
def anX{n:Nat}{ty:ό}{c s r:Nat}(ho:o.op=.call {callee:=.builtin .close,args:=#[.tmp n],argTypes:=#[ty]})(hn:t.getD n ω=.chan (φ c))(hw:w.heap[c]?=φ (.chan 0 #[] χ s r χ)):
 (execOp (aX t) o).runT P w #[]=(.ok (.value (μ #[])) (w.shut c s r χ),#[⟨.obj c,χ,θ⟩,⟨.obj c,θ,θ⟩]):=by
 have e1:aX t (.tmp n)=.chan (φ c):=hn;unfold execOp;rw[ho]
 simp only[resolve,Ţ,ō,Ŏ,e1];show((Builtin.close_ #[ty] o.type #[.chan (φ c)]).bind λv=>Ļ (Next.value v)).runT P w #[]=_
 have e2:(Builtin.close_ #[ty] o.type #[.chan (φ c)]).runT P w #[]=(.ok (μ #[]) (w.shut c s r χ),#[⟨.obj c,χ,θ⟩,⟨.obj c,θ,θ⟩]):=by
  have e3:Builtin.close_ #[ty] o.type #[.chan (φ c)]=(do
   let .chan room buf closed aoS anh timer <-Go.getObj c|Go.stuck "close: no channel in this block"
   if closed then runtimePanic (.plain "close of closed channel")
   Go.setObj c (.chan room buf θ aoS anh timer)
   pure (μ #[])):=rfl
  rw[e3];simp only[Go.getObj,Go.setObj,bind,ϫ,Ϥ,hw,Ð,if_false,pure,ŏ];rfl
 rw[qR,e2];rfl
end
end Go.Jn
namespace Go.Jn
open Go Go.Proofs Go.Sim
def ChanAt(t:Array υ)(M:ay)(w0 w:Ψ)(s c:Nat):Prop:=t[s]?=φ (.chan (φ c))/\M.O c/\w0.heap.size<=c/\w.heap[c]?=φ (.chan 0 #[] χ 0 0 χ)
def pd(t:Array υ)(M:ay)(w0 w:Ψ)(s p:Nat)(v:υ)(ty:ό):Prop:=t[s]?=φ (π (φ ⟨p,0,ν⟩))/\M.O p/\w0.heap.size<=p/\w.heap[p]?=φ (Ξ #[v] ty (0,0))
def lz{o:Obj}{b:Nat}(h:b<w.heap.size):(w.alloc o).heap[b]?=w.heap[b]?:=by
 show(w.heap.push o)[b]?=_;rw[ţ,if_neg (by omega)]
def kQ{o:Obj}:(w.alloc o).heap[w.heap.size]?=φ o:=by
 show(w.heap.push o)[w.heap.size]?=_;rw[ţ,if_pos rfl]
def fy{o:Obj}:(w.alloc o).heap.size=w.heap.size+1:=by
 show(w.heap.push o).size=_;rw[Array.size_push]
def zg{o:Obj}:eZ M w (w.alloc o) #[]:=
 ⟨by rw[fy];omega,λb hb _=>lz hb,rfl,rfl,rfl,λe he=>absurd he (by simp)⟩
def jV(w:Ψ)(p:Nat)(o:Obj):Ψ:={w with heap:=w.heap.setIfInBounds p o}
def sk{o:Obj}:(jV w p o).heap.size=w.heap.size:=Ē
def yA{b:Nat}{o:Obj}(h:p≠b):(jV w p o).heap[b]?=w.heap[b]?:=by
 show(w.heap.setIfInBounds p o)[b]?=_;rw[Ù,if_neg h]
def Qt{o:Obj}(h:p<w.heap.size):(jV w p o).heap[p]?=φ o:=by
 show(w.heap.setIfInBounds p o)[p]?=_;rw[Ù,if_pos rfl,if_pos h]
def MM{o:Obj}(hO:M.O p):eZ M w (jV w p o) #[⟨.cell ⟨p,0,ν⟩,θ,χ⟩]:=
 ⟨by rw[sk];exact ϊ _,λb _ hb=>yA (by rintro rfl;exact hb hO),rfl,rfl,rfl,λe he=>by
   simp only[ã,ā] at he;subst he;exact .inl ⟨p,.inr ⟨⟨p,0,ν⟩,rfl,rfl⟩,rfl,.inl (.inl hO),λ_=>.inl hO⟩⟩
def Hx{o:Obj}:M.grow w (jV w p o)=M:=by
 have:=BP M w;unfold ay.grow at this |-
 rw[sk];exact this
section
variable {t:Array υ}{M:ay}{w0 w:Ψ}{s c:Nat}
def ChanAt.alloc(h:ChanAt t M w0 w s c)(hl:∀b,M.has b->b<w.heap.size){d:Nat}(hd:d≠s){v:υ}{o:Obj}:ChanAt (t.setIfInBounds d v) (M.grow w (w.alloc o)) w0 (w.alloc o) s c:=
 ⟨by rw[Ù,if_neg hd];exact h.1,.inl h.2.1,h.2.2.1,(lz (hl _ (.inl h.2.1))).trans h.2.2.2⟩
def pd.alloc{v0:υ}{ty:ό}(h:pd t M w0 w s c v0 ty)(hl:∀b,M.has b->b<w.heap.size){d:Nat}(hd:d≠s){v:υ}{o:Obj}:pd (t.setIfInBounds d v) (M.grow w (w.alloc o)) w0 (w.alloc o) s c v0 ty:=
 ⟨by rw[Ù,if_neg hd];exact h.1,.inl h.2.1,h.2.2.1,(lz (hl _ (.inl h.2.1))).trans h.2.2.2⟩
def ChanAt.set(h:ChanAt t M w0 w s c)(hp:w.heap[p]?=φ (Ξ #[v] ty (0,0))){o:Obj}:ChanAt t M w0 (jV w p o) s c:=
 ⟨h.1,h.2.1,h.2.2.1,(yA (by rintro rfl;rw[h.2.2.2] at hp;exact absurd hp (by simp))).trans h.2.2.2⟩
def pd.set(h:pd t M w0 w s c v0 ty)(hp:p≠c){o:Obj}:pd t M w0 (jV w p o) s c v0 ty:=
 ⟨h.1,h.2.1,h.2.2.1,(yA hp).trans h.2.2.2⟩
def ChanAt.keep(h:ChanAt t M w0 w s c)(k:bR M w aa):ChanAt t M w0 aa s c:=⟨h.1,h.2.1,h.2.2.1,(k.kept _ (.inl h.2.1)).trans h.2.2.2⟩
def pd.keep(h:pd t M w0 w s c v0 ty)(k:bR M w aa):pd t M w0 aa s c v0 ty:=⟨h.1,h.2.1,h.2.2.1,(k.kept _ (.inl h.2.1)).trans h.2.2.2⟩
end
structure I4(t0:Array υ)(M0:ay)(w0:Ψ)(n:Nat)(l:Array Bool)(t:Array υ)(M:ay)(w:Ψ):Prop where
 ex:∃a0 a1 a2 a3 a4 a5:Bool,∃cN cL p6 p7:Nat,l=#[a0,a1,a2,a3,a4,a5]/\n=bn a0+bn a1+bn a2+bn a3+bn a4+bn a5/\
  (a0=θ->ChanAt t M w0 w 19 cN)/\(a1=θ->ChanAt t M w0 w 20 cL)/\
  (a2=θ->pd t M w0 w 6 p6 (if a4 then .chan (φ cN) else .chan ν) 154)/\(a3=θ->pd t M w0 w 7 p7 (if a5 then .chan (φ cL) else .chan ν) 155)/\
  (a4=θ->a0=θ/\a2=θ)/\(a5=θ->a1=θ/\a3=θ)/\(a0=θ->a1=θ->cN≠cL)/\(a2=θ->a3=θ->p6≠p7)
 o8:t.size=41
 same:∀j,j≠19->j≠20->j≠6->j≠7->t[j]?=t0[j]?
 O:∀b,M0.O b->M.O b
 On:∀b,M.O b->M0.O b\/w0.heap.size<=b
 R:M.R=M0.R
 kept:∀b,M0.has b->w.heap[b]?=w0.heap[b]?
 size:w0.heap.size<=w.heap.size
 pP:∀b,M0.has b->b<w0.heap.size
 low:∀b,M.has b->b<w.heap.size
 tape:w.tape=w0.tape
 os:w.os=w0.os
 e:w.output=w0.output
section
variable {t0 t:Array υ}{M0 M:ay}{w0 w:Ψ}{n:Nat}{l:Array Bool}
def I4.keep(h:I4 t0 M0 w0 n l t M w){aa:Ψ}(k:bR M w aa):I4 t0 M0 w0 n l t M aa:=by
 obtain⟨⟨a0,a1,a2,a3,a4,a5,cN,cL,p6,p7,e1,e2,f0,f1,f2,f3,f4,f5,f6,f7⟩,o8,same,O,On,R,kept,size,pP,low,tape,os,out⟩:=h;exact⟨⟨a0,a1,a2,a3,a4,a5,cN,cL,p6,p7,e1,e2,λh=>(f0 h).keep k,λh=>(f1 h).keep k,λh=>(f2 h).keep k,λh=>(f3 h).keep k,f4,f5,f6,f7⟩,o8,same,O,On,R,
  λb hb=>(k.kept b (hb.imp (O b) λx=>by rw[R];exact x)).trans (kept b hb),ϡ size k.size,pP,λb hb=>ϟ (low b hb) k.size,k.tape.trans tape,k.os.trans os,k.e.trans out⟩
end
def Da:∃dir,ϋ.underlying 154=φ (.chan dir 3):=⟨_,rfl⟩
def QZ:∃dir,ϋ.underlying 155=φ (.chan dir 4):=⟨_,rfl⟩
def in3:∃i,ϋ.info? 3=φ i:=⟨_,rfl⟩
def in4:∃i,ϋ.info? 4=φ i:=⟨_,rfl⟩
def WE:∃i,ϋ.info? 154=φ i/\i.zero=φ (.chan ν)/\i.size=1:=⟨_,rfl,rfl,rfl⟩
def WG:∃i,ϋ.info? 155=φ i/\i.zero=φ (.chan ν)/\i.size=1:=⟨_,rfl,rfl,rfl⟩
section
variable {t0 t:Array υ}{M0 M:ay}{w0 w:Ψ}{n:Nat}{l:Array Bool}
def I4.step(h:I4 t0 M0 w0 n l t M w){i:Nat}(hi:i∈Ç .any jB l):
 ∃o v au es,jB[i]?=φ o/\Ä o (Ê jB t)=θ/\
  ((execOp (aX t) o).runT ϋ w #[]=(.ok (.value v) au,es)\/v=ω/\(execOp (aX t) o).runT ϋ w #[]=(.ok .skip au,es))/\eZ M w au es/\(∀e∈es,∀b,e.loc≠ .obj b)/\I4 t0 M0 w0 (n+1) (l.setIfInBounds i θ) (aA t o.dst v) (M.grow w au) au:=by
 obtain⟨⟨a0,a1,a2,a3,a4,a5,cN,cL,p6,p7,rfl,e2,f0,f1,f2,f3,f4,f5,f6,f7⟩,o8,same,O,On,R,kept,size,pP,low,tape,os,out⟩:=h;have hr:=Sz anf a0 a1 a2 a3 a4 a5;rw[ġ] at hr;have hc:=hr i hi;have Jx:∀(o:Obj) b,(M.grow w (w.alloc o)).has b->b<(w.alloc o).heap.size:=by
  intro o b hb;rw[fy];rcases hb with(hb|hb) |hb
  ·have:=low b (.inl hb);omega
  ·rw[fy] at hb;omega
  ·have:=low b (.inr hb);omega
 have Jv:∀(o:Obj) b,(M.grow w (w.alloc o)).O b->M0.O b\/w0.heap.size<=b:=by
  rintro o b (hb|hb)
  ·exact On b hb
  ·right;omega
 have Ju:∀(o:Obj) b,M0.has b->(w.alloc o).heap[b]?=w0.heap[b]?:=λo b hb=>(lz (by have:=pP b hb;omega)).trans (kept b hb)
 have Jw:∀o:Obj,w0.heap.size<=(w.alloc o).heap.size:=λo=>by rw[fy];omega
 have own:∀o:Obj,(M.grow w (w.alloc o)).O w.heap.size:=λo=>.inr ⟨ϊ _,by rw[fy];omega⟩
 have sm:∀(d:Nat) (v:υ),(d=19\/d=20\/d=6\/d=7)->∀j,j≠19->j≠20->j≠6->j≠7->(t.setIfInBounds d v)[j]?=t0[j]?:=by
  intro d v hd j h1 h2 h3 h4;rw[Ù,if_neg (by rcases hd with rfl|rfl|rfl|rfl<;>omega)]
  exact same j h1 h2 h3 h4
 have at_:∀(d:Nat) (v:υ),d<41->(t.setIfInBounds d v)[d]?=φ v:=by
  intro d v hd;rw[Ù,if_pos rfl,if_pos (by omega)]
 have cT:∀ {s:Nat} {v:υ},t[s]?=φ v->t.getD s ω=v:=by
  intro s v h;rw[î,h];rfl
 match i,hc with
 |0,hc=>
  have ha:a0=χ:=by simpa [wQ] using hc
  subst ha;obtain⟨o,ho,ag,hd,hg⟩:=amF;obtain⟨dir,hu⟩:=Da;have h4:a4=χ:=by cases a4;rfl;exact absurd (f4 rfl).1 (by simp)
  subst h4;refine⟨o,_,_,_,ho,cx hg,.inl (Yi t ag hu w in3),zg,by simp,?_⟩
  rw[hd];refine⟨⟨θ,a1,a2,a3,χ,a5,w.heap.size,cL,p6,p7,rfl,by simp only[bn] at *;simp at *;omega,λ_=>⟨at_ 19 _ (by omega),own _,size,kQ⟩,λh=>(f1 h).alloc low (by omega),λh=>?_,λh=>(f3 h).alloc low (by omega),by simp,f5,λ_ h=>?_,f7⟩,
   by simp[aA,o8],sm 19 _ (by simp),λb hb=>.inl (O b hb),Jv _,R,Ju _,Jw _,pP,Jx _,tape,os,out⟩
  ·have:=(f2 h).alloc low (d:=19) (v:=.chan (φ w.heap.size)) (o:=.chan 0 #[] χ 0 0 χ) (by omega)
   simpa [aA] using this
  ·have:=low cL (.inl (f1 h).2.1);omega
 |1,hc=>
  have ha:a1=χ:=by simpa [wQ] using hc
  subst ha;obtain⟨o,ho,ag,hd,hg⟩:=amG;obtain⟨dir,hu⟩:=QZ;have h5:a5=χ:=by cases a5;rfl;exact absurd (f5 rfl).1 (by simp)
  subst h5;refine⟨o,_,_,_,ho,cx hg,.inl (Yi t ag hu w in4),zg,by simp,?_⟩
  rw[hd];refine⟨⟨a0,θ,a2,a3,a4,χ,cN,w.heap.size,p6,p7,rfl,by simp only[bn] at *;simp at *;omega,λh=>(f0 h).alloc low (by omega),λ_=>⟨at_ 20 _ (by omega),own _,size,kQ⟩,λh=>(f2 h).alloc low (by omega),λh=>?_,f4,by simp,λh _=>?_,f7⟩,
   by simp[aA,o8],sm 20 _ (by simp),λb hb=>.inl (O b hb),Jv _,R,Ju _,Jw _,pP,Jx _,tape,os,out⟩
  ·have:=(f3 h).alloc low (d:=20) (v:=.chan (φ w.heap.size)) (o:=.chan 0 #[] χ 0 0 χ) (by omega)
   simpa [aA] using this
  ·have:=low cN (.inl (f0 h).2.1);omega
 |2,hc=>
  have ha:a2=χ:=by simpa [wQ] using hc
  subst ha;obtain⟨o,ho,ag,hd,hg⟩:=amH;obtain⟨ti,mS,hz,_⟩:=WE;have h4:a4=χ:=by cases a4;rfl;exact absurd (f4 rfl).2 (by simp)
  subst h4;refine⟨o,_,_,_,ho,cx hg,.inl (Qj t ag mS hz rfl w),zg,by simp,?_⟩
  rw[hd];refine⟨⟨a0,a1,θ,a3,χ,a5,cN,cL,w.heap.size,p7,rfl,by simp only[bn] at *;simp at *;omega,λh=>(f0 h).alloc low (by omega),λh=>(f1 h).alloc low (by omega),λ_=>⟨at_ 6 _ (by omega),own _,size,kQ⟩,λh=>(f3 h).alloc low (by omega),by simp,f5,f6,λ_ h=>?_⟩,
   by simp[aA,o8],sm 6 _ (by simp),λb hb=>.inl (O b hb),Jv _,R,Ju _,Jw _,pP,Jx _,tape,os,out⟩
  have:=low p7 (.inl (f3 h).2.1);omega
 |3,hc=>
  have ha:a3=χ:=by simpa [wQ] using hc
  subst ha;obtain⟨o,ho,ag,hd,hg⟩:=amI;obtain⟨ti,mS,hz,_⟩:=WG;have h5:a5=χ:=by cases a5;rfl;exact absurd (f5 rfl).2 (by simp)
  subst h5;refine⟨o,_,_,_,ho,cx hg,.inl (Qj t ag mS hz rfl w),zg,by simp,?_⟩
  rw[hd];refine⟨⟨a0,a1,a2,θ,a4,χ,cN,cL,p6,w.heap.size,rfl,by simp only[bn] at *;simp at *;omega,λh=>(f0 h).alloc low (by omega),λh=>(f1 h).alloc low (by omega),λh=>(f2 h).alloc low (by omega),λ_=>⟨at_ 7 _ (by omega),own _,size,kQ⟩,f4,by simp,f6,λh _=>?_⟩,
   by simp[aA,o8],sm 7 _ (by simp),λb hb=>.inl (O b hb),Jv _,R,Ju _,Jw _,pP,Jx _,tape,os,out⟩
  have:=low p6 (.inl (f2 h).2.1);omega
 |4,hc=>
  have ha:(a4=χ/\a0=θ)/\a2=θ:=by simpa [wQ] using hc
  obtain⟨⟨rfl,rfl⟩,rfl⟩:=ha;obtain⟨o,ho,ag,hd,hg⟩:=amJ;obtain⟨ti,mS,_,hs⟩:=WE;have g0:=f0 rfl;have g2:=f2 rfl;refine⟨o,ω,jV w p6 (Ξ #[.chan (φ cN)] 154 (0,0)),_,ho,cx hg,.inr ⟨rfl,Qm t ag (cT g2.1) (cT g0.1) rfl rfl mS hs w g2.2.2.2⟩,MM g2.2.1,by simp,?_⟩
  rw[hd,Hx];refine⟨⟨θ,a1,θ,a3,θ,a5,cN,cL,p6,p7,rfl,by simp only[bn] at *;simp at *;omega,λ_=>g0.set g2.2.2.2,λh=>(f1 h).set g2.2.2.2,λ_=>⟨g2.1,g2.2.1,g2.2.2.1,Qt (low _ (.inl g2.2.1))⟩,λh=>(f3 h).set (f7 rfl h),λ_=>⟨rfl,rfl⟩,f5,f6,f7⟩,
   o8,same,O,On,R,λb hb=>(yA (by have:=pP b hb;have:=g2.2.2.1;omega)).trans (kept b hb),by rw[sk];exact size,pP,λb hb=>by rw[sk];exact low b hb,tape,os,out⟩
 |5,hc=>
  have ha:(a5=χ/\a1=θ)/\a3=θ:=by simpa [wQ] using hc
  obtain⟨⟨rfl,rfl⟩,rfl⟩:=ha;obtain⟨o,ho,ag,hd,hg⟩:=amK;obtain⟨ti,mS,_,hs⟩:=WG;have g1:=f1 rfl;have g3:=f3 rfl;refine⟨o,ω,jV w p7 (Ξ #[.chan (φ cL)] 155 (0,0)),_,ho,cx hg,.inr ⟨rfl,Qm t ag (cT g3.1) (cT g1.1) rfl rfl mS hs w g3.2.2.2⟩,MM g3.2.1,by simp,?_⟩
  rw[hd,Hx];refine⟨⟨a0,θ,a2,θ,a4,θ,cN,cL,p6,p7,rfl,by simp only[bn] at *;simp at *;omega,λh=>(f0 h).set g3.2.2.2,λ_=>g1.set g3.2.2.2,λh=>(f2 h).set (ϸ (f7 h rfl)),λ_=>⟨g3.1,g3.2.1,g3.2.2.1,Qt (low _ (.inl g3.2.1))⟩,f4,λ_=>⟨rfl,rfl⟩,f6,f7⟩,
   o8,same,O,On,R,λb hb=>(yA (by have:=pP b hb;have:=g3.2.2.1;omega)).trans (kept b hb),by rw[sk];exact size,pP,λb hb=>by rw[sk];exact low b hb,tape,os,out⟩
 |n+6,hc=>exact absurd hc (by simp[wQ])
structure R4(t0:Array υ)(M0:ay)(w0:Ψ)(cN cL p6 p7:Nat)(t:Array υ)(M:ay)(w:Ψ):Prop where
 n:ChanAt t M w0 w 19 cN
 l:ChanAt t M w0 w 20 cL
 vn:pd t M w0 w 6 p6 (.chan (φ cN)) 154
 vl:pd t M w0 w 7 p7 (.chan (φ cL)) 155
 nl:cN≠cL
 np:p6≠p7
 o8:t.size=41
 same:∀j,j≠19->j≠20->j≠6->j≠7->t[j]?=t0[j]?
 O:∀b,M0.O b->M.O b
 On:∀b,M.O b->M0.O b\/w0.heap.size<=b
 R:M.R=M0.R
 kept:∀b,M0.has b->w.heap[b]?=w0.heap[b]?
 size:w0.heap.size<=w.heap.size
 low:∀b,M.has b->b<w.heap.size
 tape:w.tape=w0.tape
 os:w.os=w0.os
 e:w.output=w0.output
def I4.done(h:I4 t0 M0 w0 n l t M w)(hd:Ç .any jB l=[]\/n=jB.size):∃cN cL p6 p7,R4 t0 M0 w0 cN cL p6 p7 t M w:=by
 obtain⟨⟨a0,a1,a2,a3,a4,a5,cN,cL,p6,p7,rfl,e2,f0,f1,f2,f3,f4,f5,f6,f7⟩,o8,same,O,On,R,kept,size,pP,low,tape,os,out⟩:=h;have eT:a0=θ/\a1=θ/\a2=θ/\a3=θ/\a4=θ/\a5=θ:=by
  rcases hd with hd|hd
  ·have:=Sz aer a0 a1 a2 a3 a4 a5
   rw[hd] at this;simpa [and_assoc] using this
  ·rw[ao2] at hd
   rw[e2] at hd;cases a0<;>cases a1<;>cases a2<;>cases a3<;>cases a4<;>cases a5<;>simp_all [bn]
 obtain⟨rfl,rfl,rfl,rfl,rfl,rfl⟩:=eT;exact⟨cN,cL,p6,p7,f0 rfl,f1 rfl,f2 rfl,f3 rfl,f6 rfl rfl,f7 rfl rfl,o8,same,O,On,R,kept,size,low,tape,os,out⟩
def mixed:ϋ.follows .mixedOrders=θ:=by decide+kernel
def aqK{Stop:ay->ϐ->Ψ->Prop}(hk:(kd==.early)=χ)
 (hs:t0.size=41)(iU:∀b,M0.has b->b<w0.heap.size)
 (h:∀cN cL p6 p7 t M w,R4 t0 M0 w0 cN cL p6 p7 t M w->WalkE ϋ main N Stop M (rg f t k D kd cs) w):
 WalkE ϋ main N Stop M0 (rg f t0 (.code (.region 4 jB θ)::k) D kd cs) w0:=by
 refine aqD mixed hk (I4 t0 M0 w0) (λn l t M w aa hI kp=>hI.keep kp) (λn l t M w i hI hi=>hI.step hi) (λn l t M w hI hd=>?_) ?_
 ·obtain⟨cN,cL,p6,p7,hR⟩:=hI.done hd
  exact h _ _ _ _ _ _ _ hR
 ·refine⟨⟨χ,χ,χ,χ,χ,χ,0,0,0,0,rfl,rfl,by simp,by simp,by simp,by simp,by simp,by simp,by simp,by simp⟩,hs,λ_ _ _ _ _=>rfl,λ_ h=>h,λ_ h=>.inl h,rfl,λ_ _=>rfl,ϊ _,iU,iU,rfl,rfl,rfl⟩
end
end Go.Jn
namespace Go.Jn
open Go Go.Proofs Go.Sim Go.Conc
def so:ϖ->ϖ
 | .block _ c=>c
 | .loop c=>c
 |c=>c
def Mk:ϖ:=(Tryz.f124.body).getD .skip
def ru:ϖ:=so (so (aS (bp Mk)))
def qA:Array Í:=opsOf (bp (bp Mk))
def qB:Array Í:=opsOf (bp ru)
def qC:Array Í:=opsOf (so (bp (aS (aS ru))))
def qD:Array Í:=opsOf (aS (aS (aS ru)))
def qE:Array Í:=opsOf (aS Mk)
def Tb:Tryz.f124.body=φ (.seq (.seq (.region 0 qA χ) (.block 0 (.loop ru))) (.region 4 qE χ)):=rfl
def Si:ru=.seq (.region 1 qB χ) (.seq (.cond (.tmp 7) .skip (.exit 0)) (.seq (.block 1 (.region 2 qC χ)) (.region 3 qD χ))):=rfl
def cA0:∃o,qA[0]?=φ o/\o.op=.fieldAddr 26 (.tmp 0) 2/\o.dst=φ 3/\o.guard=ν:=⟨_,rfl,rfl,rfl,rfl⟩
def cA1:∃o,qA[1]?=φ o/\o.op=.load 23 (.tmp 3)/\o.dst=φ 4/\o.guard=ν:=⟨_,rfl,rfl,rfl,rfl⟩
def cA2:∃o,qA[2]?=φ o/\o.op=.call {callee:=.builtin .len,args:=#[.tmp 4],argTypes:=#[23]}/\o.dst=φ 5/\o.guard=ν:=⟨_,rfl,rfl,rfl,rfl⟩
def cA3:∃o,qA[3]?=φ o/\o.op=.move (.const (ξ κ 0))/\o.dst=φ 6/\o.guard=ν:=⟨_,rfl,rfl,rfl,rfl⟩
def Tm:∃o,qB[0]?=φ o/\o.op=.binOp .lss 3 (.tmp 6) (.tmp 5) 3/\o.dst=φ 7/\o.guard=ν:=⟨_,rfl,rfl,rfl,rfl⟩
def cC0:∃o,qC[0]?=φ o/\o.op=.load 155 (.tmp 1)/\o.dst=φ 8/\o.guard=ν:=⟨_,rfl,rfl,rfl,rfl⟩
def cC1:∃o,qC[1]?=φ o/\o.op=.recv 155 (.tmp 8) χ/\o.dst=φ 9/\o.guard=ν:=⟨_,rfl,rfl,rfl,rfl⟩
def cD0:∃o,qD[0]?=φ o/\o.op=.binOp .add 3 (.tmp 6) (.const (ξ κ 1)) 3/\o.dst=φ 10/\o.guard=ν:=⟨_,rfl,rfl,rfl,rfl⟩
def cD1:∃o,qD[1]?=φ o/\o.op=.move (.tmp 10)/\o.dst=φ 6/\o.guard=ν:=⟨_,rfl,rfl,rfl,rfl⟩
def cE0:∃o,qE[0]?=φ o/\o.op=.load 154 (.tmp 2)/\o.dst=φ 11/\o.guard=ν:=⟨_,rfl,rfl,rfl,rfl⟩
def Tn:∃o,qE[1]?=φ o/\o.op=.call {callee:=.builtin .close,args:=#[.tmp 11],argTypes:=#[154]}/\o.dst=ν/\o.guard=ν:=⟨_,rfl,rfl,rfl,rfl⟩
def zA:qA.size=4:=rfl
def zB:qB.size=1:=rfl
def zC:qC.size=2:=rfl
def zD:qD.size=2:=rfl
def zE:qE.size=2:=rfl
def ajk:∃i,ϋ.info? 4=φ i/\i.zero=φ (.bool χ):=⟨_,rfl,rfl⟩
def Zj:∃fs fd i,ϋ.underlying 26=φ (.struct fs)/\fs[2]?=φ fd/\fd.offset=2/\ ϋ.info? fd.type=φ i/\i.size≠0:=⟨_,_,_,rfl,rfl,rfl,rfl,by decide⟩
def Zi:∃e,ϋ.underlying 23=φ (.slice e):=⟨_,rfl⟩
def yx{b:Nat}(h:M.has b)(a:Addr)(ha:a.block=b):∀e∈(#[⟨.cell a,χ,χ⟩]:Array Event),yP M e:=λe he=>by
 simp only[ã,ā] at he;subst he;exact .inl ⟨b,.inr ⟨a,rfl,ha⟩,rfl,h,λh=>absurd h (by simp)⟩
def eE:∀e∈(#[]:Array Event),yP M e:=λe he=>absurd he (by simp)
def cT(h:t[s]?=φ v):t.getD s ω=v:=by
 rw[î,h];rfl
def eX(h:d<t.size):(t.setIfInBounds d v)[d]?=φ v:=by
 rw[Ù,if_pos rfl,if_pos h]
def bP(h:d≠s):(t.setIfInBounds d v)[s]?=t[s]?:=by
 rw[Ù,if_neg h]
section
variable {n N0 cL cN:Nat}{cX:Nat->Bool}{val:Nat->υ}{End:List Nat->ay->ϐ->Ψ->Prop}
def adW(ht:t.getD 11 ω=.chan (φ cN)):
 AtClose (Pm.mk ϋ n N0 cL cN cX val End) M (rg 124 t [.inRegion qE [1]] [] .deferred [cS ϋ]) w:=by
 refine⟨rfl,?_,λs r hw=>?_⟩
 ·obtain⟨o,ho,ag,hd,hg⟩:=Tn
  show mayWake ϋ (rg 124 t [.inRegion qE [1]] [] .deferred [cS ϋ])=θ;simp[mayWake,š,ho,ag]
 ·obtain⟨o,ho,ag,hd,hg⟩:=Tn
  have eW:=J8 (P:=ϋ) (main:=χ) (f:=124) (k:=[]) (D:=[]) (kd:=.deferred) (cs:=[cS ϋ]) (rest:=[]) ho (cx hg) rfl (anX t w ag ht hw);rw[hd] at eW;refine⟨rg 124 t [.inRegion qE []] [] .deferred [cS ϋ],4,eW.trans ?_,?_⟩
  ·have e:seen ϋ 124 #[⟨.obj cN,χ,θ⟩,⟨.obj cN,θ,θ⟩]=#[⟨.obj cN,χ,θ⟩,⟨.obj cN,θ,θ⟩]:=by simp[seen]
   rw[e];rfl
  ·refine .inr ⟨rfl,rg 124 t [] [] .deferred [cS ϋ],λaa=>by simp[Ϙ,ϱ,aA],.inr ⟨rfl,aT ⟨124,t,[],[],.returning,.deferred,ν⟩ [cS ϋ],λaa=>by simp[Ϙ,ϱ],X5 Tryz.func124 rfl⟩⟩
def iT(h:d<t.size):(aA t (φ d) v).getD d ω=v:=cT (eX h)
def wrap_small{x:Int}(h0:0<=x)(h1:x<2 ^ 62):IntKind.i64.wrap x=x:=by
 rw[IntWalk.i64_left];exact IntWalk.wrap64_in x (by omega)
def adX{p6 p7:Nat}{f6 f7:Nat×Nat}(m6:M.has p6)(m7:M.has p7)(h6:w.heap[p6]?=φ (Ξ #[.chan (φ cN)] e6 f6))(h7:w.heap[p7]?=φ (Ξ #[.chan (φ cL)] e7 f7))(hn:n<2 ^ 61):
 ∀(r:Nat) (t:Array υ),r<=n->t.size=12->t[1]?=φ (π (φ ⟨p7,0,ν⟩))->t[2]?=φ (π (φ ⟨p6,0,ν⟩))->t[5]?=φ (ξ κ n)->t[6]?=φ (ξ κ ((n:Int) - r))->
  Walk ϋ χ (rC (Pm.mk ϋ n N0 cL cN cX val End) r) M (rg 124 t [.code ru,.inLoop ru,.inBlock 0,.code (.region 4 qE χ)] [] .deferred [cS ϋ]) w:=by
 intro r;induction r with
 |zero=>
  intro t hr hs t1 t2 t5 t6;rw[Si];refine fZ (iu ?_)
  rw[zB];obtain⟨o,ho,ag,hd,hg⟩:=Tm;refine dJ ho (cx hg) rfl (λaa _=>⟨_,JU t aa ag (cT t6) (cT t5),eE⟩) ?_
  rw[hd];refine jl (fZ (Df (q:=χ) ?_ ?_))
  ·have:¬ ((n:Int) - ((0:Nat):Int)<n):=by omega
   exact(iT (by omega)).trans (congrArg Value.bool (by simp only[this,decide_true,decide_false]))
  ·refine Q3 (k':=[.code (.region 4 qE χ)]) rfl (iu ?_)
   rw[zE];obtain⟨o,ho,ag,hd,hg⟩:=cE0;obtain⟨dir,hu⟩:=Da;refine dJ ho (cx hg) rfl (λaa hk=>⟨_,yz _ aa ag (cT ((bP (by omega)).trans t2)) hu rfl (mH ((hk.kept _ m6).trans h6) rfl rfl),yx m6 _ rfl⟩) ?_
   rw[hd];exact .stop λaa _=>adW (cT (eX (by simp[aA];omega)))
 |succ r ih=>
  intro t hr hs t1 t2 t5 t6;rw[Si];refine fZ (iu ?_)
  rw[zB];obtain⟨o,ho,ag,hd,hg⟩:=Tm;refine dJ ho (cx hg) rfl (λaa _=>⟨_,JU t aa ag (cT t6) (cT t5),eE⟩) ?_
  rw[hd];refine jl (fZ (Df (q:=θ) ?_ ?_))
  ·have:(n:Int) - ((r+1:Nat):Int)<n:=by omega
   exact(iT (by omega)).trans (congrArg Value.bool (by simp only[this,decide_true,decide_false]))
  ·refine Q7 (fZ (De (iu ?_)))
   rw[zC];obtain⟨o,ho,ag,hd,hg⟩:=cC0;obtain⟨dir,hu⟩:=QZ;refine dJ ho (cx hg) rfl (λaa hk=>⟨_,yz _ aa ag (cT ((bP (by omega)).trans t1)) hu rfl (mH ((hk.kept _ m7).trans h7) rfl rfl),yx m7 _ rfl⟩) ?_
   rw[hd];suffices rest:∀T:Array υ,T.size=12->T[8]?=φ (.chan (φ cL))->(∀j,j≠7->j≠8->T[j]?=t[j]?)->
    Walk ϋ χ (rC (Pm.mk ϋ n N0 cL cN cX val End) (r+1)) M (rg 124 T (.inRegion qC [1]:: .inBlock 1:: .code (.region 3 qD χ):: .inLoop ru:: .inBlock 0:: [.code (.region 4 qE χ)]) [] .deferred [cS ϋ]) w from
    rest _ (by simp[aA,hs]) (eX (by simp[aA];omega)) (λj h1 h2=>(bP (ϸ h2)).trans (bP (ϸ h1)))
   intro T Nz hT8 hTo;obtain⟨o,ho,ag,hd,hg⟩:=cC1;obtain⟨i,hi,hz⟩:=ajk;refine .stop λaa hk=>⟨rfl,rfl,⟨.bool χ,Gi ho (cx hg) rfl (Ql T aa ag (cT hT8) hu hi hz)⟩,?_⟩
   have E8:ϧ (rg 124 T (.inRegion qC [1]:: .inBlock 1:: .code (.region 3 qD χ):: .inLoop ru:: .inBlock 0:: [.code (.region 4 qE χ)]) [] .deferred [cS ϋ]) (recvd χ (.bool θ) θ)=
    rg 124 (T.setIfInBounds 9 (.bool θ)) (.inRegion qC []:: .inBlock 1:: .code (.region 3 qD χ):: .inLoop ru:: .inBlock 0:: [.code (.region 4 qE χ)]) [] .deferred [cS ϋ]:=by
    simp[ϧ,đ,ho,hd,recvd]
   show Walk ϋ χ (rC (Pm.mk ϋ n N0 cL cN cX val End) r) M (ϧ (rg 124 T (.inRegion qC [1]:: .inBlock 1:: .code (.region 3 qD χ):: .inLoop ru:: .inBlock 0:: [.code (.region 4 qE χ)]) [] .deferred [cS ϋ]) (recvd χ (.bool θ) θ)) aa;rw[E8];refine Walk.rely ?_ hk
   refine jl (Q4 (iu ?_))
   rw[zD];obtain⟨o,ho,ag,hd,hg⟩:=cD0;have hU:∀j,j≠7->j≠8->j≠9->(T.setIfInBounds 9 (.bool θ))[j]?=t[j]?:=λj h1 h2 h3=>(bP (ϸ h3)).trans (hTo j h1 h2)
   refine dJ ho (cx hg) rfl (λaa _=>⟨_,Yc _ aa ag (cT ((hU 6 (by omega) (by omega) (by omega)).trans t6)) rfl,eE⟩) ?_
   rw[hd];obtain⟨o,ho,ag,hd,hg⟩:=cD1;refine dJ ho (cx hg) rfl (λaa _=>⟨_,run_move _ aa ag,eE⟩) ?_
   rw[hd];refine jl (Q5 ?_)
   have hw:IntKind.i64.wrap ((n:Int) - ((r+1:Nat):Int)+1)=(n:Int) - r:=by rw[wrap_small (by omega) (by omega)];omega
   rw[hw];have Cs:(T.setIfInBounds 9 (.bool θ)).size=12:=by simp[Nz]
   refine ih _ (by omega) (by simp[aA,Nz]) ?_ ?_ ?_ ?_
   ·exact(bP (by omega)).trans ((bP (by omega)).trans ((hU 1 (by omega) (by omega) (by omega)).trans t1))
   ·exact(bP (by omega)).trans ((bP (by omega)).trans ((hU 2 (by omega) (by omega) (by omega)).trans t2))
   ·exact(bP (by omega)).trans ((bP (by omega)).trans ((hU 5 (by omega) (by omega) (by omega)).trans t5))
   ·refine(eX (by simp[aA,Nz])).trans ?_
    exact congrArg φ (cT (eX (by omega)))
def al6:(Tryz.f124.name== "runtime.NumGoroutine")=χ:=by decide+kernel
def closer{p6 p7:Nat}{eb:ό}{f6 f7 fb:Nat×Nat}{bc:Array υ}{A:Option Addr}{c:Nat}(mb:M.has bk)(m6:M.has p6)(m7:M.has p7)(hb:w.heap[bk]?=φ (.cells bc eb fb))(hc:bc[2]?=φ (.slice A n c))
 (h6:w.heap[p6]?=φ (Ξ #[.chan (φ cN)] e6 f6))(h7:w.heap[p7]?=φ (Ξ #[.chan (φ cL)] e7 f7))(hn:n<2 ^ 61):
 Walk ϋ χ (rC (Pm.mk ϋ n N0 cL cN cX val End) n) M (born ϋ {target:=.fn (.func 124) #[π (φ ⟨bk,0,ν⟩),π (φ ⟨p7,0,ν⟩),π (φ ⟨p6,0,ν⟩)],args:=#[]}) w:=by
 refine ZA Tryz.func124 Tb (λaa=>DU Tryz.func124 Tb al6 _ aa) ?_
 have ht:((#[]++#[π (φ ⟨bk,0,ν⟩),π (φ ⟨p7,0,ν⟩),π (φ ⟨p6,0,ν⟩)])++ϭ (Tryz.f124.ntmps - (#[]++#[π (φ ⟨bk,0,ν⟩),π (φ ⟨p7,0,ν⟩),π (φ ⟨p6,0,ν⟩)]:Array υ).size) ω:Array υ)=
  #[π (φ ⟨bk,0,ν⟩),π (φ ⟨p7,0,ν⟩),π (φ ⟨p6,0,ν⟩),ω,ω,ω,ω,ω,ω,ω,ω,ω]:=rfl
 rw[ht];generalize hT:(#[π (φ ⟨bk,0,ν⟩),π (φ ⟨p7,0,ν⟩),π (φ ⟨p6,0,ν⟩),ω,ω,ω,ω,ω,ω,ω,ω,ω]:Array υ)=t;have hs:t.size=12:=by rw[<-hT];rfl
 have t0:t[0]?=φ (π (φ ⟨bk,0,ν⟩)):=by rw[<-hT];rfl
 have t1:t[1]?=φ (π (φ ⟨p7,0,ν⟩)):=by rw[<-hT];rfl
 have t2:t[2]?=φ (π (φ ⟨p6,0,ν⟩)):=by rw[<-hT];rfl
 clear hT ht;refine fZ (fZ (iu ?_))
 rw[zA];obtain⟨o,ho,ag,hd,hg⟩:=cA0;obtain⟨fs,fd,fi,hu,hf,ON,hi,aN⟩:=Zj;refine dJ ho (cx hg) rfl (λaa _=>⟨_,Ye t aa ag (cT t0) hu hf hi aN,eE⟩) ?_
 rw[hd,ON];obtain⟨o,ho,ag,hd,hg⟩:=cA1;obtain⟨e,Ff⟩:=Zi;refine dJ ho (cx hg) rfl (λaa hk=>⟨_,yz _ aa ag (cT (eX (by omega))) Ff rfl (mH ((hk.kept _ mb).trans hb) rfl hc),yx mb _ rfl⟩) ?_
 rw[hd];obtain⟨o,ho,ag,hd,hg⟩:=cA2;refine dJ ho (cx hg) rfl (λaa _=>⟨_,Yg _ aa ag (cT (eX (by simp[aA];omega))) Ff,eE⟩) ?_
 rw[hd];obtain⟨o,ho,ag,hd,hg⟩:=cA3;refine dJ ho (cx hg) rfl (λaa _=>⟨_,run_move _ aa ag,eE⟩) ?_
 rw[hd];refine jl (De (Q6 ?_))
 refine adX m6 m7 h6 h7 hn n _ (ϊ _) (by simp[aA,hs]) ?_ ?_ ?_ ?_
 ·exact(bP (by omega)).trans ((bP (by omega)).trans ((bP (by omega)).trans ((bP (by omega)).trans t1)))
 ·exact(bP (by omega)).trans ((bP (by omega)).trans ((bP (by omega)).trans ((bP (by omega)).trans t2)))
 ·exact(bP (by omega)).trans ((eX (by simp[aA];omega)).trans rfl)
 ·refine(eX (by simp[aA];omega)).trans ?_
  have:(n:Int) - n=0:=by omega
  rw[this];rfl
end
def AQ:Array Í:=opsOf ((Tryz.f121.body).getD .skip)
def Ta:Tryz.f121.body=φ (.region 0 AQ χ):=rfl
def ac1:∃o,AQ[0]?=φ o/\o.op=.load 155 (.tmp 0)/\o.dst=φ 1/\o.guard=ν:=⟨_,rfl,rfl,rfl,rfl⟩
def ac2:∃o,AQ[1]?=φ o/\o.op=.send (.tmp 1) (.const (.bool θ))/\o.dst=ν/\o.guard=ν:=⟨_,rfl,rfl,rfl,rfl⟩
def aq6:AQ.size=2:=rfl
def al5:(Tryz.f121.name== "runtime.NumGoroutine")=χ:=by decide+kernel
def apv{g:Â}{D:List È}{kd:ű}{cs:List Ϛ}(hf:P.funcs[f]?=φ fn)(hb:fn.body=φ c)(hr:(callFunc f (#[]++fe)).runT P aa #[]=(.ok (.enter f (#[]++fe)) aa,#[])):
 Ϙ P main (aT ⟨g,t,k,{target:=.fn (.func f) fe,args:=#[]}::D,.returning,kd,ν⟩ cs) aa=.go (rg f ((#[]++fe)++ϭ (fn.ntmps - (#[]++fe:Array υ).size) ω) [.code c] [] .deferred (⟨g,t,k,D,.returning,kd,ν⟩::cs)) aa #[]:=by
 have hi:invoke (.fn (.func f) fe) #[]=callFunc f (#[]++fe):=rfl;have e:ģ P ⟨g,t,k,D,.returning,kd,ν⟩ cs ν {target:=.fn (.func f) fe,args:=#[]} aa=.go (aT (Ý P f (#[]++fe) .deferred) (⟨g,t,k,D,.returning,kd,ν⟩::cs)) aa #[]:=by
  unfold ģ;simp only[hi,hr,vR,ß,Bool.false_and,Ð,if_false];rfl
 exact e.trans (by rw[BL hf hb])
def apr{g:Â}(hf:P.funcs[f]?=φ fn)(hr:fn.results=#[])(aa:Ψ):
 Ϙ P χ (aT ⟨f,t,k,[],.returning,.deferred,ν⟩ (⟨g,t',k',[],.returning,kd,ν⟩::cs)) aa=.go (aT ⟨g,t',k',[],.returning,kd,ν⟩ cs) aa #[]:=by
 have e:Ï P χ ⟨f,t,k,[],.returning,.deferred,ν⟩ (⟨g,t',k',[],.returning,kd,ν⟩::cs) ν aa=.go (aT ⟨g,t',k',[],.returning,kd,ν⟩ cs) aa #[]:=by
  unfold Ï;simp only[hf,results_none hr,vR,ß,doReturn];rfl
 exact e
section
variable {n N0 cL cN:Nat}{cX:Nat->Bool}{val:Nat->υ}{End:List Nat->ay->ϐ->Ψ->Prop}
def aqR{p7:Nat}{f7:Nat×Nat}(m7:M.has p7)(h7:w.heap[p7]?=φ (Ξ #[.chan (φ cL)] e7 f7))(aiz:Tryz.f120.results=#[]):
 Walk ϋ χ (W2 (Pm.mk ϋ n N0 cL cN cX val End)) M (aT ⟨120,t,k,[{target:=.fn (.func 121) #[π (φ ⟨p7,0,ν⟩)],args:=#[]}],.returning,.deferred,ν⟩ [cS ϋ]) w:=by
 refine lL rfl (λaa=>apv Tryz.func121 Ta (DU Tryz.func121 Ta al5 _ aa)) ?_
 have ht:((#[]++#[π (φ ⟨p7,0,ν⟩)])++ϭ (Tryz.f121.ntmps - (#[]++#[π (φ ⟨p7,0,ν⟩)]:Array υ).size) ω:Array υ)=#[π (φ ⟨p7,0,ν⟩),ω]:=rfl;rw[ht];refine iu ?_
 rw[aq6];obtain⟨o,ho,ag,hd,hg⟩:=ac1;obtain⟨dir,hu⟩:=QZ;refine dJ ho (cx hg) rfl (λaa hk=>⟨_,yz _ aa ag (v:=.chan (φ cL)) (a:=⟨p7,0,ν⟩) rfl hu rfl (mH ((hk.kept _ m7).trans h7) rfl rfl),yx m7 _ rfl⟩) ?_
 rw[hd];obtain⟨o,ho,ag,hd,hg⟩:=ac2;refine .stop λaa _=>⟨rfl,rfl,⟨μ #[],Gi ho (cx hg) rfl (Yj _ aa ag rfl)⟩,5,?_⟩
 have E8:ϧ (rg 121 #[π (φ ⟨p7,0,ν⟩),.chan (φ cL)] [.inRegion AQ [1]] [] .deferred [⟨120,t,k,[],.returning,.deferred,ν⟩,cS ϋ]) ω=
  rg 121 #[π (φ ⟨p7,0,ν⟩),.chan (φ cL)] [.inRegion AQ []] [] .deferred [⟨120,t,k,[],.returning,.deferred,ν⟩,cS ϋ]:=by
  simp[ϧ,đ,ho,hd]
 show QuitsIn ϋ 5 (ϧ (rg 121 #[π (φ ⟨p7,0,ν⟩),.chan (φ cL)] [.inRegion AQ [1]] [] .deferred [⟨120,t,k,[],.returning,.deferred,ν⟩,cS ϋ]) ω);rw[E8];refine .inr ⟨rfl,rg 121 #[π (φ ⟨p7,0,ν⟩),.chan (φ cL)] [] [] .deferred [⟨120,t,k,[],.returning,.deferred,ν⟩,cS ϋ],λaa=>by simp[Ϙ,ϱ],?_⟩
 refine .inr ⟨rfl,aT ⟨121,#[π (φ ⟨p7,0,ν⟩),.chan (φ cL)],[],[],.returning,.deferred,ν⟩ [⟨120,t,k,[],.returning,.deferred,ν⟩,cS ϋ],λaa=>by simp[Ϙ,ϱ],?_⟩
 exact .inr ⟨rfl,_,λaa=>apr Tryz.func121 rfl aa,X5 Tryz.func120 aiz⟩
def DN:ϖ:=(Tryz.f120.body).getD .skip
def JL:Array Í:=opsOf (bp DN)
def qQ:Array Í:=opsOf (aS (aS (aS DN)))
def wa:ϖ:=bp (aS DN)
def uC:ϖ:=bp (aS (aS DN))
def aaL:Tryz.f120.body=φ (.seq (.region 0 JL χ) (.seq wa (.seq uC (.region 3 qQ χ)))):=rfl
def acW:∃o,JL[0]?=φ o/\o.op=.makeFunc (.func 121) #[] #[.tmp 0]/\o.dst=φ 6/\o.guard=ν:=⟨_,rfl,rfl,rfl,rfl⟩
def acX:∃o,JL[1]?=φ o/\o.op=.defer {callee:=.value (.tmp 6),args:=#[],argTypes:=#[]}/\o.dst=ν/\o.guard=ν:=⟨_,rfl,rfl,rfl,rfl⟩
def acY:∃o,qQ[0]?=φ o/\o.op=.load 154 (.tmp 3)/\o.dst=φ 16/\o.guard=ν:=⟨_,rfl,rfl,rfl,rfl⟩
def acZ:∃o,qQ[1]?=φ o/\o.op=.load 3 (.tmp 2)/\o.dst=φ 17/\o.guard=ν:=⟨_,rfl,rfl,rfl,rfl⟩
def ac0:∃o,qQ[2]?=φ o/\o.op=.send (.tmp 16) (.tmp 17)/\o.dst=ν/\o.guard=ν:=⟨_,rfl,rfl,rfl,rfl⟩
def aq7:JL.size=2:=rfl
def aq8:qQ.size=3:=rfl
def ty3:ϋ.underlying 3=φ (.int .i64):=rfl
def al4:(Tryz.f120.name== "runtime.NumGoroutine")=χ:=by decide+kernel
def aqS{Stop:ay->ϐ->Ψ->Prop}{w:Ψ}{p6 p7:Nat}
 (h:∀t:Array υ,t.size=18->t[0]?=φ (π (φ ⟨p7,0,ν⟩))->t[1]?=φ (π (φ ⟨bk,0,ν⟩))->t[2]?=φ (π (φ ⟨pk,0,ν⟩))->t[3]?=φ (π (φ ⟨p6,0,ν⟩))->
   t[6]?=φ (.func (.func 121) #[] #[π (φ ⟨p7,0,ν⟩)])->(∀j,4<=j->j<18->j≠6->t[j]?=φ ω)->
   Walk ϋ χ Stop M (rg 120 t [.code (.seq wa (.seq uC (.region 3 qQ χ)))] [{target:=.fn (.func 121) #[π (φ ⟨p7,0,ν⟩)],args:=#[]}] .deferred [cS ϋ]) w):
 Walk ϋ χ Stop M (born ϋ {target:=.fn (.func 120) #[π (φ ⟨p7,0,ν⟩),π (φ ⟨bk,0,ν⟩),π (φ ⟨pk,0,ν⟩),π (φ ⟨p6,0,ν⟩)],args:=#[]}) w:=by
 refine ZA Tryz.func120 aaL (λaa=>DU Tryz.func120 aaL al4 _ aa) ?_
 have hn:Tryz.f120.ntmps=18:=rfl;have ht:∀a b c d:υ,((#[]++#[a,b,c,d])++ϭ (18 - (#[]++#[a,b,c,d]:Array υ).size) ω:Array υ)=#[a,b,c,d,ω,ω,ω,ω,ω,ω,ω,ω,ω,ω,ω,ω,ω,ω]:=λ_ _ _ _=>by simp[ϭ]
 rw[hn];rw[ht];generalize hT:(#[π (φ ⟨p7,0,ν⟩),π (φ ⟨bk,0,ν⟩),π (φ ⟨pk,0,ν⟩),π (φ ⟨p6,0,ν⟩),ω,ω,ω,ω,ω,ω,ω,ω,ω,ω,ω,ω,ω,ω]:Array υ)=T;have hs:T.size=18:=by rw[<-hT];rfl
 have t0:T[0]?=φ (π (φ ⟨p7,0,ν⟩)):=by rw[<-hT];rfl
 have t1:T[1]?=φ (π (φ ⟨bk,0,ν⟩)):=by rw[<-hT];rfl
 have t2:T[2]?=φ (π (φ ⟨pk,0,ν⟩)):=by rw[<-hT];rfl
 have t3:T[3]?=φ (π (φ ⟨p6,0,ν⟩)):=by rw[<-hT];rfl
 have tu:∀j,4<=j->j<18->T[j]?=φ ω:=by
  intro j h4 HU;have:j=4\/j=5\/j=6\/j=7\/j=8\/j=9\/j=10\/j=11\/j=12\/j=13\/j=14\/j=15\/j=16\/j=17:=by omega
  rw[<-hT];rcases this with rfl|rfl|rfl|rfl|rfl|rfl|rfl|rfl|rfl|rfl|rfl|rfl|rfl|rfl<;>rfl
 clear hT ht;refine fZ (iu ?_)
 rw[aq7];obtain⟨o,ho,ag,hd,hg⟩:=acW;have hv:(#[Operand.tmp 0].map (aX T))=#[π (φ ⟨p7,0,ν⟩)]:=by
  have:aX T (.tmp 0)=π (φ ⟨p7,0,ν⟩):=cT t0;simp only[Ţ,ō,Ŏ,this]
 refine dJ ho (cx hg) rfl (λaa _=>⟨_,(Qk T aa ag).trans (by rw[hv]),eE⟩) ?_
 rw[hd];obtain⟨o,ho,ag,hd,hg⟩:=acX;refine aqI ho (cx hg) rfl (d:={target:=.fn (.func 121) #[π (φ ⟨p7,0,ν⟩)],args:=#[]}) (λaa=>anY _ aa ag (iT (by omega))) ?_
 rw[hd];refine jl (h _ ?_ ?_ ?_ ?_ ?_ ?_ ?_)
 ·simp[aA,hs]
 ·exact(bP (by omega)).trans t0
 ·exact(bP (by omega)).trans t1
 ·exact(bP (by omega)).trans t2
 ·exact(bP (by omega)).trans t3
 ·exact eX (by omega)
 ·exactλj h4 HU h6=>(bP (ϸ h6)).trans (tu j h4 HU)
end
end Go.Jn
namespace Go.Sim
open Go
def Ui{α σ:Type}{f:α->σ->Option (ForInStep σ)}(I:σ->Prop)(hf:∀x s r,I s->f x s=φ r->I r.value):∀(l:List α) (s s':σ),I s->forIn l s f=φ s'->I s'
 | [],s,s',hs,h=>by
   simp only[List.forIn_nil] at h;cases h;exact hs
 |x::l,s,s',hs,h=>by
  rw[List.forIn_cons] at h;simp only[bind,ď] at h;obtain⟨r,h1,h2⟩:=h;have hr:=hf x s r hs h1;cases r with
  |done b=>cases h2;exact hr
  |yield b=>exact Ui I hf l b s' hr h2
def Su(z:Option (Array υ)):Prop:=∀c,z=φ c->aV (λ_ _=>False) c c
def ani{info:ό->Option Ħ}(hi:∀t i v,info t=φ i->i.zero=φ v->Flat v){i:Ħ}(h:Made.reckonStruct info fs=φ i)(hv:i.zero=φ v):Flat v:=by
 unfold Made.reckonStruct at h;simp only[bind,ď] at h;obtain⟨r,h1,h2⟩:=h;have inv:Su r.2.2.2.2.2.2.2.1:=by
  rw[<-Array.forIn_toList] at h1;refine Ui (λs=>Su s.2.2.2.2.2.2.2.1) ?_ _ _ _ ?_ h1
  ·intro x s r hs h
   simp only[ď] at h;obtain⟨j,hj,h⟩:=h;have key:r.value.2.2.2.2.2.2.2.1=(if s.2.1+j.size>Made.mostCells then ν else s.2.2.2.2.2.2.2.1.bind λa=>j.zero.bind λb=>φ (a++b.cells)):=by
    by_cases e1:j.str.isEmpty=θ
    ·simp[e1] at h
    by_cases e2:x.embedded=θ
    ·simp[e1,e2] at h
    by_cases e3:x.tag.isEmpty=θ<;>by_cases e4:j.bytes=0<;>simp only[e1,e2,e3,e4,if_true,if_false,ď,pure,č,Ð] at h<;>obtain⟨tag,ht,rfl⟩:=h<;>rfl
   intro c hc;rw[key] at hc;split at hc
   ·exact absurd hc (by simp)
   ·simp only[ď] at hc
    obtain⟨a,ha,b,hb,hc⟩:=hc;cases hc;exact(hs a ha).append (aj.cells (hi _ _ _ hj hb))
  ·intro c hc;cases hc;exact .empty
 have hz:i.zero=Option.map Value.agg r.2.2.2.2.2.2.2.1:=by
  split at h2<;>cases h2<;>rfl
 rw[hz] at hv;cases hr:r.2.2.2.2.2.2.2.1 with
 |none=>rw[hr] at hv;exact absurd hv (by simp)
 |some c=>rw[hr] at hv;cases hv;exact .wH (inv c hr)
def anC{c:Array υ}(h:aV (λ_ _=>False) c c):∀n:Nat,aV (λ_ _=>False) (ϭ n c).flatten (ϭ n c).flatten:=by
 intro n;refine cf.refl λa ha=>?_
 simp only[Array.mem_flatten,Aav] at ha;obtain⟨x,⟨_,rfl⟩,hx⟩:=ha;obtain⟨i,hi,rfl⟩:=Aay.1 hx;exact h.2 i hi hi
def anj{info:ό->Option Ħ}(hi:∀t i v,info t=φ i->i.zero=φ v->Flat v){d:TypeDesc}{i:Ħ}(h:Made.reckon info d=φ i)(hv:i.zero=φ v):Flat v:=by
 unfold Made.reckon at h;split at h
 ·simp only[bind,ď] at h
  obtain⟨j,h1,h2⟩:=h;split at h2
  ·exact absurd h2 (by simp)
  ·split at h2
   ·exact absurd h2 (by simp)
   ·simp only[ď,pure,č] at h2
    obtain⟨_,_,rfl⟩:=h2;cases hv;exact .ptrNone
  ·simp only[ď,pure,č] at h2
   obtain⟨_,_,rfl⟩:=h2;cases hv;exact .ptrNone
 ·simp only[bind,ď,pure,č] at h
  obtain⟨_,_,_,_,rfl⟩:=h;cases hv;exact .sliceNone _ _
 ·simp only[bind,ď,pure,č] at h
  obtain⟨_,_,_,_,_,_,_,_,rfl⟩:=h;cases hv;exact .mapNone
 ·simp only[bind,ď,pure,č] at h
  obtain⟨_,_,_,_,rfl⟩:=h;cases hv;exact .chanNone
 ·simp only[bind,ď,pure,č] at h
  obtain⟨_,_,rfl⟩:=h;cases hv;exact .nilFunc
 ·simp only[bind,ď,pure,č] at h
  obtain⟨j,hj,_,_,rfl⟩:=h;simp only at hv;split at hv
  ·exact absurd hv (by simp)
  ·split at hv
   ·cases hv;exact .wH .empty
   ·cases hz:j.zero with
    |none=>rw[hz] at hv;exact absurd hv (by simp)
    |some z=>rw[hz] at hv;cases hv;exact .wH (anC (aj.cells (hi _ _ _ hj hz)) _)
 ·exact ani hi h hv
 ·exact absurd h (by simp)
def WN{T:Tables}(h0:∀(t:Nat) (i:Ħ) (v:υ),T.types[t]?=φ i->i.zero=φ v->Flat v):∀(f:Nat) (t:ό) (i:Ħ) (v:υ),Made.infoAt T f t=φ i->i.zero=φ v->Flat v
 |0,_,_,_,h,_=>absurd h (by simp[Made.infoAt])
 |f+1,t,i,v,h,hv=>by
  unfold Made.infoAt at h;split at h
  ·exact h0 _ _ _ h hv
  ·simp only[ď] at h
   obtain⟨d,_,h2⟩:=h;exact anj (WN h0 f) h2 hv
def ajo(h0:∀(t:Nat) (i:Ħ) (v:υ),P.types[t]?=φ i->i.zero=φ v->Flat v):pA P where
 zero t i v h hv:=by
  have h':(if t<P.types.size then P.types[t]? else Made.infoAt P.toTables Made.depth t)=φ i:=h
  split at h'
  ·exact h0 _ _ _ h' hv
  ·exact WN (T:=P.toTables) h0 _ _ _ _ h' hv
end Go.Sim
namespace Go.Jn
open Go Go.Proofs Go.Sim
def G0:Nat->Bool:=λg=>g==0
def Td(P:ϕ)(fn:Func):Bool:=match fn.body with
 |some c=>cC P G0 c && !(fn.name== "runtime.NumGoroutine") && (readies c).isEmpty
 |none=>χ
def okB(P:ϕ)(i:Nat):Bool:=Tw.vF i||match P.funcs[i]? with
 |some fn=>Td P fn
 |none=>χ
def nF:Nat:=241
def amC:(List.range nF).all (okB ϋ)=θ:=by decide+kernel
def few:ϋ.funcs.size=nF:=by decide+kernel
def jG(i:Ħ):Bool:=match i.zero with
 |some v=>lF 10 v
 |none=>θ
def ara:ϋ.types.all jG=θ:=by decide+kernel
def MY:ϋ.follows .staticDataAhead=θ:=by decide+kernel
def Hl:RD Tw.dead where
 name:=by decide+kernel
 body:=rfl
 next:=by decide+kernel
 row:=by decide+kernel
 init:=by decide+kernel
def QW(P:ϕ)(F:Array Func):∀(d:Nat) (t:ό),ix (tw P F) d t=ix P d t
 |0,_=>rfl
 |d+1,t=>by
  unfold ix;have e:ix (tw P F) d=ix P d:=funext λt=>QW P F d t
  rw[mm,kJ,e]
def Zc(P:ϕ)(F:Array Func)(G:Nat->Bool):∀c:ϖ,cC (tw P F) G c=cC P G c:=by
 have e0:DZ (tw P F)=DZ P:=funext λt=>by unfold DZ;rw[QW,Kh,C9]
 have e1:BC (tw P F)=BC P:=funext λt=>by unfold BC;rw[kJ]
 have e2:BJ (tw P F)=BJ P:=funext λs=>funext λd=>by unfold BJ;rw[kJ,kJ,e1]
 have e3:D7 (tw P F)=D7 P:=funext λs=>funext λi=>by
  unfold D7;rw[kJ]
  have:(tw P F).info? = P.info? :=funext λt=>mm P F t
  simp only[this]
 have e4:AH (tw P F)=AH P:=funext λt=>by
  unfold AH;rw[kJ]
  have:ix (tw P F) 20=ix P 20:=funext λt=>QW P F _ t
  simp only[this]
 have e5:TN (tw P F)=TN P:=funext λt=>by
  unfold TN;have:(tw P F).underlying=P.underlying:=funext λt=>kJ P F t
  simp only[this]
 have e6:wN (tw P F)=wN P:=funext λts=>funext λn=>funext λb=>by unfold wN;rw[e5]
 have e7:jA (tw P F)=jA P:=funext λo=>by unfold jA;rw[e0,e2,e3,e4,e6]
 have e8:k8 (tw P F) G=k8 P G:=funext λo=>by unfold k8;rw[e7]
 intro c;induction c with
 |region id ops d=>simp only[cC,e8]
 |seq a b Fw Fx=>simp only[cC,Fw,Fx]
 |cond c a b Fw Fx=>simp only[cC,Fw,Fx]
 |block n b ih=>simp only[cC,ih]
 |loop b ih=>simp only[cC,ih]
 |scope b ih=>simp only[cC,ih]
 |rangeFunc f ps a b Fw Fx=>simp only[cC,Fw,Fx]
 |_=>simp only[cC]
def okF(f:Nat):Bool:=decide (f<nF) && !Tw.vF f
def self(P:ϕ)(F:Array Func):ϕ:={P with funcs:=F}
def QY(P:ϕ)(F:Array Func):tw (self P F) F=tw P F:=rfl
def Yy(P:ϕ)(F:Array Func):(self P F).funcs=F:=rfl
def Yx(P:ϕ)(F:Array Func)(G:Nat->Bool)(c:ϖ):cC (self P F) G c=cC P G c:=by
 rw[<-Zc (self P F) F G c,QY,Zc]
def aoN(P:ϕ)(F:Array Func)(t:ό):(self P F).info? t= P.info? t:=by
 rw[<-mm (self P F) F t,QY,mm]
def QX(P:ϕ)(F:Array Func):(tw P F).follows .staticDataAhead=P.follows .staticDataAhead:=rfl
def tV:pA ϋ:=ajo λt i v h hv=>by
 have hz:jG i=θ:=by
  have:=ara;rw[Ģ] at this;exact this i (ļ h)
 unfold jG at hz;rw[hv] at hz
 exact Uf 10 hz
@[reducible] def jC:Tw.aK:=⟨Tw.dead⟩
def lg:Array Í:=#[⟨φ 1,.assign (.const (.bool θ)),4,"",#[],ν⟩,⟨ν,.extract (.const (.bool θ)) 0,4,"",#[],φ (0,θ)⟩,⟨φ 0,.assign (.const (.bool θ)),4,"",#[],ν⟩]
def stub:Func:={Tryz.f21 with body:=φ (.seq (.region 0 lg χ) .ret),ntmps:=1,results:=#[.tmp 0]}
@[reducible] def jU:Tw.aK:=⟨stub⟩
section
variable [Tw.aK]
def JB{f:Nat}(h:okF f=θ):∃fn c,ϋ.funcs[f]?=φ fn/\Tw.F[f]?=φ fn/\fn.body=φ c/\cC ϋ G0 c=θ/\(fn.name== "runtime.NumGoroutine")=χ/\readies c=[]:=by
 unfold okF at h;simp only[ϩ,decide_eq_true_eq,Aj5] at h;have h1:=amC;rw[ġ] at h1;have h2:=h1 f (ş.2 h.1);unfold okB at h2;rw[h.2,Bool.false_or] at h2;cases e:ϋ.funcs[f]? with
 |none=>rw[e] at h2;exact absurd h2 (by simp)
 |some fn=>
  rw[e] at h2;simp only[Td] at h2;cases eb:fn.body with
  |none=>rw[eb] at h2;exact absurd h2 (by simp)
  |some c=>
   rw[eb] at h2;simp only[ϩ,Aj5,List.isEmpty_iff] at h2;exact⟨fn,c,rfl,(Tw.RH f h.2).trans e,eb,h2.1.1,h2.1.2,h2.2⟩
def aa0:Tw.F.size=nF:=by
 unfold Tw.F;rw[Ē,Array.size_mapIdx,few]
def GH(f:Nat):okF f=θ\/f=21\/Tw.F[f]?=ν\/Tw.F[f]?=φ Tw.dead:=by
 by_cases h:okF f=θ
 ·exact .inl h
 by_cases sP:f=21
 ·exact .inr (.inl sP)
 right;right
 by_cases hn:f<nF
 ·have:Tw.vF f=θ:=by
   unfold okF at h;simp only[ϩ,decide_eq_true_eq,Aj5,not_and,Bool.not_eq_false] at h;exact h hn
  exact Tw.aaZ f this (ϸ sP)
 ·left;exact Ė (by rw[aa0];omega)
def XE(hs:∀c,Tw.aK.JY.body=φ c->readies c=[])(g:Nat):Tw.prog.stepOf g=ν:=by
 unfold Program.stepOf;rw[Tw.P6,Array.findIdx?_eq_none_iff]
 intro fn ED;obtain⟨f,hf⟩:=Ajz ED
 rcases GH f with h|rfl|h|h
 ·obtain⟨fn',c,_,h1,h2,_,_,h3⟩:=JB h
  rw[hf] at h1;cases h1
  rw[h2];simp[h3]
 ·rw[Tw.Be] at hf;cases hf
  cases e:Tw.aK.JY.body with
  |none=>rfl
  |some c=>simp[hs c e]
 ·rw[hf] at h;exact absurd h (by simp)
 ·rw[hf] at h;cases h;rfl
end
def C0:bX:=⟨okF,λ_=>χ,λc=>cC ϋ G0 c=θ⟩
def Hp:Env ϋ (@Tw.F jC) C0 G0 where
 tV:=tV
 clean _:=Iff.rfl
 get f h:=by letI:=jC;obtain⟨fn,c,h1,h2,h3,h4,h5,_⟩:=JB h;exact⟨fn,c,h2,h1,h3,h4,h5⟩
 dead f h _:=by
  letI:=jC
  rcases GH f with k|rfl|k|k
  ·rw[show okF f=χ from h] at k;exact absurd k (by simp)
  ·exact .inr ⟨_,Tw.Be,Hl⟩
  ·exact .inl k
  ·exact .inr ⟨_,k,Hl⟩
 EZ f h:=absurd h (by simp[C0])
 ahead:=(QX _ _).trans MY
 steps:=by letI:=jC;exact XE λc h=>absurd h (by show Tw.dead.body≠_;simp[Tw.dead])
def C1:bX:=⟨okF,λf=>f==21,λc=>cC ϋ G0 c=θ⟩
def CA:bX:=⟨λf=>okF f||f==21,λ_=>χ,λc=>cC ϋ G0 c=θ⟩
def PA:ϕ:=self ϋ (@Tw.F jU)
def Kf:tw PA (@Tw.F jU)= @Tw.prog jU:=by unfold PA Tw.prog;exact QY _ _
def Ka:∃c,stub.body=φ c/\cC ϋ G0 c=θ/\readies c=[]:=⟨_,rfl,by decide+kernel,rfl⟩
def QJ:(stub.name== "runtime.NumGoroutine")=χ:=by decide+kernel
def aoy:∃c,Tryz.f21.body=φ c:=⟨_,rfl⟩
def aoB:(Tryz.f21.name== "runtime.NumGoroutine")=χ:=by decide+kernel
def stepT(g:Nat):(@Tw.prog jU).stepOf g=ν:=by
 letI:=jU
 refine XE (λc h=>?_) g
 obtain⟨c',h1,_,h2⟩:=Ka;have:stub.body=φ c:=h;rw[h1] at this;cases this;exact h2
def aeZ:Env ϋ (@Tw.F jU) C1 G0 where
 tV:=tV
 clean _:=Iff.rfl
 get f h:=by letI:=jU;obtain⟨fn,c,h1,h2,h3,h4,h5,_⟩:=JB h;exact⟨fn,c,h2,h1,h3,h4,h5⟩
 dead f h h':=by
  letI:=jU
  rcases GH f with k|rfl|k|k
  ·rw[show okF f=χ from h] at k;exact absurd k (by simp)
  ·exact absurd h' (by decide)
  ·exact .inl k
  ·exact .inr ⟨_,k,Hl⟩
 EZ f h:=by
  have h:f=21:=by simpa [C1] using h
  subst h;obtain⟨c,h1,_⟩:=Ka;obtain⟨c',h2⟩:=aoy;exact⟨stub,_,c,c',@Tw.Be jU,Tryz.func21,h1,h2,QJ,aoB⟩
 ahead:=(QX _ _).trans MY
 steps:=stepT
def aeY:Env PA (@Tw.F jU) CA G0 where
 tV:=⟨λt i v h hv=>tV.zero t i v ((aoN ϋ _ t).symm.trans h) hv⟩
 clean c:=by show cC ϋ G0 c=θ↔cC PA G0 c=θ;rw[show cC PA G0 c=cC ϋ G0 c from Yx _ _ _ _]
 get f h:=by
  letI:=jU
  have hc:∀c,cC PA G0 c=cC ϋ G0 c:=λc=>Yx _ _ _ _
  have h:okF f=θ\/f=21:=by simpa [CA] using h
  rcases h with h|rfl
  ·obtain⟨fn,c,h1,h2,h3,h4,h5,_⟩:=JB h;exact⟨fn,c,h2,(congrArg (·[f]?) (Yy _ _)).trans h2,h3,by rw[hc];exact h4,h5⟩
  ·obtain⟨c,h1,h2,_⟩:=Ka
   exact⟨stub,c,Tw.Be,(congrArg (·[21]?) (Yy _ _)).trans Tw.Be,h1,by rw[hc];exact h2,QJ⟩
 dead f h _:=by
  letI:=jU
  rcases GH f with k|rfl|k|k
  ·simp[CA,k] at h
  ·exact absurd h (by decide)
  ·exact .inl k
  ·exact .inr ⟨_,k,Hl⟩
 EZ f h:=absurd h (by simp[CA])
 ahead:=by rw[Kf];exact(QX _ _).trans MY
 steps g:=by rw[Kf];exact stepT g
end Go.Jn
namespace Go.Jn
open Go Go.Proofs Go.Sim Go.Conc
def adE:C0.clean wa:=by show cC ϋ G0 wa=θ;decide+kernel
def adF:C0.clean uC:=by show cC ϋ G0 uC=θ;decide+kernel
def QU:tw ϋ (@Tw.F jC)= @Tw.prog jC:=rfl
def piece(S:Tl)(hc:C0.clean c){a:Act}(hk:(S.kind==.early)=χ)
 (hd:a.defers=[cQ]){QL:Exit->Act->Ψ->Prop}
 (hl:∀T,c.wp (@Tw.prog jC) (λe bJ aa=>(e=.normal/\bJ.defers=[cQ]\/e=.ret)/\QL e bJ aa) a (bq w T))
 (hw:cg C0 ρ w w')(hg:ρ 0 0)(hf:Fits M ρ w)(iU:∀b,M.has b->b<w'.heap.size)(hn:bO w.heap)(ht:aV ρ a.tmps t')
 {Stop:ay->ϐ->Ψ->Prop}
 (post:∀e bJ aa b6 aM fq aF,QL e bJ aa->iO M ρ w w' b6 aM aa aF->cg C0 aM aa aF->Fits b6 aM aa->(∀b,b6.has b->b<aF.heap.size)->(∀g,G0 g=θ->aM g g)->bO aa.heap->aV aM bJ.tmps fq->
   (e=.normal->bJ.defers=[cQ]->Walk ϋ main Stop b6 (aT ⟨f,fq,S.items,S.defers,.run,S.kind,ν⟩ S.callers) aF)/\
   (e=.ret->∀tW D',kM S aM θ bJ.defers D'->Walk ϋ main Stop b6 (aT ⟨f,fq,tW,D',.returning,S.kind,ν⟩ S.callers) aF)):
 Walk ϋ main Stop M (aT ⟨f,t',.code c::S.items,S.defers,.run,S.kind,ν⟩ S.callers) w':=by
 refine Walk.bind (aqC Hp (λ_=>rfl) S hc hk hd (λT=>by rw[QU];exact hl T) hw (λg nJ=>?_) hf iU hn ht post) λ_ _ _ h=>h
 have:g=0:=by simpa [G0] using nJ
 subst this;exact hg
def an1(h:w.heap[r]?=φ (.deferred (φ []))):(Instr.takeDeferred r).runT P w #[]=(.ok [] (jV w r (.deferred ν)),#[⟨.obj r,χ,χ⟩,⟨.obj r,θ,χ⟩]):=by
 unfold Instr.takeDeferred;simp only[Go.getObj,Go.setObj,bind,ϫ,Ϥ,h,pure,ŏ];rfl
def aen{o:Obj}(hO:M.O r)(sS:∀e∈es,e=⟨.obj r,χ,χ⟩\/e=⟨.obj r,θ,χ⟩):eZ M w (jV w r o) es:=
 ⟨by rw[sk];exact ϊ _,λb _ hb=>yA (by rintro rfl;exact hb hO),rfl,rfl,rfl,λe he=>by
   rcases sS e he with rfl|rfl
   ·exact .inl ⟨r,.inl rfl,rfl,.inl (.inl hO),λh=>absurd h (by simp)⟩
   ·exact .inl ⟨r,.inl rfl,rfl,.inl (.inl hO),λ_=>.inl hO⟩⟩
def aqH{Stop:ay->ϐ->Ψ->Prop}{x:Array υ}(hO:M.O r)(hr:w.heap[r]?=φ (.deferred (φ [])))
 (h:∀aa,bR M w aa->Walk P main Stop M (aT ⟨f,t,k,D,.returning,kd,ν⟩ cs) (jV aa r (.deferred ν))):
 Walk P main Stop M (aT ⟨f,t,k,⟨.collected r,x⟩::D,.returning,kd,ν⟩ cs) w:=by
 have eW:∀aa,bR M w aa->Ϙ P main (aT ⟨f,t,k,⟨.collected r,x⟩::D,.returning,kd,ν⟩ cs) aa=.go (aT ⟨f,t,k,D,.returning,kd,ν⟩ cs) (jV aa r (.deferred ν)) (seen P f #[⟨.obj r,χ,χ⟩,⟨.obj r,θ,χ⟩]):=by
  intro aa hk;have e:Ï P main ⟨f,t,k,⟨.collected r,x⟩::D,.returning,kd,ν⟩ cs ν aa=.go (aT ⟨f,t,k,D,.returning,kd,ν⟩ cs) (jV aa r (.deferred ν)) (seen P f #[⟨.obj r,χ,χ⟩,⟨.obj r,θ,χ⟩]):=by
   unfold Ï;simp only[an1 ((hk.kept r (.inl hO)).trans hr),ß,List.nil_append];simp
  exact e
 refine .step rfl (λaa=>(aT ⟨f,t,k,D,.returning,kd,ν⟩ cs,jV aa r (.deferred ν),seen P f #[⟨.obj r,χ,χ⟩,⟨.obj r,θ,χ⟩])) (λaa hk=>⟨eW aa hk,aen hO λe he=>?_⟩) λaa hk=>?_
 ·have:=Sim.mem_seen he
  simp only[ã,Ϧ,Λ,or_false] at this;exact this
 ·show Walk P main Stop (M.grow aa (jV aa r (.deferred ν))) _ _
  rw[Hx];exact h aa hk
def chain:List ϖ->ϖ->ϖ
 | [],z=>z
 |c::cs,z=>.seq c (chain cs z)
def fu(P:ϕ):List ϖ->(Exit->Act->Ψ->Prop)->Act->Ψ->Prop
 | [],Q=>Q .normal
 |c::cs,Q=>c.wp P (Exit.then (fu P cs Q) Q)
def anW{z:ϖ}{Q:Exit->Act->Ψ->Prop}(hQ:∀e a w,Q e a w->e=.normal\/e=.ret)(b:Ϛ)(k:List Item)(fs:List Ϛ):
 ∀(cs:List ϖ) {a:Act} {w:Ψ},fu P cs Q a w->∃e bJ aa,Q e bJ aa/\
  (e=.normal/\Steps P (lone (b.at a (.code (chain cs z)::k)) fs w) (lone (b.at bJ (.code z::k)) fs aa)\/
   e=.ret/\∃todo,Steps P (lone (b.at a (.code (chain cs z)::k)) fs w) (lone {b.at bJ todo with mode:=.returning} fs aa)):=by
 intro cs;induction cs with
 |nil=>exactλ{a w} h=>⟨.normal,a,w,h,.inl ⟨rfl,⟨0,rfl⟩⟩⟩
 |cons c cs ih=>
  intro a w h;obtain⟨e,bJ,aa,hq,B7⟩:=h b (.code (chain cs z)::k) fs;have eW:Steps P (lone (b.at a (.code (chain (c::cs) z)::k)) fs w) (lone (b.at a (.code c:: .code (chain cs z)::k)) fs w):=.one step_seq;cases e with
  |normal=>
   obtain⟨e2,a2,w2,rX,h2⟩:=ih hq;refine⟨e2,a2,w2,rX,?_⟩
   rcases h2 with⟨rfl,h2⟩ | ⟨rfl,todo,h2⟩
   ·exact .inl ⟨rfl,eW.trans (Steps.trans B7 h2)⟩
   ·exact .inr ⟨rfl,todo,eW.trans (Steps.trans B7 h2)⟩
  |ret=>
   obtain⟨todo,h2⟩:=B7;exact⟨.ret,bJ,aa,hq,.inr ⟨rfl,todo,eW.trans h2⟩⟩
  |exit id=>rcases hQ _ _ _ hq with h|h<;>cases h
  |goto l=>rcases hQ _ _ _ hq with h|h<;>cases h
  |panic ch=>rcases hQ _ _ _ hq with h|h<;>cases h
  |outgrown=>rcases hQ _ _ _ hq with h|h<;>cases h
def TP{C:bX}{S:Tl}:∀(cs:List ϖ),(∀c∈cs,C.clean c)->Cut C S (chain cs dt) (chain cs S.code)
 | [],_=>.stop
 |c::cs,h=>.seq (h c (by simp)) (TP cs λd hd=>h d (by simp[hd]))
section
variable {P:ϕ}{F:Array Func}{C:bX}{G:Nat->Bool}
def aeh{c':ϖ}(h:Cut C S dt c'):c'=S.code:=by
 generalize e:dt=c at h;cases h with
 |stop=>rfl
 |seq _ _=>cases e
def ajH(hcut:¬C.clean dt)(h:py C S ρ θ [.code dt,.code dt] k'):k'=.code S.code::S.items:=by
 cases h with
 |cons hi t=>
  rw[Xd t];cases hi with
  |code _ hc=>exact absurd hc hcut
  |cut hc=>rw[aeh hc]
def aqB(E:Env P F C G)(hcut:¬C.clean dt)(hh:∀f,C.hole f=χ)(S:Tl){cs:List ϖ}(hc:∀c∈cs,C.clean c){a:Act}(hk:(S.kind==.early)=χ)
 (hd:a.defers=[cQ]){QL:Exit->Act->Ψ->Prop}(hQ:∀e a w,QL e a w->e=.normal\/e=.ret)
 (hl:∀T,fu (tw P F) cs QL a (bq w T))
 (hw:cg C ρ w w')(hg:∀g,G g=θ->ρ g g)(hf:Fits M ρ w)(iU:∀b,M.has b->b<w'.heap.size)(hn:bO w.heap)(ht:aV ρ a.tmps t')
 {Stop:ay->ϐ->Ψ->Prop}
 (post:∀e bJ aa b6 aM fq aF D',QL e bJ aa->iO M ρ w w' b6 aM aa aF->cg C aM aa aF->Fits b6 aM aa->(∀b,b6.has b->b<aF.heap.size)->(∀g,G g=θ->aM g g)->bO aa.heap->aV aM bJ.tmps fq->kM S aM θ bJ.defers D'->
   (e=.normal->Stop b6 (aT ⟨f,fq,.code S.code::S.items,D',.run,S.kind,ν⟩ S.callers) aF)/\
   (e=.ret->∀tW,Stop b6 (aT ⟨f,fq,tW,D',.returning,S.kind,ν⟩ S.callers) aF)):
 Walk P main Stop M (aT ⟨f,t',.code (chain cs S.code)::S.items,S.defers,.run,S.kind,ν⟩ S.callers) w':=by
 let b:Ϛ:={ (default:Ϛ) with fn:=f,kind:=.normal}
 let c:=chain cs dt
 let Q:ϐ->Ψ->Prop:=λg w=>∃T e bJ todo m,QL e bJ (bq w T)/\g=aT ⟨f,bJ.tmps,todo,bJ.defers,m,.normal,ν⟩ []/\
  (e=.normal/\todo=[.code dt,.code dt]/\m=.run\/e=.ret/\m=.returning)
 have cq:eo C S ρ θ (b.at a [.code c,.code dt]) ⟨f,t',.code (chain cs S.code)::S.items,S.defers,.run,S.kind,ν⟩:=
  .mk f ht (.cons (.cut (TP cs hc)) .stop) (by rw[hd];exact .stop) .run .none ⟨λh=>by simp at h,λ_=>rfl,λh=>absurd rfl h,λh=>by simp at h,hk,λ_=>rfl⟩
 have ew:uG P (tw P F) C S ρ (aT (b.at a [.code c,.code dt]) []) (aT ⟨f,t',.code (chain cs S.code)::S.items,S.defers,.run,S.kind,ν⟩ S.callers):=.inside cq .base;have hi:Inv C S G (aT (b.at a [.code c,.code dt]) []) w:=⟨hn,ρ,θ,_,_,_,_,w',rfl,hg,cq,.base,hw⟩;have OU:Sim.Safe (tw P F) Q (aT (b.at a [.code c,.code dt]) []) w:=by
  refine Qn (S:=S) E hh ?_ ?_ hi ?_
  ·rintro g w T ⟨T',e,bJ,todo,m,h1,h2,h3⟩
   exact⟨T',e,bJ,todo,m,h1,h2,h3⟩
  ·rintro g w ⟨T',e,bJ,todo,m,h1,rfl,h3⟩ ch
   rcases h3 with⟨_,_,rfl⟩ | ⟨_,rfl⟩<;>simp
  ·intro T
   obtain⟨e,bJ,aa,h1,h3⟩:=anW (z:=dt) hQ b [.code dt] [] cs (hl T);rcases h3 with⟨rfl,n,hr⟩ | ⟨rfl,todo,n,hr⟩
   ·exact⟨n,_,_,aa,hr,aa.tape,.normal,bJ,[.code dt,.code dt],.run,h1,rfl,.inl ⟨rfl,rfl,rfl⟩⟩
   ·exact⟨n,_,_,aa,hr,aa.tape,.ret,bJ,todo,.returning,h1,rfl,.inr ⟨rfl,rfl⟩⟩
 refine Zx E main (Ym E hh OU hi) ⟨ew,hw,hg,hf,iU⟩ ?_
 intro b6 aM dP aa eB aF hR cr _ _ hq;obtain⟨gr,core,iy,fits,low⟩:=hR;cases gr with
 |hole f hf=>rw[hh] at hf;simp at hf
 |inside xt Eh=>
  obtain⟨⟨T,e,bJ,todo,m,h1,h2,h3⟩,qF⟩:=hq.resolve_right λh=>h ⟨_,_,_,_,_,rfl,rfl,xt,Eh⟩
  have e1:=congrArg Goroutine.frame h2;have e2:=congrArg Akc h2;simp only at e1 e2;subst e1 e2;obtain⟨rfl,rfl⟩:=Me Eh;have MH:cg C aM (bq aa T) aF:=core.left rfl;cases xt with
  |mk _ Aq fj kT qy rY iz=>
   cases rY;have Qr:iO M ρ w w' b6 aM (bq aa T) aF:=⟨cr.le,cr.new,cr.oa,cr.gO,cr.lD,cr.jd,cr.R,cr.O,cr.On,cr.tape,cr.os,cr.e⟩;have rR:=iz.DJ rfl;subst rR;have:=post e bJ (bq aa T) b6 aM _ aF _ h1 Qr MH fits low iy qF Aq kT;rcases h3 with⟨rfl,rfl,rfl⟩ | ⟨rfl,rfl⟩
   ·rw[ajH hcut fj]
    exact this.1 rfl
   ·exact this.2 rfl _
end
def aeg:¬C0.clean dt:=by
 intro h;have h:cC ϋ G0 dt=θ:=h;exact absurd h (by decide)
def pieces(S:Tl){cs:List ϖ}(hc:∀c∈cs,C0.clean c){a:Act}(hk:(S.kind==.early)=χ)
 (hd:a.defers=[cQ]){QL:Exit->Act->Ψ->Prop}(hQ:∀e a w,QL e a w->e=.normal\/e=.ret)
 (hl:∀T,fu (@Tw.prog jC) cs QL a (bq w T))
 (hw:cg C0 ρ w w')(hg:ρ 0 0)(hf:Fits M ρ w)(iU:∀b,M.has b->b<w'.heap.size)(hn:bO w.heap)(ht:aV ρ a.tmps t')
 {Stop:ay->ϐ->Ψ->Prop}
 (post:∀e bJ aa b6 aM fq aF D',QL e bJ aa->iO M ρ w w' b6 aM aa aF->cg C0 aM aa aF->Fits b6 aM aa->(∀b,b6.has b->b<aF.heap.size)->aM 0 0->bO aa.heap->aV aM bJ.tmps fq->kM S aM θ bJ.defers D'->
   (e=.normal->Walk ϋ main Stop b6 (aT ⟨f,fq,.code S.code::S.items,D',.run,S.kind,ν⟩ S.callers) aF)/\
   (e=.ret->∀tW,Walk ϋ main Stop b6 (aT ⟨f,fq,tW,D',.returning,S.kind,ν⟩ S.callers) aF)):
 Walk ϋ main Stop M (aT ⟨f,t',.code (chain cs S.code)::S.items,S.defers,.run,S.kind,ν⟩ S.callers) w':=by
 refine Walk.bind (aqB Hp aeg (λ_=>rfl) S hc hk hd hQ (λT=>by rw[QU];exact hl T) hw (λg nJ=>?_) hf iU hn ht λe bJ aa b6 aM fq aF D' h1 h2 h3 h4 h5 h6 h7 h8 h9=>post e bJ aa b6 aM fq aF D' h1 h2 h3 h4 h5 (h6 0 rfl) h7 h8 h9) λ_ _ _ h=>h
 have:g=0:=by simpa [G0] using nJ
 subst this;exact hg
end Go.Jn
namespace Go.Jn
open Go Go.Sim Go.Tw
def Pv(S:Nat->Prop):υ->Prop
 | .bool _| .int _ _| .string _| .pointer ν| .slice ν _ _| .map ν| .chan ν| .nilFunc| .nilIface=>True
 | .pointer (φ a)=>S a.block
 | .slice (φ a) n c=>S a.block\/(n=0/\c=0)
 | .func (.func _) x y=>x=#[]/\y=#[]
 |_=>False
def yl(ρ:Ren)(S:Nat->Prop):Ren:=λa b=>ρ a b/\S a
def Pv.rel{S:Nat->Prop}(h:aj ρ v v')(hp:Pv S v):aj (yl ρ S) v v':=by
 cases h;case bool b=>exact .bool b
 case int k n=>exact .int k n
 case string s=>exact .string s
 case ptrNone=>exact .ptrNone
 case ptr ha=>exact .ptr ⟨⟨ha.1,hp⟩,ha.2⟩
 case sliceNone n c=>exact .sliceNone n c
 case slice n c ha=>
  rcases hp with hp| ⟨rfl,rfl⟩
  ·exact .slice n c ⟨⟨ha.1,hp⟩,ha.2⟩
  ·exact .sliceDead _ _
 case sliceDead=>exact .sliceDead _ _
 case mapNone=>exact .mapNone
 case map=>exact hp.elim
 case chanNone=>exact .chanNone
 case chan=>exact hp.elim
 case func hf hx h1 hy h2=>
  cases hf with
  |func f=>
   obtain⟨rfl,rfl⟩:=hp;exact .func (.func f) hx (λi hi _=>absurd hi (by simp)) hy (λi hi _=>absurd hi (by simp))
  |yield=>exact hp.elim
 case nilFunc=>exact .nilFunc
 case iface=>exact hp.elim
 case nilIface=>exact .nilIface
 case agg=>exact hp.elim
 case tuple=>exact hp.elim
 case junk=>exact hp.elim
 case fjunk=>exact hp.elim
def sN(σ:Ren):∀v':υ,∃u,aj σ u v'
 | .bool b=>⟨_,.bool b⟩
 | .int k n=>⟨_,.int k n⟩
 | .float k n=>⟨_,.junk rfl (by simp) (by simp)⟩
 | .complex k n m=>⟨_,.junk rfl (by simp) (by simp)⟩
 | .string s=>⟨_,.string s⟩
 | .pointer ν=>⟨_,.ptrNone⟩
 | .pointer (φ a)=>⟨_,.junk rfl (by simp) (by simp)⟩
 | .slice ν n c=>⟨_,.sliceNone n c⟩
 | .slice (φ a) n c=>⟨_,.junk rfl (by simp) (by simp)⟩
 | .map ν=>⟨_,.mapNone⟩
 | .map (φ a)=>⟨_,.junk rfl (by simp) (by simp)⟩
 | .chan ν=>⟨_,.chanNone⟩
 | .chan (φ a)=>⟨_,.junk rfl (by simp) (by simp)⟩
 | .func f x y=>⟨_,.fjunk f x y⟩
 | .nilFunc=>⟨_,.nilFunc⟩
 | .iface t v=>⟨_,.junk rfl (by simp) (by simp)⟩
 | .nilIface=>⟨_,.nilIface⟩
 | .tuple x=>⟨_,.junk rfl (by simp) (by simp)⟩
 | .agg x=>by
   have ih:∀i (h:i<x.size),∃u,aj σ u x[i]:=λi h=>sN σ x[i]
   refine⟨.agg (Aj2 λi:Fin x.size=>å (ih i.1 i.2)),.agg (by simp) λi h1 h2=>?_⟩
   rw[Aj3];exact Î (ih i h2)
def mK(S:Nat->Prop)(h:aj ρ v v'):∃u,aj (yl ρ S) u v'/\(Pv S v->u=v):=by
 by_cases hp:Pv S v
 ·exact⟨v,Pv.rel h hp,λ_=>rfl⟩
 ·obtain⟨u,hu⟩:=sN (yl ρ S) v'
  exact⟨u,hu,λh=>absurd h hp⟩
def aef(S:Nat->Prop){c c':Array υ}(h:aV ρ c c'):∃u:Array υ,aV (yl ρ S) u c'/\u.size=c.size/\∀(i:Nat) (v:υ),c[i]?=φ v->Pv S v->u[i]?=φ v:=by
 have key:∀i (h1:i<c.size),∃u,(∀h2:i<c'.size,aj (yl ρ S) u c'[i])/\(Pv S c[i]->u=c[i]):=λi h1=>by
  obtain⟨u,a,b⟩:=mK S (h.2 i h1 (h.1▸h1));exact⟨u,λ_=>a,b⟩
 refine⟨Aj2 λi:Fin c.size=>å (key i.1 i.2),⟨by simp[h.1],λi h1 h2=>?_⟩,by simp,λi v hi hp=>?_⟩
 ·rw[Aj3]
  exact(Î (key i (by simpa using h1))).1 h2
 ·obtain⟨ao,e⟩:=ϛ.1 hi
  rw[Aj4,dif_pos ao]
  exact congrArg φ (((Î (key i ao)).2 (by rw[e];exact hp)).trans e)
section
variable (ρ:Ren)(w w':Ψ)
def gY(a:Nat):Prop:=∃b c c' e fr ba,ρ a b/\w.heap[a]?=φ (.cells c e fr)/\w'.heap[b]?=φ (.cells c' e ba)/\aV ρ c c'
def K8(a:Nat)(o:Obj):Prop:=∃(b:Nat) (c c':Array υ) (e:ό) (fr ba:Nat×Nat) (u:Array υ),ρ a b/\w.heap[a]?=φ (.cells c e fr)/\w'.heap[b]?=φ (.cells c' e ba)/\aV (yl ρ (gY ρ w w')) u c'/\u.size=c.size/\(∀(i:Nat) (v:υ),c[i]?=φ v->Pv (gY ρ w w') v->u[i]?=φ v)/\o=.cells u e (0,u.size)
def agc(h:gY ρ w w' a):∃o,K8 ρ w w' a o:=by
 obtain⟨b,c,c',e,fr,ba,h1,h2,h3,h4⟩:=h;obtain⟨u,k1,k2,k3⟩:=aef (gY ρ w w') h4;exact⟨_,b,c,c',e,fr,ba,u,h1,h2,h3,k1,k2,k3,rfl⟩
open Classical in
def Hu(a:Nat):Obj:=if h:∃o,K8 ρ w w' a o then å h else .cells #[] 0 (0,0)
def rG:Ψ:={w with heap:=w.heap.mapIdx λa _=>Hu ρ w w' a}
end
section
variable {ρ:Ren}{w w':Ψ}
def Us:(rG ρ w w').heap.size=w.heap.size:=by simp[rG]
def M7(h:gY ρ w w' a):∃o,(rG ρ w w').heap[a]?=φ o/\K8 ρ w w' a o:=by
 have hx:=agc ρ w w' h;obtain⟨b,c,c',e,fr,ba,h1,h2,h3,h4⟩:=h;refine⟨Hu ρ w w' a,?_,?_⟩
 ·unfold rG
  simp only[Aeo,h2,é]
 ·unfold Hu
  rw[dif_pos hx];exact Î hx
def agf(h:cg C ρ w w'):cg C (yl ρ (gY ρ w w')) (rG ρ w w') w' where
 dL a b hab:=by rw[Us];exact h.dL a b hab.1
 dq a b hab:=h.dq a b hab.1
 fn a b b' x y:=h.fn a b b' x.1 y.1
 inj a a' b x y:=h.inj a a' b x.1 y.1
 obj a b o hab ho:=by
  obtain⟨o1,k1,b1,c,c',e,fr,ba,u,h1,h2,h3,h4,h5,h6,rfl⟩:=M7 hab.2;rw[k1] at ho;cases ho;rw[h.fn a b b1 hab.1 h1];exact⟨_,h3,.cells e h4 (.inr ⟨rfl,ϊ _⟩)⟩
def agh:bO (rG ρ w w').heap:=by
 intro o ho hb;obtain⟨a,ha⟩:=Ajz ho
 unfold rG at ha;simp only[Aeo] at ha
 obtain⟨o1,_,rfl⟩:=Č.1 ha;unfold Hu at hb;split at hb
 ·rename_i hx
  obtain⟨b1,c,c',e,fr,ba,u,_,_,_,_,_,_,e2⟩:=Î hx;rw[e2] at hb;exact hb
 ·exact hb
def age{a:Addr}(ha:gY ρ w w' a.block)(h: w.cell? a=φ v)(hp:Pv (gY ρ w w') v):(rG ρ w w').cell? a=φ v:=by
 obtain⟨o1,k1,b1,c,c',e,fr,ba,u,h1,h2,h3,h4,h5,h6,rfl⟩:=M7 ha;unfold World.cell? at h |-
 rw[h2] at h;rw[k1];simp only at h |-
 split at h
 ·cases h
 ·rename_i hs
  rw[if_neg hs];exact h6 _ _ h hp
def Yb(h:cg C ρ w w'){p:Addr}{u:υ}(hc: w.cell? p=φ u){b:Nat}(hr:ρ p.block b):gY ρ w w' p.block:=by
 unfold World.cell? at hc;split at hc
 ·rename_i c e fr ho
  obtain⟨o',h1,h2⟩:=h.obj _ _ _ hr ho;cases h2 with
  |cells e hv hf=>exact⟨b,c,_,e,fr,_,hr,ho,h1,hv⟩
 ·cases hc
def Ya{p:Addr}{u:υ}(hr:gY ρ w w' p.block)(hc: w.cell? p=φ u):∃u',aj ρ u u':=by
 obtain⟨b,c,c',e,fr,ba,h1,h2,h3,h4⟩:=hr;unfold World.cell? at hc;rw[h2] at hc;simp only at hc;split at hc
 ·cases hc
 ·obtain⟨ao,e⟩:=ϛ.1 hc
  exact⟨_,by rw[<-e];exact h4.2 _ ao (h4.1▸ao)⟩
end
def Sv(S:Nat->Prop)(v:υ):Prop:=∀A n c,v=ζ (φ A) n c->n=0->S A.block\/c=0
section
variable {α:Type}{ρ:Ren}{w w':Ψ}{B sz:Nat}{R R':α->List υ->Prop}{v:υ}{xs:List α}
def F7(hW:cg C ρ w w')(aN:0<sz)(h:Row w B sz R v xs)(hv:∃v',aj ρ v v')(he:Sv (gY ρ w w') v):Pv (gY ρ w w') v:=by
 obtain⟨A,c,rfl,h1,h2,h3⟩:=h;cases A with
 |none=>exact trivial
 |some A=>
  by_cases hx:xs=[]
  ·subst hx;exact(he A _ c rfl rfl).imp id λh=>⟨rfl,h⟩
  ·obtain⟨ad,e,hb,h4⟩:=h3 hx
   cases e;cases xs with
   |nil=>exact absurd rfl hx
   |cons x xs=>
    obtain⟨cs,_,hl,hc⟩:=h4 0 x rfl;obtain⟨u,hu⟩:∃u,cs[0]?=φ u:=⟨cs[0]'(by omega),Ã _⟩
    have:=hc 0 u hu;obtain⟨v',hv⟩:=hv;cases hv with
    |slice _ _ ha=>
     have e:(A.add (0 * sz+0)).block=A.block:=b9 _ _;have:=Yb hW this (b:=_) (by rw[e];exact ha.1)
     rw[e] at this;exact .inl this
def Ed(aN:0<sz)(h:Row w B sz R v xs)(hv:Pv (gY ρ w w') v)(hR:∀x cs,R x cs->(∀u∈cs,∃p:Addr,gY ρ w w' p.block/\ w.cell? p=φ u)->R' x cs/\∀u∈cs,Pv (gY ρ w w') u):Row (rG ρ w w') B sz R' v xs:=by
 obtain⟨A,c,e,h1,h2,h3⟩:=h;refine⟨A,c,e,h1,h2,λhx=>?_⟩
 obtain⟨ad,hA,hb,h4⟩:=h3 hx;have hs:gY ρ w w' ad.block:=by
  rw[e,hA] at hv;rcases hv with hv| ⟨h0,_⟩
  ·exact hv
  ·exact absurd (List.length_eq_zero_iff.1 h0) hx
 refine⟨ad,hA,hb,λi x hi=>?_⟩
 obtain⟨cs,r,hl,aq⟩:=h4 i x hi;have:=hR x cs r λu hu=>by
  obtain⟨j,hj⟩:=List.getElem?_of_mem hu
  exact⟨_,by rw[b9];exact hs,aq j u hj⟩
 refine⟨cs,this.1,hl,λj u hu=>?_⟩
 exact age (by rw[b9];exact hs) (aq j u hu) (this.2 u (Ϩ hu))
end
structure GF(S:Nat->Prop)(w:Ψ)(B:Nat)(b:eR)(pv bv tv:υ):Prop where
 pieces:Row w B 4 Piece.R pv b.pieces
 aC:Row w B 3 (λx cs=>bN.R w B x cs/\∀u∈cs,Sv S u) bv b.aC
 aI:Row w B 3 (λx cs=>Tw.Tape.R w B x cs/\∀u∈cs,Sv S u) tv b.aI
 sp:Sv S pv
 sb:Sv S bv
 st:Sv S tv
def agd(hW:cg C ρ w w')(h:GF (gY ρ w w') w B b pv bv tv)(h1:∃v',aj ρ pv v')(h2:∃v',aj ρ bv v')(h3:∃v',aj ρ tv v'):
 aQ (rG ρ w w') B b pv bv tv/\Pv (gY ρ w w') pv/\Pv (gY ρ w w') bv/\Pv (gY ρ w w') tv:=by
 have p1:=F7 hW (by omega) h.pieces h1 h.sp
 have p2:=F7 hW (by omega) h.aC h2 h.sb
 have p3:=F7 hW (by omega) h.aI h3 h.st
 refine⟨⟨Ed (by omega) h.pieces p1 λx cs r _=>⟨r,λu hu=>?_⟩,Ed (by omega) h.aC p2 λx cs r hc=>?_,Ed (by omega) h.aI p3 λx cs r hc=>?_⟩,p1,p2,p3⟩
 ·obtain⟨rfl,_⟩:=r
  simp only[Ϧ,Λ,or_false] at hu;rcases hu with rfl|rfl|rfl|rfl<;>exact trivial
 ·obtain⟨⟨kv,rfl,k1,k2⟩,k3⟩:=r
  have hp:Pv (gY ρ w w') kv:=F7 hW (by omega) k2 (by obtain⟨p,hp,hu⟩:=hc kv (by simp);exact Ya hp hu) (k3 kv (by simp))
  refine⟨⟨kv,rfl,k1,Ed (by omega) k2 hp λx cs r _=>⟨r,λu hu=>?_⟩⟩,λu hu=>?_⟩
  ·rw[show cs=_ from r] at hu
   simp only[Ϧ,Λ,or_false] at hu;rcases hu with rfl|rfl<;>exact trivial
  ·simp only[Ϧ,Λ,or_false] at hu
   rcases hu with rfl|rfl|rfl
   ·exact trivial
   ·exact trivial
   ·exact hp
 ·obtain⟨⟨kv,rfl,k2⟩,k3⟩:=r
  have hp:Pv (gY ρ w w') kv:=F7 hW (by omega) k2 (by obtain⟨p,hp,hu⟩:=hc kv (by simp);exact Ya hp hu) (k3 kv (by simp))
  refine⟨⟨kv,rfl,Ed (by omega) k2 hp λx cs r _=>⟨r,λu hu=>?_⟩⟩,λu hu=>?_⟩
  ·rw[show cs=_ from r] at hu
   simp only[Ϧ,Λ,or_false] at hu;rcases hu with rfl;exact trivial
  ·simp only[Ϧ,Λ,or_false] at hu
   rcases hu with rfl|rfl|rfl
   ·exact hp
   ·exact trivial
   ·exact trivial
end Go.Jn
namespace Go.Tw
variable [Go.Tw.aK]
open Go Go.Proofs Go.RowKit
def ajt{g k x:Nat}(g0: w.cell? ⟨g,0,ν⟩=φ (ξ κ x))(h0:g<w.heap.size):
 Calls prog 123 (#[ξ κ k]++#[π (φ ⟨g,0,ν⟩)]) w λe w'=>e=Ω (.bool (decide (k=x)))/\Below w.heap.size w w':=by
 go_enter func123,Tryz.ntmps123;go_wp2;refine bodyPost_ret (v:=.bool (decide (k=x))) (by
  have he:((k:Int)==(x:Int))=decide (k=x):=by rw[Bool.eq_iff_iff];simp;omega
  simp[results,Tryz.results123,go_sem,he]) rfl ⟨rfl,Below.refl _ _⟩
end Go.Tw
namespace Go.Jn
open Go Go.Proofs Go.Sim Go.Conc Go.Tw Go.RowKit
attribute [local go_sem] AZ AY Oper.semAt_some
def then_self(Q:Exit->Act->Ψ->Prop):Exit.then (Q .normal) Q=Q:=by
 funext e a w;cases e<;>rfl
section
variable [Go.Tw.aK]
def GV(b:eR)(i:Nat)(v0 v1 v2 v3:υ)(e:Exit)(a:Act)(w:Ψ):Prop:=
 (∃r x,a.defers=[⟨.collected r,x⟩,cQ]/\w.heap[r]?=φ (.deferred (φ [])))/\a.tmps.size=18/\a.tmps[0]?=φ v0/\a.tmps[1]?=φ v1/\a.tmps[2]?=φ v2/\a.tmps[3]?=φ v3/\
   ((search b (cB (aB b)) (λk=>decide (k=i)) b.pieces.length []=ν/\e=.normal)\/((search b (cB (aB b)) (λk=>decide (k=i)) b.pieces.length []).isSome=θ/\e=.ret))
def middle{v3 v6:υ}(hB:B<=w.heap.size)(ah:aQ w B b pv bv tv)(h:bT b 0=0)
 (c0: w.cell? ⟨bk,0,ν⟩=φ (ξ κ b.ab))(c1: w.cell? ⟨bk,1,ν⟩=φ pv)(c2: w.cell? ⟨bk,2,ν⟩=φ bv)(c3: w.cell? ⟨bk,3,ν⟩=φ tv)(hk: w.cell? ⟨pk,0,ν⟩=φ (ξ κ i))
 (ai:bk<w.heap.size)(ej:pk<w.heap.size):
 fu prog [wa,uC] (GV b i v0 (π (φ ⟨bk,0,ν⟩)) (π (φ ⟨pk,0,ν⟩)) v3) ⟨#[v0,π (φ ⟨bk,0,ν⟩),π (φ ⟨pk,0,ν⟩),v3,ω,ω,v6,ω,ω,ω,ω,ω,ω,ω,ω,ω,ω,ω],[cQ]⟩ w:=by
 have aG:=ψ (Qw hB ah h);have bD:=ψ ah;have hv:=ψ (fG (mX h).1);obtain⟨A1,n1,k1,rfl,-⟩:=ah.pieces.Φ;obtain⟨A2,n2,k2,rfl,-⟩:=ah.aC.Φ;obtain⟨A3,n3,k3,rfl,-⟩:=ah.aI.Φ;clear ah h;have HK:=ψ hk;clear hk;unfold fu fu fu;rw[then_self];refine(wpIn_wide (n:=0)).1 ?_
 refine wpIn_mono (Q:=Exit.then (uC.wpIn Fence.wide 0 prog (GV b i v0 (π (φ ⟨bk,0,ν⟩)) (π (φ ⟨pk,0,ν⟩)) v3)) (GV b i v0 (π (φ ⟨bk,0,ν⟩)) (π (φ ⟨pk,0,ν⟩)) v3)) ?_ (λe a w h=>by cases e<;>first|exact wpIn_wide.1 h|exact h)
 simp only[wa,uC,DN,Tryz.f120,bp,aS,ϻ]
 gi_wp2_with (first
  | (gi_at_call 119;refine(callsIn_wide.2 aG.e).mono ?_;rintro e w1 ⟨sv,g,rfl,aH,cP,hg,ai⟩
     obtain⟨A9,m9,c9,rfl⟩:=iI aH;have aO:w.heap.size<=w1.heap.size:=ai.size;have Au:w.heap.size<w1.heap.size+1:=by omega
     have FR:=ψ (And.intro aH (And.intro cP (And.intro hg ai)));have oK:g<w1.heap.size:=cP.lt;have dE:Row (w1.alloc (Ξ #[ξ κ b.ab,.slice A1 n1 k1,.slice A2 n2 k2,.slice A3 n3 k3,.slice A9 m9 c9,.map (φ g)] 151)) w1.heap.size 3 al.R (.slice A9 m9 c9) (aB b):=aH.row.still ((Δ.refl w1).alloc (ϊ _) _) λ_ _ h=>h
     clear ai aH cP hg)
  | (gi_at_call 122;refine(callsIn_wide.2 (ML (B:=w1.heap.size) (ps:=aB b) dE (by simp) ⟨_,_,_,rfl⟩ ⟨_,_,_,rfl⟩ ⟨_,_,_,rfl⟩)).mono ?_;rintro e w2 ⟨gn,rfl,q0,q1,q2,xz,an⟩))
 clear dE;have aZ:w1.heap.size+1<=w2.heap.size:=by have:=an.size;simpa using this
 have xy:w1.grownBy w2 (φ g):=(ϯ w1 _ _).trans (jQ an (ϊ _) _);have IA:w.grownBy w2 ν:=(jQ FR.e.2.2.2 (ϊ _) _).trans ((ϯ w1 _ _).trans (jQ an (ϊ _) _));have qw:dS w2 g b:=FR.e.2.1.grown (row:=ν) ((ϯ w1 _ _).trans (jQ an (ϊ _) _)) (by simp)
 have Nk:B<=g:=ϡ hB FR.e.2.2.1;have aiG:Δ B w w2:=λp hp=>Akg (IA.block p.block (by omega) (by simp))
 have ais: w2.cell? ⟨pk,0,ν⟩=φ (ξ κ i):=(Akg (IA.block pk (by omega) (by simp))).trans HK.e
 have hX0:=Qq (Wa:=w1.alloc (Ξ #[ξ κ b.ab,.slice A1 n1 k1,.slice A2 n2 k2,.slice A3 n3 k3,.slice A9 m9 c9,.map (φ g)] 151)) (w2:=w2) (KO:=123) (kE:=#[π (φ ⟨pk,0,ν⟩)]) (out:=λk=>decide (k=i)) (B:=B) (bD.e.still aiG) hv.e (wI hv.e) ⟨_,_,_,rfl⟩ Nk (by simp;omega) q0 q1 q2 xz call123
  (λk W hk ew=>ajt ((Akg (ew.block pk (by have:=FR.e.2.2.2.size;omega) (by simp;have:=FR.e.2.2.1;omega))).trans ais) (by have:=ew.size;omega))
 refine Qf (gf:=174) (pre:=#[]) (lb:=#[π (φ ⟨w1.heap.size+1,0,ν⟩),π (φ ⟨w1.heap.size+1+1,0,ν⟩),π (φ ⟨gn,0,ν⟩)]) (by simp[Act.eval]) call174 λfn rc iD=>?_
 have Cl:=((hX0.alloc (by show B<=w2.heap.size;omega) (.deferred (φ []))).alloc (by simp[CZ];omega) (.loop rc)).SK (w2.heap.size+1)
 obtain⟨W1,eS⟩:∃W1,W1=(w2.alloc (Obj.deferred (φ []))).alloc (Obj.loop rc):=⟨_,rfl⟩
 obtain⟨X,hX⟩:∃X:cY,X={CZ w2 b (.slice A1 n1 k1) (.slice A2 n2 k2) (.slice A3 n3 k3) (.slice A9 m9 c9) (aB b) (w1.heap.size+1) gn g 123 #[π (φ ⟨pk,0,ν⟩)] (λk=>decide (k=i)) with w:=W1,l:=w2.heap.size+1}:=⟨_,rfl⟩
 have cD:X.Ok B:=by rw[hX,eS];simpa [CZ] using Cl
 have xw:X.w=W1:=by rw[hX]
 have xl:X.l=w2.heap.size+1:=by rw[hX]
 have xb:X.b=b:=by rw[hX];rfl
 have xg:X.gm=g:=by rw[hX];rfl
 have di:W1.heap.size=w2.heap.size+2:=by rw[eS];simp
 have xs:X.s=w2.heap.size+2:=by unfold cY.s;rw[xw,di]
 have zZ:W1.heap[w2.heap.size+1]?=φ (.loop rc):=by rw[eS];exact wK (by simp)
 have kT:W1.heap[w2.heap.size]?=φ (.deferred (φ [])):=by rw[eS];exact nB (wK (by simp))
 have fj:dS X.w X.gm X.b:=by
  rw[xw,xg,xb,eS];exact qw.grown (row:=ν) ((ϯ _ _ _).trans (ϯ _ _ _)) (by simp)
 have hgg:g<w2.heap.size:=qw.lt;have xn:X.n=cB (aB b):=by rw[hX];rfl
 have xo:X.e=λk=>decide (k=i):=by rw[hX];rfl
 have xp:X.np=b.pieces.length:=by unfold cY.np;rw[xb]
 have xgs:X.gs=w1.heap.size+1:=by rw[hX];rfl
 have xgo:X.go=w1.heap.size+1+1:=by rw[hX];rfl
 have xgn:X.gn=gn:=by rw[hX];rfl
 rw[<-eS];clear hX eS;have hZ:Bq X (λ_ W=>W.heap[w2.heap.size]?=φ (.deferred (φ []))/\W.heap[w2.heap.size+1]?=φ (.loop {rc with state:=.done,pending:=φ .ret})/\∃i,Bk W (X.s+2) 27 #[ζ (φ ⟨X.s+1,0,ν⟩) i X.np]):=by
  refine⟨λfull W hz=>hz.2.2,λfull W i hz=>?_,λm full W hlen hD=>?_⟩
  ·obtain⟨z1,z2,j,z3⟩:=hz
   exact⟨(Below.heap_setCell _ _ _ _ (by simp;omega)).trans z1,(Below.heap_setCell _ _ _ _ (by simp;omega)).trans z2,i,z3.set 0 _⟩
  ·have ew:=hD.gr
   rw[xw,xg] at ew;have pH:W.heap[w2.heap.size+1]?=φ (.loop rc):=(ew.block _ (by omega) (by simp;omega)).trans zZ
   have gh:W.heap[w2.heap.size]?=φ (.deferred (φ [])):=(ew.block _ (by omega) (by simp;omega)).trans kT
   have pI:=hD.lv;rw[xs,xp] at pI;have aN:=ew.size;rw[xl];refine Rh (n:=0) iD pH rfl ?_
   gi_wp2
   refine⟨_,Mn iD pH,?_⟩
   gi_wp2
   have xH:(W.putObj (w2.heap.size+1) (.loop {rc with state:=.busy})).heap[w2.heap.size+1]?=φ (.loop {rc with state:=.busy}):=Ŋ (by omega)
   refine⟨_,_,TU .ret xH,rfl,?_,Ŋ (by simp;omega),full.length,?_⟩
   ·exact(Á (by omega)).trans ((Á (by omega)).trans gh)
   ·exact(Á (by omega)).trans ((Á (by omega)).trans pI)
 have call:=TQ cD (by rw[xs];omega) hZ fj
 rw[xl,xgs,xgo,xgn,xw,xn,xo,xb,xp] at call;refine(callsIn_wide.2 call).mono ?_
 rintro e W2 ⟨⟨v,rfl⟩,(⟨full,vC,aO,aZ,_⟩ | ⟨vC,hD⟩)⟩
 ·refine⟨φ .ret,_,TY aZ,?_⟩
  gi_wp2
  refine⟨⟨w2.heap.size,_,rfl,(Á (by omega)).trans aO⟩,rfl,rfl,rfl,rfl,rfl,.inr ⟨by rw[vC];rfl,rfl⟩⟩
 ·have ew:=hD.gr
  rw[xw,xg] at ew;have pH:W2.heap[w2.heap.size+1]?=φ (.loop rc):=(ew.block _ (by omega) (by simp;omega)).trans zZ
  have gh:W2.heap[w2.heap.size]?=φ (.deferred (φ [])):=(ew.block _ (by omega) (by simp;omega)).trans kT
  refine⟨ν,_,MR iD pH,?_⟩
  exact⟨⟨w2.heap.size,_,rfl,(Á (by omega)).trans gh⟩,rfl,rfl,rfl,rfl,rfl,.inl ⟨vC,rfl⟩⟩
end
end Go.Jn
namespace Go.Jn
open Go Go.Proofs Go.Sim Go.Conc Go.Tw
def anw(hW:cg C ρ w w'){b o:Nat}(hab:ρ a b)(h:aj ρ (π (φ ⟨a,o,ν⟩)) v'):v'=π (φ ⟨b,o,ν⟩):=by
 cases h with
 |ptr ha=>
  rename_i q;obtain⟨q1,q2,q3⟩:=q;obtain⟨h1,h2,h3⟩:=ha;simp only at h1 h2 h3;subst h2 h3;rw[hW.fn _ _ _ h1 hab]
def JO(h:aV ρ t t')(hi:t[i]?=φ v):∃v',t'[i]?=φ v'/\aj ρ v v':=by
 rcases h.get? i with⟨h1,_⟩ | ⟨a,b,h1,h2,h3⟩
 ·rw[h1] at hi;cases hi
 ·rw[h1] at hi;cases hi;exact⟨b,h2,h3⟩
def QB(hW:cg C ρ w w')(h:aV ρ t t'){b o:Nat}(hab:ρ a b)(hi:t[i]?=φ (π (φ ⟨a,o,ν⟩))):t'[i]?=φ (π (φ ⟨b,o,ν⟩)):=by
 obtain⟨v',h1,h2⟩:=JO h hi;rw[h1,anw hW hab h2]
def anu{M:Sim.ay}(hW:cg C ρ w w')(hf:Fits M ρ w){r':Nat}(hr:ρ r r')(h:w.heap[r]?=φ (.deferred (φ []))):M.O r'/\w'.heap[r']?=φ (.deferred (φ [])):=by
 obtain⟨o',h1,h2⟩:=hW.obj _ _ _ hr h;cases h2;refine⟨(hf _ _ hr).resolve_right ?_,h1⟩
 rintro⟨_,o,ho,fo⟩;rw[h] at ho;cases ho;exact fo
section
variable {n N0 cL cN:Nat}{cX:Nat->Bool}{val:Nat->υ}{End:List Nat->Sim.ay->ϐ->Ψ->Prop}
def d121(p7:Nat):È:={target:=.fn (.func 121) #[π (φ ⟨p7,0,ν⟩)],args:=#[]}
def ZC{M:Sim.ay}{p7:Nat}{x:Array υ}{f7:Nat×Nat}(m7:M.has p7)(h7:w.heap[p7]?=φ (Ξ #[.chan (φ cL)] e7 f7))(hO:M.O r)(hr:w.heap[r]?=φ (.deferred (φ []))):
 Walk ϋ χ (W2 (Pm.mk ϋ n N0 cL cN cX val End)) M (aT ⟨120,t,k,[⟨.collected r,x⟩,d121 p7],.returning,.deferred,ν⟩ [cS ϋ]) w:=
 aqH hO hr λaa hk=>aqR m7 ((yA (by rintro rfl;rw[hr] at h7;cases h7)).trans ((hk.kept _ m7).trans h7)) rfl
def aqT{M:Sim.ay}{p6 p7:Nat}{x:Array υ}{f6 f7 fk:Nat×Nat}(m6:M.has p6)(m7:M.has p7)(mk:M.has pk)(h6:w.heap[p6]?=φ (Ξ #[.chan (φ cN)] e6 f6))(h7:w.heap[p7]?=φ (Ξ #[.chan (φ cL)] e7 f7))
 (hk:w.heap[pk]?=φ (Ξ #[val i] ek fk))(VY:cX i=θ)(hO:M.O r)(hr:w.heap[r]?=φ (.deferred (φ [])))(hs:t.size=18)(t2:t[2]?=φ (π (φ ⟨pk,0,ν⟩)))(t3:t[3]?=φ (π (φ ⟨p6,0,ν⟩))):
 Walk ϋ χ (W1 (Pm.mk ϋ n N0 cL cN cX val End) i) M (rg 120 t [.code (.region 3 qQ χ)] [⟨.collected r,x⟩,d121 p7] .deferred [cS ϋ]) w:=by
 refine iu ?_
 rw[aq8];obtain⟨o,ho,ag,hd,hg⟩:=acY;obtain⟨dir,hu⟩:=Da;refine dJ ho (cx hg) rfl (λaa hk=>⟨_,yz _ aa ag (cT t3) hu rfl (mH ((hk.kept _ m6).trans h6) rfl rfl),yx m6 _ rfl⟩) ?_
 rw[hd];obtain⟨o,ho,ag,hd,hg⟩:=acZ;refine dJ ho (cx hg) rfl (λaa IG=>⟨_,yz _ aa ag (cT ((bP (by omega)).trans t2)) ty3 rfl (mH ((IG.kept _ mk).trans hk) rfl rfl),yx mk _ rfl⟩) ?_
 rw[hd];suffices rest:∀T:Array υ,T[16]?=φ (.chan (φ cN))->T[17]?=φ (val i)->
  Walk ϋ χ (W1 (Pm.mk ϋ n N0 cL cN cX val End) i) M (rg 120 T [.inRegion qQ [2]] [⟨.collected r,x⟩,d121 p7] .deferred [cS ϋ]) w from
  rest _ ((bP (by omega)).trans (eX (by omega))) (eX (by simp[aA];omega))
 intro T h16 h17;obtain⟨o,ho,ag,hd,hg⟩:=ac0;have hx:aX T (.tmp 17)=val i:=cT h17;refine .stop λaa IG=>.inl ⟨VY,rfl,rfl,⟨μ #[],Gi ho (cx hg) rfl ((Yj T aa ag (cT h16)).trans (by rw[hx]))⟩,?_⟩
 have E8:ϧ (rg 120 T [.inRegion qQ [2]] [⟨.collected r,x⟩,d121 p7] .deferred [cS ϋ]) ω=
  rg 120 T [.inRegion qQ []] [⟨.collected r,x⟩,d121 p7] .deferred [cS ϋ]:=by
  simp[ϧ,đ,ho,hd]
 show Walk ϋ χ (W2 (Pm.mk ϋ n N0 cL cN cX val End)) M (ϧ (rg 120 T [.inRegion qQ [2]] [⟨.collected r,x⟩,d121 p7] .deferred [cS ϋ]) ω) aa;rw[E8];exact(jl (aqJ (ZC m7 h7 hO hr))).rely IG
def worker{M:Sim.ay}{lk l6 l7 p6 p7:Nat}{fk f6 f7:Nat×Nat}
 (hW:cg C0 ρ w w')(hg:ρ 0 0)(hf:Fits M ρ w)(hM:∀b,¬M.O b)(iU:∀b,M.has b->b<w'.heap.size)(hn:bO w.heap)
 (rb:ρ lb bk)(rk:ρ lk pk)(r6:ρ l6 p6)(r7:ρ l7 p7)(m6:M.has p6)(m7:M.has p7)(mk:M.has pk)
 (hB:B<=w.heap.size)(ah:aQ w B b pv bv tv)(ag:bT b 0=0)
 (c0: w.cell? ⟨lb,0,ν⟩=φ (ξ κ b.ab))(c1: w.cell? ⟨lb,1,ν⟩=φ pv)(c2: w.cell? ⟨lb,2,ν⟩=φ bv)(c3: w.cell? ⟨lb,3,ν⟩=φ tv)(ck: w.cell? ⟨lk,0,ν⟩=φ (ξ κ i))
 (h6:w'.heap[p6]?=φ (Ξ #[.chan (φ cN)] e6 f6))(h7:w'.heap[p7]?=φ (Ξ #[.chan (φ cL)] e7 f7))(hk:w'.heap[pk]?=φ (Ξ #[val i] ek fk))
 (xL:cX i=(search b (cB (aB b)) (λk=>decide (k=i)) b.pieces.length []).isNone):
 Walk ϋ χ (W1 (Pm.mk ϋ n N0 cL cN cX val End) i) M (born ϋ {target:=.fn (.func 120) #[π (φ ⟨p7,0,ν⟩),π (φ ⟨bk,0,ν⟩),π (φ ⟨pk,0,ν⟩),π (φ ⟨p6,0,ν⟩)],args:=#[]}) w':=by
 letI:=jC
 refine aqS λt hs t0 t1 t2 t3 t6 tu=>?_
 obtain⟨v6,hv6⟩:=sN ρ (.func (.func 121) #[] #[π (φ ⟨p7,0,ν⟩)]);have lb1:lb<w.heap.size:=hW.dL _ _ rb;have lk1:lk<w.heap.size:=hW.dL _ _ rk;have ptr:∀ {a b:Nat},ρ a b->aj ρ (π (φ ⟨a,0,ν⟩)) (π (φ ⟨b,0,ν⟩)):=λh=>.ptr ⟨h,rfl,rfl⟩
 have Fj:aV ρ #[π (φ ⟨l7,0,ν⟩),π (φ ⟨lb,0,ν⟩),π (φ ⟨lk,0,ν⟩),π (φ ⟨l6,0,ν⟩),ω,ω,v6,ω,ω,ω,ω,ω,ω,ω,ω,ω,ω,ω] t:=by
  refine⟨hs.symm,λj h1 h2=>?_⟩
  have hj:j<18:=by rw[<-hs];exact h2
  have hu:∀q,4<=q->q<18->q≠6->∀h:q<t.size,aj ρ ω t[q]:=by
   intro q h4 HU h6 h;have:=tu q h4 HU h6;rw[õ h] at this
   rw[Ϟ this];exact .undef
  have he:∀ {q:Nat} {v:υ} (h:q<t.size),t[q]?=φ v->t[q]=v:=λh e=>by rw[õ h] at e;exact Ϟ e
  have:j=0\/j=1\/j=2\/j=3\/j=6\/(4<=j/\j≠6):=by omega
  rcases this with rfl|rfl|rfl|rfl|rfl| ⟨h4,h6⟩
  ·rw[he _ t0];exact ptr r7
  ·rw[he _ t1];exact ptr rb
  ·rw[he _ t2];exact ptr rk
  ·rw[he _ t3];exact ptr r6
  ·rw[he _ t6];exact hv6
  ·have:=hu j h4 hj h6 h2
   have:j=4\/j=5\/j=7\/j=8\/j=9\/j=10\/j=11\/j=12\/j=13\/j=14\/j=15\/j=16\/j=17:=by omega
   rcases this with rfl|rfl|rfl|rfl|rfl|rfl|rfl|rfl|rfl|rfl|rfl|rfl|rfl<;>assumption
 have hl:∀T,fu (@Tw.prog jC) [wa,uC] (GV b i (π (φ ⟨l7,0,ν⟩)) (π (φ ⟨lb,0,ν⟩)) (π (φ ⟨lk,0,ν⟩)) (π (φ ⟨l6,0,ν⟩))) ⟨#[π (φ ⟨l7,0,ν⟩),π (φ ⟨lb,0,ν⟩),π (φ ⟨lk,0,ν⟩),π (φ ⟨l6,0,ν⟩),ω,ω,v6,ω,ω,ω,ω,ω,ω,ω,ω,ω,ω,ω],[cQ]⟩ (bq w T):=λT=>
  middle (B:=B) hB (ah.still λ_ _=>rfl) ag c0 c1 c2 c3 ck lb1 lk1
 refine pieces (S:=⟨.region 3 qQ χ,[],[d121 p7],[cS ϋ],.deferred⟩) (cs:=[wa,uC]) ?_ rfl rfl ?_ hl hW hg hf iU hn Fj ?_
 ·intro c hc
  simp only[Ϧ,Λ,or_false] at hc;rcases hc with rfl|rfl
  ·exact adE
  ·exact adF
 ·rintro e a w ⟨_,_,_,_,_,_,⟨_,rfl⟩ | ⟨_,rfl⟩⟩
  ·exact .inl rfl
  ·exact .inr rfl
 ·rintro e bJ aa b6 aM fq aF D' ⟨⟨r,x,hd,hr⟩,us,u0,u1,u2,u3,Ca⟩ cr eS iz ER fD qF qJ hD
  rw[hd] at hD;obtain⟨r',x',rr,rfl⟩:∃r' x',aM r r'/\D'=[⟨.collected r',x'⟩,d121 p7]:=by
   cases hD with
   |cons h1 h2=>
    cases h1 with
    |collected hr=>rw[zh h2];exact⟨_,_,hr,rfl⟩
  obtain⟨hO,E5⟩:=anu eS iz rr hr;have kept:∀q,M.has q->aF.heap[q]?=w'.heap[q]?:=λq hq=>cr.jd q hq λa ha=>((hf a q ha).resolve_left (hM q)).2
  have Im:∀q,M.has q->b6.has q:=λq hq=>ay.vb cr.R cr.O hq
  refine⟨λhe=>?_,λhe tW=>?_⟩
  ·subst he
   obtain⟨Ad,_⟩:=Ca.resolve_right (by rintro⟨_,h⟩;cases h)
   refine aqT (Im _ m6) (Im _ m7) (Im _ mk) ((kept _ m6).trans h6) ((kept _ m7).trans h7) ((kept _ mk).trans hk) (by rw[xL,Ad];rfl) hO E5 (qJ.1.symm.trans us) (QB eS qJ (cr.le _ _ rk) u2) (QB eS qJ (cr.le _ _ r6) u3)
  ·subst he
   obtain⟨Wl,_⟩:=Ca.resolve_left (by rintro⟨_,h⟩;cases h)
   refine Walk.mono (ZC (Im _ m7) ((kept _ m7).trans h7) hO E5) λM g w h=>.inr ⟨?_,h⟩
   show cX i=χ;rw[xL];cases e:search b (cB (aB b)) (λk=>decide (k=i)) b.pieces.length [] with
   |none=>rw[e] at Wl;cases Wl
   |some _=>rfl
end
end Go.Jn
namespace Go.Jn
open Go Go.Sim Go.Conc
open Go.ConcN (sumTo upd sumTo_upd upd_ne upd_same)
def apG(n:Nat):sumTo n (λ_=>0)=0:=by
 induction n with
 |zero=>rfl
 |succ n ih=>simp only[sumTo,ih]
def afM{X:Pm}{t:Θ}{q:Nat->Nat}(hF:Fr X.P gs w t q g)(hN0:X.N0=gs.size)
 (iU:∀b,M.has b->b<w.heap.size/\b≠X.cL/\b≠X.cN)(bh:g.status=.running)(hW:Walk X.P θ (StopA X X.n) M g w)
 (hL:w.heap[X.cL]?=φ (.chan 0 #[] χ 0 0 χ))(hN:w.heap[X.cN]?=φ (.chan 0 #[] χ 0 0 χ))(aw:X.cL≠X.cN)(hT:mE N t)(zN:N<=X.cN):
 ∃G,FI X w gs w t G:=by
 obtain⟨T,mM⟩:=hW.tree;have h0:0<gs.size:=(ϛ.1 hF.zero).1
 have known:∀k a,touchAt t k=φ a->a.loc.isMemory=θ->Knows t 0 k:=λk a ha hm=>(hF.il.known k a ha hm).elim id λh=>h.1.elim
 refine⟨{j:=0,st:=λ_=>.no,mp:=.spawn,cp:=.no,act:=λi=>if i=0 then φ ⟨M,g,w⟩ else ν,q:=q,tr:=λ_=>T},?_⟩
 refine⟨hN0.symm,by omega,Nat.zero_le _,λh=>(by cases h),⟨λ⟨_,_,e⟩=>(by rcases e with e|e<;>cases e),λh=>(by cases h)⟩,λi _=>⟨λ_=>Nat.zero_le _,λ_=>rfl⟩,⟨g,hF.zero,M,w,rfl,bh,mM⟩,λi hi=>absurd hi (Nat.not_lt_zero _),λh=>(by cases h),
  λi x h1 _ hx=>hF.lv i x h1 hx,λi h1 _=>?_,λi hi=>?_,apG _,λ_ _ _=>rfl,λ⟨_,_,e⟩=>(by cases e),λ⟨_,e⟩=>(by cases e),λ⟨_,_,e⟩=>(by cases e),⟨λi j hj=>?_,λi i' j j' hii hj rQ=>?_,λi j hj=>?_,hF.il.seen,hF.nd,hF.il.clean,λi j hj k a ha b hb _=>?_,?_,?_⟩,
  ⟨0,hL⟩,⟨0,hN⟩,aw,⟨ϊ _,rfl,rfl,rfl⟩,λk a ha hm i _ _=>known k a ha hm,λk i hi=>?_,λi _ hq=>(by cases hq),λ_ k a ha=>?_,λh=>(by cases h)⟩
 ·exact if_neg (by omega)
 ·exact if_neg (by omega)
 ·by_cases e:i=0
  ·simp only[e,if_true,č] at hj
   subst hj;exact bR.refl _ _
  ·simp only[e,if_false] at hj;cases hj
 ·by_cases e:i=0
  ·have e':i'≠0:=λx=>hii (e.trans x.symm)
   simp only[e',if_false] at rQ;cases rQ
  ·simp only[e,if_false] at hj;cases hj
 ·by_cases e:i=0
  ·simp only[e,if_true,č] at hj
   subst hj;exact iU
  ·simp only[e,if_false] at hj;cases hj
 ·by_cases e:i=0
  ·subst e
   refine known k a ha ?_
   rcases hb with hb| ⟨c,hb,_⟩<;>rw[hb]<;>rfl
  ·simp only[e,if_false] at hj;cases hj
 ·exact(ϛ.1 hL).1
 ·exact(ϛ.1 hN).1
 ·unfold Trace.g? at hi
  obtain⟨op,ag,e⟩:=Č.1 hi;rw[<-e];exact hF.gb op (ļ ag)
 ·obtain⟨op,ag,cH⟩:=touch_of ha
  exact hT op (mem_of_getElem? ag) a cH _ zN
end Go.Jn
namespace Go.Jn
open Go Go.Proofs Go.Sim Go.Conc
def oY:ϖ:=aS (aS (aS BB))
def rv:ϖ:=bp (aS BB)
def p0:Array Í:=opsOf (bp BB)
def p5:Array Í:=opsOf (bp (bp oY))
def wE:ϖ:=so (so (aS (bp oY)))
def p6:Array Í:=opsOf (bp wE)
def p7:Array Í:=opsOf (bp (so (bp (aS (aS wE)))))
def p8:Array Í:=opsOf (aS (so (bp (aS (aS wE)))))
def p9:Array Í:=opsOf (aS (aS (aS wE)))
def yy:ϖ:=aS oY
def JI:Array Í:=opsOf (bp yy)
def CU:Array Í:=opsOf (bp (aS yy))
def vN:ϖ:=aS (aS yy)
def F5:Array Í:=opsOf (bp (bp vN))
def rq:ϖ:=so (so (aS (bp vN)))
def vL:Array Í:=opsOf (bp rq)
def JJ:Array Í:=opsOf (bp (so (aS (aS rq))))
def sj:Array Í:=opsOf (aS (so (aS (aS rq))))
def tB:ϖ:=aS vN
def CV:Array Í:=opsOf (bp tB)
def AP:Array Í:=opsOf (bp (aS tB))
def SL:Tryz.f38.body=φ (.seq (.region 0 p0 χ) (.seq rv (.seq (.region 4 jB θ) oY))):=rfl
def anJ:oY=.seq (.seq (.region 5 p5 χ) (.block 0 (.loop wE))) yy:=rfl
def Sj:wE=.seq (.region 6 p6 χ) (.seq (.cond (.tmp 25) .skip (.exit 0)) (.seq (.block 1 (.seq (.region 7 p7 χ) (.region 8 p8 χ))) (.region 9 p9 χ))):=rfl
def anG:yy=.seq (.region 10 JI χ) (.seq (.region 11 CU χ) vN):=rfl
def anH:vN=.seq (.seq (.region 12 F5 χ) (.block 2 (.loop rq))) tB:=rfl
def anI:tB=.seq (.region 16 CV χ) (.seq (.region 17 AP χ) .ret):=rfl
def m00:∃o,p0[0]?=φ o/\o.op=.box 26 (.tmp 0)/\o.dst=φ 1/\o.guard=ν:=⟨_,rfl,rfl,rfl,rfl⟩
def m01:∃o,p0[1]?=φ o/\o.op=.assign (.const (ζ ν 0 0))/\o.dst=φ 2/\o.guard=ν:=⟨_,rfl,rfl,rfl,rfl⟩
def m02:∃o,p0[2]?=φ o/\o.op=.assign (.const (ξ κ 0))/\o.dst=φ 3/\o.guard=ν:=⟨_,rfl,rfl,rfl,rfl⟩
def m50:∃o,p5[0]?=φ o/\o.op=.fieldAddr 26 (.tmp 1) 2/\o.dst=φ 21/\o.guard=ν:=⟨_,rfl,rfl,rfl,rfl⟩
def m51:∃o,p5[1]?=φ o/\o.op=.load 23 (.tmp 21)/\o.dst=φ 22/\o.guard=ν:=⟨_,rfl,rfl,rfl,rfl⟩
def m52:∃o,p5[2]?=φ o/\o.op=.call {callee:=.builtin .len,args:=#[.tmp 22],argTypes:=#[23]}/\o.dst=φ 23/\o.guard=ν:=⟨_,rfl,rfl,rfl,rfl⟩
def m53:∃o,p5[3]?=φ o/\o.op=.move (.const (ξ κ 0))/\o.dst=φ 24/\o.guard=ν:=⟨_,rfl,rfl,rfl,rfl⟩
def Xt:∃o,p6[0]?=φ o/\o.op=.binOp .lss 3 (.tmp 24) (.tmp 23) 3/\o.dst=φ 25/\o.guard=ν:=⟨_,rfl,rfl,rfl,rfl⟩
def m70:∃o,p7[0]?=φ o/\o.op=.move (.tmp 24)/\o.dst=φ 26/\o.guard=ν:=⟨_,rfl,rfl,rfl,rfl⟩
def m71:∃o,p7[1]?=φ o/\o.op=.alloc 3/\o.dst=φ 8/\o.guard=ν:=⟨_,rfl,rfl,rfl,rfl⟩
def m72:∃o,p7[2]?=φ o/\o.op=.store 3 (.tmp 8) (.tmp 26)/\o.dst=ν/\o.guard=ν:=⟨_,rfl,rfl,rfl,rfl⟩
def m80:∃o,p8[0]?=φ o/\o.op=.makeFunc (.func 120) #[] #[.tmp 7,.tmp 1,.tmp 8,.tmp 6]/\o.dst=φ 27/\o.guard=ν:=⟨_,rfl,rfl,rfl,rfl⟩
def m81:∃o,p8[1]?=φ o/\o.op=.go {callee:=.value (.tmp 27),args:=#[],argTypes:=#[]}/\o.dst=ν/\o.guard=ν:=⟨_,rfl,rfl,rfl,rfl⟩
def m90:∃o,p9[0]?=φ o/\o.op=.binOp .add 3 (.tmp 24) (.const (ξ κ 1)) 3/\o.dst=φ 28/\o.guard=ν:=⟨_,rfl,rfl,rfl,rfl⟩
def m91:∃o,p9[1]?=φ o/\o.op=.move (.tmp 28)/\o.dst=φ 24/\o.guard=ν:=⟨_,rfl,rfl,rfl,rfl⟩
def akH:∃o,JI[0]?=φ o/\o.op=.makeFunc (.func 124) #[] #[.tmp 1,.tmp 7,.tmp 6]/\o.dst=φ 29/\o.guard=ν:=⟨_,rfl,rfl,rfl,rfl⟩
def akI:∃o,JI[1]?=φ o/\o.op=.go {callee:=.value (.tmp 29),args:=#[],argTypes:=#[]}/\o.dst=ν/\o.guard=ν:=⟨_,rfl,rfl,rfl,rfl⟩
def akJ:∃o,CU[0]?=φ o/\o.op=.assign (.const (ζ ν 0 0))/\o.dst=φ 9/\o.guard=ν:=⟨_,rfl,rfl,rfl,rfl⟩
def akK:∃o,F5[0]?=φ o/\o.op=.load 154 (.tmp 6)/\o.dst=φ 30/\o.guard=ν:=⟨_,rfl,rfl,rfl,rfl⟩
def PH:∃o,vL[0]?=φ o/\o.op=.recv 154 (.tmp 30) θ/\o.dst=φ 31/\o.guard=ν:=⟨_,rfl,rfl,rfl,rfl⟩
def Xs:∃o,vL[1]?=φ o/\o.op=.extract (.tmp 31) 1/\o.dst=φ 32/\o.guard=ν:=⟨_,rfl,rfl,rfl,rfl⟩
def akL:∃o,JJ[0]?=φ o/\o.op=.extract (.tmp 31) 0/\o.dst=φ 33/\o.guard=ν:=⟨_,rfl,rfl,rfl,rfl⟩
def akM:∃o,JJ[1]?=φ o/\o.op=.assign (.tmp 33)/\o.dst=φ 10/\o.guard=ν:=⟨_,rfl,rfl,rfl,rfl⟩
def akS:∃o,AP[0]?=φ o/\o.op=.move (.tmp 9)/\o.dst=φ 40/\o.guard=ν:=⟨_,rfl,rfl,rfl,rfl⟩
def akT:∃o,AP[1]?=φ o/\o.op=.assign (.tmp 40)/\o.dst=φ 2/\o.guard=ν:=⟨_,rfl,rfl,rfl,rfl⟩
def akU:∃o,AP[2]?=φ o/\o.op=.assign (.const (ξ κ 0))/\o.dst=φ 3/\o.guard=ν:=⟨_,rfl,rfl,rfl,rfl⟩
def s0:p0.size=3:=rfl
def s5:p5.size=4:=rfl
def s6:p6.size=1:=rfl
def s7:p7.size=3:=rfl
def s8:p8.size=2:=rfl
def s9:p9.size=2:=rfl
def s10:JI.size=2:=rfl
def s11:CU.size=1:=rfl
def s12:F5.size=1:=rfl
def Yl:vL.size=2:=rfl
def s14:JJ.size=2:=rfl
def s17:AP.size=3:=rfl
def Ja:∃i,ϋ.info? 3=φ i/\i.zero=φ (ξ κ 0)/\i.size=1:=⟨_,rfl,rfl,rfl⟩
def anF:Tryz.f38.results=#[.tmp 2,.tmp 3]:=rfl
def al7:(Tryz.f38.name== "runtime.NumGoroutine")=χ:=by decide+kernel
def adG:C0.clean rv:=by show cC ϋ G0 rv=θ;decide+kernel
def adz:C0.clean (.region 15 sj χ):=by show cC ϋ G0 (.region 15 sj χ)=θ;decide+kernel
def adA:C0.clean (.region 16 CV χ):=by show cC ϋ G0 (.region 16 CV χ)=θ;decide+kernel
def anU(t:Array υ)(w:Ψ)(ho:o.op=.box e (.tmp n))(hn:t.getD n ω=v):
 (execOp (aX t) o).runT P w #[]=(.ok (.value (π (φ ⟨w.heap.size,0,ν⟩))) (w.alloc (.cells v.cells e)),#[]):=by
 have e1:aX t (.tmp n)=v:=hn;unfold execOp;rw[ho]
 simp only[Instr.box,e1,newVar,newRow,newObj,bind,ϫ,Ϥ,pure,World.alloc]
def af7{G:Nat->Bool}(hG:∀g,G g=θ->ρ g g)(h:aV ρ tl t):re G ρ (aX tl) (aX t):=by
 have:=Ec (f:=0) (k:=[]) (k':=[]) (d:=[]) (d':=[]) (m:=.run) (kd:=.normal) (fl:=.normal) (r:=ν) (r':=ν) hG h;rwa[uU,uU] at this
section
variable {P:ϕ}{F:Array Func}{C:bX}{G:Nat->Bool}
def ZB(E:Env P F C G){Stop:Sim.ay->ϐ->Ψ->Prop}{M:Sim.ay}
 (ho:ops[i]?=φ o)(hg:Ä o (Ê ops t)=θ)(hk:(kd==.early)=χ)(jy:k8 P G o=θ)(ht:aV ρ tl t)(hW:cg C ρ wl w')(hG:∀g,G g=θ->ρ g g)(hf:Fits M ρ wl)(iU:∀b,M.has b->b<w'.heap.size)
 {QL:υ->Ψ->Prop}(hl:∀T,∃v aa,(execOp (aX tl) o).run (tw P F) (bq wl T)=.ok (.value v) aa/\QL v aa)
 (h:∀v v' yG aM b6 aF,QL v yG->aj aM v v'->cg C aM yG aF->iO M ρ wl w' b6 aM yG aF->Fits b6 aM yG->(∀b,b6.has b->b<aF.heap.size)->Walk P main Stop b6 (rg f (aA t o.dst v') (.inRegion ops rest::k) D kd cs) aF):
 Walk P main Stop M (rg f t (.inRegion ops (i::rest)::k) D kd cs) w':=by
 refine Dg ho hg hk λaa hw=>?_
 have hR:=hW.keep hf hw
 let T:Tape:=λj q=>aa.tape (aa.drawn+(j - wl.drawn)) q
 obtain⟨v,yG,hr,hq⟩:=hl T;have eL:iP C ρ (bq wl T) aa:=(hR.left (aa:=bq wl T) rfl).rel λj q=>by
  show aa.tape (aa.drawn+(wl.drawn+j - wl.drawn)) q=aa.tape (aa.drawn+j) q;rw[Nat.add_sub_cancel_left]
 obtain⟨aM,n',aF,eM,k1,k2,k3,k4,k5⟩:=ep.execOp E o jy (af7 hG ht) ρ ρ.le_refl (bq wl T) aa #[] eL (.value v) yG hr;cases k2 with
 |value hv=>
  rename_i v';have ER:∀b,M.has b->b<aa.heap.size:=λb hb=>ϟ (iU b hb) hw.size
  have MX:∀b,b<aa.heap.size->¬M.O b->∀a,ρ a b->∃o,wl.heap[a]?=φ o/\mw o:=λb _ hb a ha=>((hf a b ha).resolve_left hb).2
  have Hm:eZ M aa aF eM:=by
   refine⟨k4.gO,λb hb hO=>k4.jd b hb (MX b hb hO),k4.nf,k4.yo,k4.yp,λe he=>?_⟩
   rcases k5 e he with⟨b,a,e1,e2,e3,e4⟩ |x
   ·refine .inl ⟨b,e1,e2,?_⟩
    rcases k4.new a b e3 with x| ⟨x,y⟩
    ·rcases hf a b x with o| ⟨r,o,ho,fo⟩
     ·exact⟨.inl (.inl o),λ_=>.inl o⟩
     ·refine⟨.inr r,λFl=>?_⟩
      rcases e4 with e4| ⟨o',pJ,e4⟩
      ·have:=hW.dL a b x
       have e4:wl.heap.size<=a:=e4;omega
      ·have e5:wl.heap[a]?=φ o':=pJ
       rw[ho] at e5;obtain rfl:=Ϟ e5;exact absurd fo (e4 Fl)
    ·have hb:=k3.dq a b e3
     exact⟨.inl (.inr ⟨y,hb⟩),λ_=>.inr ⟨y,hb⟩⟩
   ·exact .inr x
  have vG:(execOp (aX t) o).runT P aa #[]=(.ok (.value v') aF,eM):=by rw[k1];simp
  refine⟨v',aF,eM,.inl vG,Hm,?_⟩
  refine h v v' yG aM (M.grow aa aF) aF hq hv ⟨k3.dL,k3.dq,k3.fn,k3.inj,k3.obj⟩ ((iO.keep hw).trans (ry:=M.grow aa aF) ⟨k4.le,k4.new,k4.oa,k4.gO,k4.lD,λb hb Iz=>k4.jd b (ER b hb) Iz,rfl,λ_ x=>.inl x,λ_ x=>x,k4.nf,k4.yo,k4.yp⟩ iU) (λa b hab=>?_) (BO Hm ER)
  rcases k4.new a b hab with x| ⟨x,y⟩
  ·rcases hf a b x with o| ⟨r,o,ho,fo⟩
   ·exact .inl (.inl o)
   ·exact .inr ⟨r,o,k4.lD a o ho fo,fo⟩
  ·exact .inl (.inr ⟨y,k3.dq a b hab⟩)
end
end Go.Jn
namespace Go.Jn
open Go Go.Proofs Go.Sim Go.Conc Go.Tw
def ext(ρ:Ren)(a0 b0:Nat):Ren:=λa b=>ρ a b\/(a=a0/\b=b0)
def zk(ρ:Ren)(a0 b0:Nat):ρ.le (ext ρ a0 b0):=λ_ _ h=>.inl h
def wS{o:Obj}(hW:cg C ρ wl w')(hq:w'.heap[q]?=φ o')(Aa:∀a,¬ρ a q)(ho:jq C (ext ρ wl.heap.size q) o o'):
 cg C (ext ρ wl.heap.size q) (wl.alloc o) w' where
 dL a b h:=by
  rw[fy];rcases h with h| ⟨rfl,rfl⟩
  ·have:=hW.dL a b h;omega
  ·omega
 dq a b h:=by
  rcases h with h| ⟨rfl,rfl⟩
  ·exact hW.dq a b h
  ·exact(ϛ.1 hq).1
 fn a b b' h h':=by
  rcases h with h| ⟨rfl,rfl⟩
  ·rcases h' with h'| ⟨rfl,rfl⟩
   ·exact hW.fn a b b' h h'
   ·have:=hW.dL _ _ h;omega
  ·rcases h' with h'| ⟨_,rfl⟩
   ·have:=hW.dL _ _ h';omega
   ·rfl
 inj a a' b h h':=by
  rcases h with h| ⟨rfl,rfl⟩
  ·rcases h' with h'| ⟨rfl,rfl⟩
   ·exact hW.inj a a' b h h'
   ·exact absurd h (Aa a)
  ·rcases h' with h'| ⟨rfl,_⟩
   ·exact absurd h' (Aa a')
   ·rfl
 obj a b x h hx:=by
  rcases h with h| ⟨rfl,rfl⟩
  ·rw[lz (hW.dL a b h)] at hx
   obtain⟨y,h1,h2⟩:=hW.obj a b x h hx;exact⟨y,h1,h2.mono (zk ρ _ _)⟩
  ·rw[kQ] at hx
   cases hx;exact⟨o',hq,ho⟩
def uQ(hW:cg C ρ wl w')(hs:w'.heap.size<=bz.heap.size)(hk:∀a b,ρ a b->bz.heap[b]?=w'.heap[b]?):cg C ρ wl bz where
 dL:=hW.dL
 dq a b h:=ϟ (hW.dq a b h) hs
 fn:=hW.fn
 inj:=hW.inj
 obj a b o h ho:=by
  obtain⟨o',h1,h2⟩:=hW.obj a b o h ho;exact⟨o',(hk a b h).trans h1,h2⟩
structure LW(b:eR)(ρ:Ren)(wl:Ψ)(pv bv tv:υ)(B lb l6 l7 bk p6 p7:Nat)(M:Sim.ay)(w':Ψ):Prop where
 core:cg C0 ρ wl w'
 iy:ρ 0 0
 nb:bO wl.heap
 has:∀a q,ρ a q->M.has q
 fixed:∀a q,ρ a q->∃o,wl.heap[a]?=φ o/\mw o
 rb:ρ lb bk
 r6:ρ l6 p6
 r7:ρ l7 p7
 hB:B<=wl.heap.size
 book:aQ wl B b pv bv tv
 c0: wl.cell? ⟨lb,0,ν⟩=φ (ξ κ b.ab)
 c1: wl.cell? ⟨lb,1,ν⟩=φ pv
 c2: wl.cell? ⟨lb,2,ν⟩=φ bv
 c3: wl.cell? ⟨lb,3,ν⟩=φ tv
structure St(b:eR)(ρ:Ren)(wl:Ψ)(pv bv tv:υ)(B lb l6 l7 bk p6 p7 cN cL n NB:Nat)(wB:Ψ)(M:Sim.ay)(w:Ψ):Prop where
 lw:LW b ρ wl pv bv tv B lb l6 l7 bk p6 p7 M w
 low:∀q,M.has q->q<w.heap.size
 m6:M.has p6
 m7:M.has p7
 mb:M.has bk
 h6:w.heap[p6]?=φ (Ξ #[.chan (φ cN)] 154 (0,0))
 h7:w.heap[p7]?=φ (Ξ #[.chan (φ cL)] 155 (0,0))
 hb:∃bc e fb A c,w.heap[bk]?=φ (.cells bc e fb)/\bc[2]?=φ (.slice A n c)
 old:∀q,q<NB->M.has q/\w.heap[q]?=wB.heap[q]?
 nb:NB<=w.heap.size
 nc:¬M.has cN/\¬M.has cL
 lc:cN<w.heap.size/\cL<w.heap.size
section
variable {b:eR}{ρ:Ren}{wl wB w bz:Ψ}{pv bv tv:υ}{B lb l6 l7 bk p6 p7 cN cL n NB:Nat}{M M':Sim.ay}
def St.to(h:(St b ρ wl pv bv tv B lb l6 l7 bk p6 p7 cN cL n NB wB) M w)(hs:w.heap.size<=bz.heap.size)(hk:∀q,M.has q->bz.heap[q]?=w.heap[q]?)(hM:∀q,M.has q->M'.has q)(hl:∀q,M'.has q->q<bz.heap.size)(hc:¬M'.has cN/\¬M'.has cL):(St b ρ wl pv bv tv B lb l6 l7 bk p6 p7 cN cL n NB wB) M' bz:=by
 obtain⟨⟨core,iy,nb,has,fixed,rb,r6,r7,hB,book,c0,c1,c2,c3⟩,low,m6,m7,mb,h6,h7,⟨bc,e,fb,A,c,ai,an⟩,old,eQ,nc,lc⟩:=h;exact⟨⟨uQ core hs λa q hq=>hk q (has a q hq),iy,nb,λa q hq=>hM q (has a q hq),fixed,rb,r6,r7,hB,book,c0,c1,c2,c3⟩,hl,hM _ m6,hM _ m7,hM _ mb,(hk _ m6).trans h6,(hk _ m7).trans h7,⟨bc,e,fb,A,c,(hk _ mb).trans ai,an⟩,
  λq hq=>⟨hM q (old q hq).1,(hk q (old q hq).1).trans (old q hq).2⟩,ϡ eQ hs,hc,ϟ lc.1 hs,ϟ lc.2 hs⟩
def St.keep(h:(St b ρ wl pv bv tv B lb l6 l7 bk p6 p7 cN cL n NB wB) M w)(k:bR M w bz):(St b ρ wl pv bv tv B lb l6 l7 bk p6 p7 cN cL n NB wB) M bz:=h.to k.size k.kept (λ_ h=>h) (λq hq=>ϟ (h.low q hq) k.size) h.nc
def St.shared(h:(St b ρ wl pv bv tv B lb l6 l7 bk p6 p7 cN cL n NB wB) M w):(St b ρ wl pv bv tv B lb l6 l7 bk p6 p7 cN cL n NB wB) M.shared w:=h.to (ϊ _) (λ_ _=>rfl) (λ_ h=>.inr h) (λq hq=>h.low q (hq.resolve_left id)) ⟨λx=>h.nc.1 (x.resolve_left id),λx=>h.nc.2 (x.resolve_left id)⟩
def St.alloc(h:(St b ρ wl pv bv tv B lb l6 l7 bk p6 p7 cN cL n NB wB) M w)(o:Obj):(St b ρ wl pv bv tv B lb l6 l7 bk p6 p7 cN cL n NB wB) (M.grow w (w.alloc o)) (w.alloc o):=by
 refine h.to (by rw[fy];omega) (λq hq=>lz (h.low q hq)) (λq hq=>hq.imp .inl id) (λq hq=>?_) ⟨λhq=>?_,λhq=>?_⟩
 ·rw[fy]
  rcases hq with(hq|hq) |hq
  ·have:=h.low q (.inl hq);omega
  ·rw[fy] at hq;omega
  ·have:=h.low q (.inr hq);omega
 ·rcases hq with(hq|hq) |hq
  ·exact h.nc.1 (.inl hq)
  ·have:=h.lc.1;omega
  ·exact h.nc.1 (.inr hq)
 ·rcases hq with(hq|hq) |hq
  ·exact h.nc.2 (.inl hq)
  ·have:=h.lc.2;omega
  ·exact h.nc.2 (.inr hq)
end
def sr(i:Nat):υ:=ξ κ i
def Zq{b c:Nat}(h1:t[a]?=φ x)(h2:t[b]?=φ y)(h3:t[c]?=φ z):(#[Operand.tmp a,.tmp b,.tmp c].map (aX t))=#[x,y,z]:=by
 have e1:aX t (.tmp a)=x:=cT h1;have e2:aX t (.tmp b)=y:=cT h2;have e3:aX t (.tmp c)=z:=cT h3;simp only[Ţ,ō,Ŏ,e1,e2,e3]
def Zr{b c:Nat}{u:υ}(h1:t[a]?=φ x)(h2:t[b]?=φ y)(h3:t[c]?=φ z)(h4:t[d]?=φ u):(#[Operand.tmp a,.tmp b,.tmp c,.tmp d].map (aX t))=#[x,y,z,u]:=by
 have e1:aX t (.tmp a)=x:=cT h1;have e2:aX t (.tmp b)=y:=cT h2;have e3:aX t (.tmp c)=z:=cT h3;have e4:aX t (.tmp d)=u:=cT h4;simp only[Ţ,ō,Ŏ,e1,e2,e3,e4]
section
variable {b:eR}{ρ:Ren}{wl wB:Ψ}{pv bv tv:υ}{B lb l6 l7 bk p6 p7 cN cL n N0 NB:Nat}{cX:Nat->Bool}{End:List Nat->Sim.ay->ϐ->Ψ->Prop}
structure kO(bk p6 p7:Nat)(t:Array υ):Prop where
 sz:t.size=41
 t1:t[1]?=φ (π (φ ⟨bk,0,ν⟩))
 t6:t[6]?=φ (π (φ ⟨p6,0,ν⟩))
 t7:t[7]?=φ (π (φ ⟨p7,0,ν⟩))
def kO.put(h:kO bk p6 p7 t)(hd:d≠1/\d≠6/\d≠7):kO bk p6 p7 (aA t (φ d) v):=
 ⟨by simp[aA,h.sz],(bP hd.1).trans h.t1,(bP hd.2.1).trans h.t6,(bP hd.2.2).trans h.t7⟩
def apf(xL:∀i,cX i=(search b (cB (aB b)) (λk=>decide (k=i)) b.pieces.length []).isNone)(ag:bT b 0=0){M:Sim.ay}(h:(St b ρ wl pv bv tv B lb l6 l7 bk p6 p7 cN cL n NB wB) M w)(mk:M.has pk)(hk:w.heap[pk]?=φ (Ξ #[ξ κ i] 3 (0,0)))(Aa:∀a,¬ρ a pk):
 Walk ϋ χ (W1 (Pm.mk ϋ n N0 cL cN cX sr End) i) M.shared (born ϋ {target:=.fn (.func 120) #[π (φ ⟨p7,0,ν⟩),π (φ ⟨bk,0,ν⟩),π (φ ⟨pk,0,ν⟩),π (φ ⟨p6,0,ν⟩)],args:=#[]}) w:=by
 have hW:=wS (o:=.cells #[ξ κ i] 3 (0,1)) h.lw.core hk Aa (.cells 3 ⟨rfl,λj h1 h2=>by
  have:j=0:=by simp at h1;omega
  subst this;exact .int _ _⟩ (.inr ⟨rfl,by simp⟩))
 have st:=(Δ.refl wl).alloc h.lw.hB (Ξ #[ξ κ i] 3 (0,1));have old:∀ {j:Nat} {v:υ},wl.cell? ⟨lb,j,ν⟩=φ v->(wl.alloc (Ξ #[ξ κ i] 3 (0,1))).cell? ⟨lb,j,ν⟩=φ v:=λhv=>(ù wl _ _ (h.lw.core.dL _ _ h.lw.rb)).trans hv
 refine worker (val:=sr) (ρ:=ext ρ wl.heap.size pk) (w:=wl.alloc (Ξ #[ξ κ i] 3 (0,1))) (b:=b) (pv:=pv) (bv:=bv) (tv:=tv) (B:=B) (lb:=lb) (lk:=wl.heap.size) (l6:=l6) (l7:=l7) hW (.inl h.lw.iy) ?_ (λ_ h=>h) (λq hq=>h.low q (hq.resolve_left id)) ?_ (.inl h.lw.rb) (.inr ⟨rfl,rfl⟩) (.inl h.lw.r6) (.inl h.lw.r7) (.inr h.m6) (.inr h.m7) (.inr mk) (by rw[fy];exact Aks h.lw.hB) (h.lw.book.still st) ag (old h.lw.c0) (old h.lw.c1) (old h.lw.c2) (old h.lw.c3) ?_ h.h6 h.h7 hk (xL i)
 ·rintro a q (hq| ⟨rfl,rfl⟩)
  ·obtain⟨o,ho,fo⟩:=h.lw.fixed a q hq
   exact .inr ⟨h.lw.has a q hq,o,(lz (h.lw.core.dL _ _ hq)).trans ho,fo⟩
  ·exact .inr ⟨mk,_,kQ,⟨rfl,by simp⟩⟩
 ·exact h.lw.nb.push (λh=>h)
 ·exact mH kQ rfl rfl
def spawns(xL:∀i,cX i=(search b (cB (aB b)) (λk=>decide (k=i)) b.pieces.length []).isNone)(ag:bT b 0=0)(hn:n<2 ^ 61)
 (cont:∀t M w,kO bk p6 p7 t->(St b ρ wl pv bv tv B lb l6 l7 bk p6 p7 cN cL n NB wB) M w->Walk ϋ θ (oB (Pm.mk ϋ n N0 cL cN cX sr End) n []) M (rg 38 t [.code (.seq (.region 11 CU χ) vN)] [] .normal cs) w):
 ∀(r:Nat) (t:Array υ) (M:Sim.ay) (w:Ψ),r<=n->kO bk p6 p7 t->t[23]?=φ (ξ κ n)->t[24]?=φ (ξ κ ((n:Int) - r))->(St b ρ wl pv bv tv B lb l6 l7 bk p6 p7 cN cL n NB wB) M w->
  Walk ϋ θ (StopA (Pm.mk ϋ n N0 cL cN cX sr End) r) M (rg 38 t [.code wE,.inLoop wE,.inBlock 0,.code yy] [] .normal cs) w:=by
 intro r;induction r with
 |zero=>
  intro t M w hr hs t23 t24 hS;rw[Sj];refine fZ (iu ?_)
  rw[s6];obtain⟨o,ho,bL,hd,hg⟩:=Xt;refine dJ ho (cx hg) rfl (λaa _=>⟨_,JU t aa bL (cT t24) (cT t23),eE⟩) ?_
  rw[hd];have di:kO bk p6 p7 (aA t (φ 25) (.bool (decide ((n:Int) - ((0:Nat):Int)<n)))):=hs.put ⟨by omega,by omega,by omega⟩
  have zz:(aA t (φ 25) (.bool (decide ((n:Int) - ((0:Nat):Int)<n)))).getD 25 ω=.bool χ:=
   (iT (by rw[hs.sz];omega)).trans (congrArg Value.bool (by simp))
  revert di zz
  generalize aA t (φ 25) (.bool (decide ((n:Int) - ((0:Nat):Int)<n)))=t1;intro di zz;refine jl (fZ (Df (q:=χ) zz ?_))
  refine Q3 (k':=[.code yy]) rfl ?_
  rw[anG];refine fZ (iu ?_)
  rw[s10];obtain⟨o,ho,bL,hd,hg⟩:=akH;refine dJ ho (cx hg) rfl (λaa _=>⟨_,(Qk t1 aa bL).trans (by rw[Zq di.t1 di.t7 di.t6]),eE⟩) ?_
  rw[hd];have Nh:(aA t1 (φ 29) (.func (.func 124) #[] #[π (φ ⟨bk,0,ν⟩),π (φ ⟨p7,0,ν⟩),π (φ ⟨p6,0,ν⟩)])).getD 29 ω=.func (.func 124) #[] #[π (φ ⟨bk,0,ν⟩),π (φ ⟨p7,0,ν⟩),π (φ ⟨p6,0,ν⟩)]:=iT (by rw[di.sz];omega)
  have dN:kO bk p6 p7 (aA t1 (φ 29) (.func (.func 124) #[] #[π (φ ⟨bk,0,ν⟩),π (φ ⟨p7,0,ν⟩),π (φ ⟨p6,0,ν⟩)])):=di.put ⟨by omega,by omega,by omega⟩
  revert Nh dN
  generalize aA t1 (φ 29) (.func (.func 124) #[] #[π (φ ⟨bk,0,ν⟩),π (φ ⟨p7,0,ν⟩),π (φ ⟨p6,0,ν⟩)])=t2;intro Nh dN;refine .stop λaa hk=>?_
  obtain⟨o,ho,bL,hd,hg⟩:=akI;have gS:=hS.keep hk;obtain⟨bc,e,fb,A,c,ai,an⟩:=gS.hb;refine⟨rfl,_,_,YU (k:=[.code (.seq (.region 11 CU χ) vN)]) ho (cx hg) rfl (by simp) (Yf t2 aa bL Nh),rfl,rfl,?_,?_⟩
  ·exact closer (.inr gS.mb) (.inr gS.m6) (.inr gS.m7) ai an gS.h6 gS.h7 hn
  ·rw[hd]
   exact jl (cont _ _ _ dN gS.shared)
 |succ r ih=>
  intro t M w hr hs t23 t24 hS;rw[Sj];refine fZ (iu ?_)
  rw[s6];obtain⟨o,ho,bL,hd,hg⟩:=Xt;refine dJ ho (cx hg) rfl (λaa _=>⟨_,JU t aa bL (cT t24) (cT t23),eE⟩) ?_
  rw[hd];have di:kO bk p6 p7 (aA t (φ 25) (.bool (decide ((n:Int) - ((r+1:Nat):Int)<n)))):=hs.put ⟨by omega,by omega,by omega⟩
  have zz:(aA t (φ 25) (.bool (decide ((n:Int) - ((r+1:Nat):Int)<n)))).getD 25 ω=.bool θ:=
   (iT (by rw[hs.sz];omega)).trans (congrArg Value.bool (by have:(n:Int) - ((r+1:Nat):Int)<n:=by omega
                                                            exact decide_eq_true this))
  have zy:(aA t (φ 25) (.bool (decide ((n:Int) - ((r+1:Nat):Int)<n))))[23]?=φ (ξ κ n):=(bP (by omega)).trans t23
  have Ef:(aA t (φ 25) (.bool (decide ((n:Int) - ((r+1:Nat):Int)<n))))[24]?=φ (ξ κ ((n:Int) - ((r+1:Nat):Int))):=(bP (by omega)).trans t24
  revert di zz zy Ef
  generalize aA t (φ 25) (.bool (decide ((n:Int) - ((r+1:Nat):Int)<n)))=t1;intro di zz zy Ef;obtain⟨i,hi⟩:∃i,i=n - (r+1):=⟨_,rfl⟩
  have bG:(n:Int) - ((r+1:Nat):Int)=(i:Int):=by omega
  rw[bG] at Ef;refine jl (fZ (Df (q:=θ) zz ?_))
  refine Q7 (fZ (De (fZ (iu ?_))))
  rw[s7];obtain⟨o,ho,bL,hd,hg⟩:=m70;have e24:aX t1 (.tmp 24)=ξ κ i:=cT Ef;refine dJ ho (cx hg) rfl (λaa _=>⟨_,(run_move t1 aa bL).trans (by rw[e24]),eE⟩) ?_
  rw[hd];have dN:kO bk p6 p7 (aA t1 (φ 26) (ξ κ i)):=di.put ⟨by omega,by omega,by omega⟩
  have Pp:(aA t1 (φ 26) (ξ κ i))[26]?=φ (ξ κ i):=eX (by rw[di.sz];omega)
  have Pn:(aA t1 (φ 26) (ξ κ i))[23]?=φ (ξ κ n):=(bP (by omega)).trans zy
  have Po:(aA t1 (φ 26) (ξ κ i))[24]?=φ (ξ κ i):=(bP (by omega)).trans Ef
  revert dN Pp Pn Po
  generalize aA t1 (φ 26) (ξ κ i)=t2;intro dN Pp Pn Po;obtain⟨o,ho,bL,hd,hg⟩:=m71;obtain⟨ti,mS,hz,eK⟩:=Ja;refine Dg ho (cx hg) rfl λaa hk=>?_
  have gS:=hS.keep hk;refine⟨_,_,_,.inl (Qj t2 bL mS hz rfl aa),zg,?_⟩
  rw[hd];have El:=gS.alloc (Ξ #[ξ κ 0] 3);obtain⟨pk,vu⟩:∃pk,pk=aa.heap.size:=⟨_,rfl⟩
  have Aa:∀a,¬ρ a pk:=λa ha=>by have:=gS.lw.core.dq a pk ha;omega
  have BU:(M.grow aa (aa.alloc (Ξ #[ξ κ 0] 3))).O pk:=.inr ⟨by omega,by rw[fy];omega⟩
  have NV:(aa.alloc (Ξ #[ξ κ 0] 3)).heap[pk]?=φ (Ξ #[ξ κ 0] 3):=by rw[vu];exact kQ
  rw[<-vu];have iE:kO bk p6 p7 (aA t2 (φ 8) (π (φ ⟨pk,0,ν⟩))):=dN.put ⟨by omega,by omega,by omega⟩
  have q8:(aA t2 (φ 8) (π (φ ⟨pk,0,ν⟩)))[8]?=φ (π (φ ⟨pk,0,ν⟩)):=eX (by rw[dN.sz];omega)
  have Qd:(aA t2 (φ 8) (π (φ ⟨pk,0,ν⟩)))[26]?=φ (ξ κ i):=(bP (by omega)).trans Pp
  have Qb:(aA t2 (φ 8) (π (φ ⟨pk,0,ν⟩)))[23]?=φ (ξ κ n):=(bP (by omega)).trans Pn
  have Qc:(aA t2 (φ 8) (π (φ ⟨pk,0,ν⟩)))[24]?=φ (ξ κ i):=(bP (by omega)).trans Po
  revert iE q8 Qd Qb Qc
  generalize aA t2 (φ 8) (π (φ ⟨pk,0,ν⟩))=t3;intro iE q8 Qd Qb Qc
  revert El BU NV
  generalize M.grow aa (aa.alloc (Ξ #[ξ κ 0] 3))=M2;generalize aa.alloc (Ξ #[ξ κ 0] 3)=w2;intro El BU NV;obtain⟨o,ho,bL,hd,hg⟩:=m72;refine Dg ho (cx hg) rfl λll jx=>?_
  have Nw:=El.keep jx;have U0:=(jx.kept pk (.inl BU)).trans NV;refine⟨ω,jV ll pk (Ξ #[ξ κ i] 3 (0,0)),_,.inr ⟨rfl,Qm t3 bL (cT q8) (cT Qd) rfl rfl mS eK ll U0⟩,MM BU,?_⟩
  rw[hd,Hx];have aw:∀q,M2.has q->q≠pk->(jV ll pk (Ξ #[ξ κ i] 3 (0,0))).heap[q]?=ll.heap[q]?:=λq _ hq=>yA (ϸ hq)
  have ait:pk<ll.heap.size:=(ϛ.1 U0).1
  have xV:(jV ll pk (Ξ #[ξ κ i] 3 (0,0))).heap[pk]?=φ (Ξ #[ξ κ i] 3 (0,0)):=Qt ait;have uZ:NB<=pk:=by have:=gS.nb;omega
  have eC:p6≠pk:=by have:=gS.low _ gS.m6;omega
  have oH:p7≠pk:=by have:=gS.low _ gS.m7;omega
  have dw:bk≠pk:=by have:=gS.low _ gS.mb;omega
  have Nx:(St b ρ wl pv bv tv B lb l6 l7 bk p6 p7 cN cL n NB wB) M2 (jV ll pk (Ξ #[ξ κ i] 3 (0,0))):=by
   obtain⟨⟨core,iy,nb,has,fixed,rb,r6,r7,hB,book,c0,c1,c2,c3⟩,low,m6,m7,mb,h6,h7,⟨bc,e,fb,A,c,ai,an⟩,old,eQ,nc,lc⟩:=Nw;exact⟨⟨uQ core (by rw[sk];omega) λa q hq=>aw q (has a q hq) (by rintro rfl;exact Aa a hq),iy,nb,has,fixed,rb,r6,r7,hB,book,c0,c1,c2,c3⟩,λq hq=>by rw[sk];exact low q hq,m6,m7,mb,(aw _ m6 eC).trans h6,(aw _ m7 oH).trans h7,
    ⟨bc,e,fb,A,c,(aw _ mb dw).trans ai,an⟩,λq hq=>⟨(old q hq).1,(aw q (old q hq).1 (by omega)).trans (old q hq).2⟩,by rw[sk];exact eQ,nc,by rw[sk];exact lc⟩
  revert Nx xV
  generalize jV ll pk (Ξ #[ξ κ i] 3 (0,0))=w4;intro xV Nx;refine jl (iu ?_)
  rw[s8];obtain⟨o,ho,bL,hd,hg⟩:=m80;refine dJ ho (cx hg) rfl (λaa _=>⟨_,(Qk _ aa bL).trans (by rw[Zr (t:=aA t3 ν ω) iE.t7 iE.t1 q8 iE.t6]),eE⟩) ?_
  rw[hd];have Ng:(aA t3 (φ 27) (.func (.func 120) #[] #[π (φ ⟨p7,0,ν⟩),π (φ ⟨bk,0,ν⟩),π (φ ⟨pk,0,ν⟩),π (φ ⟨p6,0,ν⟩)])).getD 27 ω=.func (.func 120) #[] #[π (φ ⟨p7,0,ν⟩),π (φ ⟨bk,0,ν⟩),π (φ ⟨pk,0,ν⟩),π (φ ⟨p6,0,ν⟩)]:=iT (by rw[iE.sz];omega)
  have vz:kO bk p6 p7 (aA t3 (φ 27) (.func (.func 120) #[] #[π (φ ⟨p7,0,ν⟩),π (φ ⟨bk,0,ν⟩),π (φ ⟨pk,0,ν⟩),π (φ ⟨p6,0,ν⟩)])):=iE.put ⟨by omega,by omega,by omega⟩
  have z23:(aA t3 (φ 27) (.func (.func 120) #[] #[π (φ ⟨p7,0,ν⟩),π (φ ⟨bk,0,ν⟩),π (φ ⟨pk,0,ν⟩),π (φ ⟨p6,0,ν⟩)]))[23]?=φ (ξ κ n):=(bP (by omega)).trans Qb
  have z24:(aA t3 (φ 27) (.func (.func 120) #[] #[π (φ ⟨p7,0,ν⟩),π (φ ⟨bk,0,ν⟩),π (φ ⟨pk,0,ν⟩),π (φ ⟨p6,0,ν⟩)]))[24]?=φ (ξ κ i):=(bP (by omega)).trans Qc
  show Walk ϋ θ (StopA (Pm.mk ϋ n N0 cL cN cX sr End) (r+1)) M2 (rg 38 (aA t3 (φ 27) (.func (.func 120) #[] #[π (φ ⟨p7,0,ν⟩),π (φ ⟨bk,0,ν⟩),π (φ ⟨pk,0,ν⟩),π (φ ⟨p6,0,ν⟩)])) _ _ _ _) w4
  revert Ng vz z23 z24
  generalize aA t3 (φ 27) (.func (.func 120) #[] #[π (φ ⟨p7,0,ν⟩),π (φ ⟨bk,0,ν⟩),π (φ ⟨pk,0,ν⟩),π (φ ⟨p6,0,ν⟩)])=t4;intro Ng vz z23 z24;refine .stop λaqY oM=>?_
  obtain⟨o,ho,bL,hd,hg⟩:=m81;have UO:=Nx.keep oM;have hw5:=(oM.kept pk (.inl BU)).trans xV;refine⟨rfl,_,_,YU ho (cx hg) rfl (by simp) (Yf t4 aqY bL Ng),rfl,rfl,?_,?_⟩
  ·show Walk ϋ χ (W1 (Pm.mk ϋ n N0 cL cN cX sr End) (n - (r+1))) _ _ _
   rw[<-hi];exact apf xL ag UO (.inl BU) hw5 Aa
  ·rw[hd]
   refine jl (Q4 (iu ?_))
   rw[s9];obtain⟨o,ho,bL,hd,hg⟩:=m90;refine dJ ho (cx hg) rfl (λaa _=>⟨_,Yc t4 aa bL (cT z24) rfl,eE⟩) ?_
   rw[hd];obtain⟨o,ho,bL,hd,hg⟩:=m91;have Fl:IntKind.i64.wrap ((i:Int)+1)=(n:Int) - r:=by rw[wrap_small (by omega) (by omega)];omega
   rw[Fl];have Cr:kO bk p6 p7 (aA t4 (φ 28) (ξ κ ((n:Int) - r))):=vz.put ⟨by omega,by omega,by omega⟩
   have y28:aX (aA t4 (φ 28) (ξ κ ((n:Int) - r))) (.tmp 28)=ξ κ ((n:Int) - r):=iT (by rw[vz.sz];omega)
   refine dJ ho (cx hg) rfl (λaa _=>⟨_,(run_move _ aa bL).trans (congrArg (λv=>((Result.ok (Next.value v) aa,#[]):Result Next×Array Event)) y28),eE⟩) ?_
   rw[hd];refine jl (Q5 ?_)
   exact ih _ _ _ (by omega) (Cr.put ⟨by omega,by omega,by omega⟩) ((bP (by omega)).trans ((bP (by omega)).trans z23)) (eX (by have:=Cr.sz;show 24<(aA t4 (φ 28) (ξ κ ((n:Int) - r))).size;omega)) UO.shared
end
def MV(ρ:Ren)(t:Array υ):∃u:Array υ,aV ρ u t:=by
 refine⟨Aj2 λi:Fin t.size=>å (sN ρ t[i.1]),by simp,λi h1 h2=>?_⟩
 rw[Aj3];exact Î (sN ρ t[i])
def F6(h:aV ρ u t)(hv:aj ρ v v')(ht:t[i]?=φ v'):aV ρ (u.setIfInBounds i v) t:=by
 refine⟨by simp[h.1],λj h1 h2=>?_⟩
 rw[Array.getElem_setIfInBounds (by simpa using h1)]
 split
 ·rename_i e
  subst e;rw[õ h2] at ht
  rw[Ϟ ht];exact hv
 ·exact h.2 j (by simpa using h1) h2
def anV(t:Array υ)(w:Ψ)(ho:o.op=.buildSlice 33 1 #[(0,.tmp n)])(hn:t.getD n ω=v)(hv:v.cells=#[v]):
 (execOp (aX t) o).runT ϋ w #[]=(.ok (.value (ζ (φ ⟨w.heap.size,0,ν⟩) 1 1)) (w.alloc (Ξ #[v] 3)),#[]):=by
 have e1:aX t (.tmp n)=v:=hn;obtain⟨i,hi,hz,hs⟩:=Ja;have hu:ϋ.underlying 33=φ (.slice 3):=rfl;have hb:(Instr.buildSlice 33 1 #[(0,v)]).runT ϋ w #[]=(.ok (ζ (φ ⟨w.heap.size,0,ν⟩) 1 1) (w.alloc (Ξ #[v] 3)),#[]):=by
  have e3:¬ (1 * 1>2 ^ 24):=by decide
  have e4:¬ (1 * 1=0):=by decide
  simp only[Instr.buildSlice,Go.underlying,Go.program,Go.typeInfo,Go.sizeOf,Go.zeroValue,bind,ϫ,Ϥ,pure,hu,hi,hs,hz,if_neg e3,if_neg e4,newRow,newObj,World.alloc];generalize hq:Instr.fill _ _ _=q;have h2:q=φ #[v]:=by
   have e2:Array.range (1 * 1)=#[0]:=rfl;rw[<-hq,e2];simp[Instr.fill,hv]
  rw[h2];rfl
 unfold execOp;rw[ho]
 have e5:(#[(0,Operand.tmp n)].map λ(i,x)=>(i,aX t x))=#[(0,v)]:=by simp only[Ţ,ō,Ŏ,e1]
 show((Instr.buildSlice 33 1 (#[(0,Operand.tmp n)].map λ(i,x)=>(i,aX t x))).bind λv=>Ļ (Next.value v)).runT ϋ w #[]=_
 rw[e5,qR,hb];rfl
def XW(hW:cg C ρ wl w){base:Nat}{xs:List Int}(hv:aj ρ v v')(h:wl.ownsRow base 3 1 v n (xs.map (ξ κ)))(hn:n≠0)(hb:∀a q,base<=a->ρ a q->NR<=q):
 w.ownsRow NR 3 1 v' n (xs.map (ξ κ))/\∃a q cap,v=ζ (φ ⟨a,0,ν⟩) n cap/\v'=ζ (φ ⟨q,0,ν⟩) n cap/\ρ a q/\∃cur,wl.heap[a]?=φ (.cells cur 3 (0,0))/\cur.size≠0:=by
 obtain⟨hl,hc⟩:=h;rcases hc with⟨_,rfl⟩ | ⟨g,cap,cur,rfl,vd,hg,ey,oI,fh,tj⟩
 ·exact absurd rfl hn
 ·cases hv with
  |sliceDead=>exact absurd rfl hn
  |slice _ _ ha=>
   rename_i q;obtain⟨qb,qo,qs⟩:=q;obtain⟨h1,h2,h3⟩:=ha;simp only at h1 h2 h3;subst h2 h3;obtain⟨o',pJ,hr⟩:=hW.obj _ _ _ h1 hg;cases hr with
   | @cells _ c' _ _ ba hc hf=>
     have cq:ba=(0,0):=by
      rcases hf with hf|hf
      ·exact hf
      ·obtain⟨_,hf⟩:=hf
       have:cur.size<=0:=hf;omega
     subst cq;refine⟨⟨hl,.inr ⟨qb,cap,c',rfl,hb _ _ vd h1,pJ,ey,oI,hc.1.symm.trans fh,?_⟩⟩,_,_,_,rfl,rfl,h1,cur,hg,by omega⟩
     apply List.ext_getElem?;intro j;rw[<-tj];rw[ĕ,ĕ]
     split
     ·rename_i hj
      rw[ī,ī]
      rcases hc.get? j with⟨e1,e2⟩ | ⟨x,y,e1,e2,e3⟩
      ·rw[e1,e2]
      ·rw[e1,e2]
       have hx:(cur.toList.take (n * 1))[j]?=φ x:=by rw[ĕ,if_pos hj,ī,e1]
       rw[tj] at hx;rw[List.getElem?_map] at hx
       obtain⟨z,_,rfl⟩:=Č.1 hx;cases e3;rfl
     ·rfl
def akN:∃o,sj[0]?=φ o/\o.op=.move (.tmp 9)/\o.dst=φ 34/\o.guard=ν:=⟨_,rfl,rfl,rfl,rfl⟩
def akO:∃o,sj[1]?=φ o/\o.op=.move (.tmp 10)/\o.dst=φ 35/\o.guard=ν:=⟨_,rfl,rfl,rfl,rfl⟩
def akP:∃o,sj[2]?=φ o/\o.op=.buildSlice 33 1 #[(0,.tmp 35)]/\o.dst=φ 36/\o.guard=ν:=⟨_,rfl,rfl,rfl,rfl⟩
def akQ:∃o,sj[3]?=φ o/\o.op=.call {callee:=.builtin .append,args:=#[.tmp 34,.tmp 36],argTypes:=#[33,33]}/\o.dst=φ 37/\o.guard=ν:=⟨_,rfl,rfl,rfl,rfl⟩
def akR:∃o,sj[4]?=φ o/\o.op=.assign (.tmp 37)/\o.dst=φ 9/\o.guard=ν:=⟨_,rfl,rfl,rfl,rfl⟩
def s15:sj.size=5:=rfl
def amQ{id:Nat}{d:Bool}(h:C0.clean (.region id ops d))(ho:ops[i]?=φ o):k8 ϋ G0 o=θ:=by
 have h:cC ϋ G0 (.region id ops d)=θ:=h;have h:ops.all (k8 ϋ G0)=θ:=by
  unfold cC at h;simpa using h
 exact Ģ.1 h o (ļ ho)
def anS{P:ϕ}{tl:Array υ}{w aa:Ψ}{v v' x:υ}(ho:o.op=.call {callee:=.builtin .append,args:=#[.tmp 34,.tmp 36],argTypes:=#[33,33]})(Jo:tl.getD 34 ω=v)(h36:tl.getD 36 ω=x)
 (hr:(Builtin.append_ #[33,33] o.type #[v,x]).run P w=.ok v' aa):(execOp (aX tl) o).run P w=.ok (.value v') aa:=by
 have e1:aX tl (.tmp 34)=v:=Jo;have e2:aX tl (.tmp 36)=x:=h36;unfold execOp;rw[ho]
 simp only[resolve,Ţ,ō,Ŏ,e1,e2];show((Builtin.append_ #[33,33] o.type #[v,x]).bind λv=>Ļ (Next.value v)).run P w=_
 rw[run_bind,hr];rfl
section
variable {b:eR}{ρ:Ren}{wl wB:Ψ}{pv bv tv:υ}{B lb l6 l7 bk p6 p7 cN cL n N0 NB NR:Nat}
def St.to2{M M':Sim.ay}(h:(St b ρ wl pv bv tv B lb l6 l7 bk p6 p7 cN cL n NB wB) M w)(hr:∀a q,ρ a q->q<NR)(hN:NB<=NR)(hs:w.heap.size<=bz.heap.size)(hk:∀q,M.has q->q<NR->bz.heap[q]?=w.heap[q]?)(hM:∀q,M.has q->M'.has q)(hl:∀q,M'.has q->q<bz.heap.size)(hc:¬M'.has cN/\¬M'.has cL):(St b ρ wl pv bv tv B lb l6 l7 bk p6 p7 cN cL n NB wB) M' bz:=by
 obtain⟨⟨core,iy,nb,has,fixed,rb,r6,r7,hB,book,c0,c1,c2,c3⟩,low,m6,m7,mb,h6,h7,⟨bc,e,fb,A,c,ai,an⟩,old,eQ,nc,lc⟩:=h;exact⟨⟨uQ core hs λa q hq=>hk q (has a q hq) (hr a q hq),iy,nb,λa q hq=>hM q (has a q hq),fixed,rb,r6,r7,hB,book,c0,c1,c2,c3⟩,hl,hM _ m6,hM _ m7,hM _ mb,(hk _ m6 (hr _ _ r6)).trans h6,(hk _ m7 (hr _ _ r7)).trans h7,⟨bc,e,fb,A,c,(hk _ mb (hr _ _ rb)).trans ai,an⟩,
  λq hq=>⟨hM q (old q hq).1,(hk q (old q hq).1 (by omega)).trans (old q hq).2⟩,ϡ eQ hs,hc,ϟ lc.1 hs,ϟ lc.2 hs⟩
structure RI(NR:Nat)(aD:List Nat)(t:Array υ)(M:Sim.ay)(w:Ψ):Prop where
 own:∃ov,t[9]?=φ ov/\w.ownsRow NR 3 1 ov aD.length ((aD.map λi:Nat=>(i:Int)).map (ξ κ))/\∀g k c,ov=ζ (φ g) k c->M.O g.block
 le:NR<=w.heap.size
 nz:aD=[]->t[9]?=φ (ζ ν 0 0)
def P2{base n:Nat}{xs:List υ}(h:w.ownsRow base 3 1 v n xs)(hk:∀g k c,v=ζ (φ g) k c->aa.heap[g.block]?=w.heap[g.block]?):aa.ownsRow base 3 1 v n xs:=by
 refine⟨h.1,?_⟩
 rcases h.2 with h0| ⟨g,cap,cur,rfl,vd,hg,h4⟩
 ·exact .inl h0
 ·exact .inr ⟨g,cap,cur,rfl,vd,(hk _ _ _ rfl).trans hg,h4⟩
def RI.keep{M:Sim.ay}(h:RI NR aD t M w)(k:bR M w aa)(ht:t'[9]?=t[9]?):RI NR aD t' M aa:=by
 obtain⟨⟨ov,h1,h2,h3⟩,hle,hz⟩:=h;exact⟨⟨ov,ht.trans h1,P2 h2 λg k' c e=>k.kept _ (.inl (h3 g k' c e)),h3⟩,ϡ hle k.size,λe=>ht.trans (hz e)⟩
def Qh(ρ:Ren)(c:Array υ)(m:Nat)(xs:List Int)(h:c.toList.take (m * 1)=xs.map (ξ κ)):∃u:Array υ,aV ρ u c/\u.toList.take (m * 1)=xs.map (ξ κ):=by
 have key:∀i:Fin c.size,∃u,aj ρ u c[i.1]/\(i.1<m->u=c[i.1]):=by
  intro i;by_cases hi:i.1<m
  ·have hx:(c.toList.take (m * 1))[i.1]?=φ c[i.1]:=by
    rw[ĕ,if_pos (by omega),ī,õ i.2]
   rw[h,List.getElem?_map] at hx
   obtain⟨z,_,e⟩:=Č.1 hx;exact⟨c[i.1],by rw[<-e];exact .int _ _,λ_=>rfl⟩
  ·obtain⟨u,hu⟩:=sN ρ c[i.1]
   exact⟨u,hu,λh=>absurd h hi⟩
 refine⟨Aj2 λi=>å (key i),⟨by simp,λi h1 h2=>?_⟩,?_⟩
 ·rw[Aj3]
  exact(Î (key ⟨i,h2⟩)).1
 ·rw[<-h]
  apply List.ext_getElem?;intro j;rw[ĕ,ĕ]
  split
  ·rename_i hj
   rw[ī,ī,Aj4]
   split
   ·rename_i ao
    rw[(Î (key ⟨j,ao⟩)).2 (by simpa using hj),õ ao]
   ·rename_i ao
    rw[Ė (by omega)]
  ·rfl
end
def aji:∃i,ϋ.info? 3=φ i/\i.zero=φ (ξ κ 0)/\i.size=1/\i.bytes=8:=⟨_,rfl,rfl,rfl,rfl⟩
def ints(aD:List Nat):List Int:=aD.map λi:Nat=>(i:Int)
def ajr(aD:List Nat)(i:Nat):(ints aD).map (ξ κ)++ [ξ κ i]=(ints (aD++ [i])).map (ξ κ):=by simp[ints]
section
variable {b:eR}{ρ:Ren}{wl wB:Ψ}{pv bv tv:υ}{B lb l6 l7 bk p6 p7 cN cL n N0 NB NR:Nat}
def ake{M:Sim.ay}(h:(St b ρ wl pv bv tv B lb l6 l7 bk p6 p7 cN cL n NB wB) M w)(hr:∀a q,ρ a q->q<NR)(ho:w.ownsRow NR 3 1 ov aD.length ((ints aD).map (ξ κ)))(hO:∀g k c,ov=ζ (φ g) k c->M.O g.block/\g.block≠q)
 (hq:w.heap[q]?=φ (Ξ #[ξ κ i] 3))(Cn:M.O q)(IV:NR<=q):
 ∃(bQ:Ren) (gQ:Ψ) (ol:υ) (lq:Nat),cg C0 bQ gQ w/\ρ.le bQ/\(∀a p,bQ a p->ρ a p\/(wl.heap.size<=a/\NR<=p/\M.O p))/\aj bQ ol ov/\gQ.ownsRow wl.heap.size 3 1 ol aD.length ((ints aD).map (ξ κ))/\bQ lq q/\
  gQ.heap[lq]?=φ (Ξ #[ξ κ i] 3)/\(∀(a:Nat) (o:Obj),wl.heap[a]?=φ o->gQ.heap[a]?=φ o)/\wl.heap.size<=gQ.heap.size:=by
 have eS:=wS (o:=.cells #[ξ κ i] 3) h.lw.core hq (λa ha=>by have:=hr a q ha;omega) (.cells 3 ⟨rfl,λj h1 h2=>by
  have:j=0:=by simp at h1;omega
  subst this;exact .int _ _⟩ (.inl rfl))
 rcases ho.2 with⟨rfl,h0⟩ | ⟨g,cap,cur,rfl,vd,hg,ey,oI,fh,tj⟩
 ·refine⟨_,_,ζ ν 0 0,_,eS,zk _ _ _,?_,.sliceNone 0 0,⟨ho.1,.inl ⟨rfl,h0⟩⟩,.inr ⟨rfl,rfl⟩,kQ,λa o ha=>(lz (ϛ.1 ha).1).trans ha,by rw[fy];omega⟩
  rintro a p (ha| ⟨rfl,rfl⟩)
  ·exact .inl ha
  ·exact .inr ⟨ϊ _,IV,Cn⟩
 ·obtain⟨Vf,Vg⟩:=hO _ _ _ rfl
  simp only at Vf Vg;obtain⟨u,hu,Fh⟩:=Qh (ext (ext ρ wl.heap.size q) (wl.alloc (Ξ #[ξ κ i] 3)).heap.size g) cur aD.length (ints aD) tj;have ia:=wS (o:=.cells u 3) eS hg (λa ha=>by
   rcases ha with ha| ⟨_,e⟩
   ·have:=hr a g ha;omega
   ·exact Vg e) (.cells 3 hu (.inl rfl))
  refine⟨_,_,ζ (φ ⟨(wl.alloc (Ξ #[ξ κ i] 3)).heap.size,0,ν⟩) aD.length cap,wl.heap.size,ia,Ren.le_trans (zk _ _ _) (zk _ _ _),?_,.slice _ _ ⟨.inr ⟨rfl,rfl⟩,rfl,rfl⟩,⟨ho.1,.inr ⟨_,cap,u,rfl,by rw[fy];omega,kQ,ey,oI,hu.1.trans fh,Fh⟩⟩,.inl (.inr ⟨rfl,rfl⟩),(lz (by rw[fy];omega)).trans kQ,
   λa o ha=>(lz (by rw[fy];have:=(ϛ.1 ha).1;omega)).trans ((lz (ϛ.1 ha).1).trans ha),by rw[fy,fy];omega⟩
  rintro a p ((ha| ⟨rfl,rfl⟩) | ⟨rfl,rfl⟩)
  ·exact .inl ha
  ·exact .inr ⟨ϊ _,IV,Cn⟩
  ·exact .inr ⟨by rw[fy];omega,vd,Vf⟩
def agi{c:Array υ}(hc:c.size≠0):¬mw (.cells c 3 (0,0)):=by
 rintro⟨_,h⟩;have h:c.size<=0:=h;omega
def aqG{Stop:Sim.ay->ϐ->Ψ->Prop}{M:Sim.ay}(h:(St b ρ wl pv bv tv B lb l6 l7 bk p6 p7 cN cL n NB wB) M w)(hr:∀a q,ρ a q->q<NR)(hN:NB<=NR)(Ek:NR<=w.heap.size)(xz:aD.length<=1000)(ho:w.ownsRow NR 3 1 ov aD.length ((ints aD).map (ξ κ)))(hO:∀g k c,ov=ζ (φ g) k c->M.O g.block/\g.block≠q)
 (hq:w.heap[q]?=φ (Ξ #[ξ κ i] 3))(Cn:M.O q)(IV:NR<=q)(t34:t[34]?=φ ov)(t36:t[36]?=φ (ζ (φ ⟨q,0,ν⟩) 1 1))
 (cont:∀v' b6 aF,(St b ρ wl pv bv tv B lb l6 l7 bk p6 p7 cN cL n NB wB) b6 aF->aF.ownsRow NR 3 1 v' (aD++ [i]).length ((ints (aD++ [i])).map (ξ κ))->(∀g k c,v'=ζ (φ g) k c->b6.O g.block)->NR<=aF.heap.size->Walk ϋ main Stop b6 (rg 38 (aA t (φ 37) v') (.inRegion sj rest::k) [] .normal cs) aF):
 Walk ϋ main Stop M (rg 38 t (.inRegion sj (3::rest)::k) [] .normal cs) w:=by
 obtain⟨bQ,gQ,ol,lq,hW,hle,hinv,hv,aH,hlq,hcq,hold,aN⟩:=ake h hr ho hO hq Cn IV;obtain⟨u0,As⟩:=MV bQ t;have O0:=F6 As hv t34;have hu2:=F6 O0 (i:=36) (v:=ζ (φ ⟨lq,0,ν⟩) 1 1) (v':=ζ (φ ⟨q,0,ν⟩) 1 1) (.slice 1 1 ⟨hlq,rfl,rfl⟩) t36;have aiD:34<t.size:=(ϛ.1 t34).1
 have aiE:36<t.size:=(ϛ.1 t36).1
 have l36:((u0.setIfInBounds 34 ol).setIfInBounds 36 (ζ (φ ⟨lq,0,ν⟩) 1 1)).getD 36 ω=ζ (φ ⟨lq,0,ν⟩) 1 1:=cT (eX (by rw[Ē,As.1];exact aiE))
 have l34:((u0.setIfInBounds 34 ol).setIfInBounds 36 (ζ (φ ⟨lq,0,ν⟩) 1 1)).getD 34 ω=ol:=cT ((bP (by omega)).trans (eX (by rw[As.1];exact aiD)))
 obtain⟨o,pJ,ag,hd,hg⟩:=akQ;obtain⟨ti,mS,hz,hs,Ey⟩:=aji;have hf:Fits M bQ gQ:=by
  intro a p hp;rcases hinv a p hp with hp| ⟨_,_,hp⟩
  ·obtain⟨o,h1,h2⟩:=h.lw.fixed a p hp
   rcases h.lw.has a p hp with hx|hx
   ·exact .inl hx
   ·exact .inr ⟨hx,o,hold a o h1,h2⟩
  ·exact .inl hp
 refine ZB (M:=M) (ρ:=bQ) (wl:=gQ) (QL:=λv aa=>aa.ownsRow wl.heap.size 3 1 v (aD++ [i]).length ((ints (aD++ [i])).map (ξ κ))) Hp pJ (cx hg) rfl (amQ adz pJ) hu2 hW (λg nJ=>?_) hf h.low (λT=>?_) ?_
 ·have:g=0:=by simpa [G0] using nJ
  subst this;exact hle _ _ h.lw.iy
 ·have aq:(bq gQ T).cell? ⟨lq,0,ν⟩=φ (ξ κ i):=mH (w:=bq gQ T) hcq rfl rfl
  obtain⟨v',w',h1,h2,h3,h4⟩:=run_append_own (P:=tw ϋ (@Tw.F jC)) (w:=bq gQ T) wl.heap.size 33 o.type 3 ti (ξ κ 0) 1 8 (by rw[kJ];rfl) (by rw[mm];exact mS) hz hs Ey rfl (by omega) ol aD.length ((ints aD).map (ξ κ)) aH ⟨lq,0,ν⟩ 1 1 [ξ κ i] rfl
   (λj u hu=>by
     cases j with
     |zero=>simp at hu;subst hu;exact aq
     |succ j=>simp at hu) (λu hu=>by simp at hu;subst hu;rfl) (by unfold maxLen;omega) (by omega) aN
  refine⟨v',w',anS ag l34 l36 h1,?_⟩
  rw[ajr] at h2;rw[List.length_append];exact h2
 ·intro v v' yG aM b6 aF rW qJ eS cr iz ER
  have hb:∀a p,wl.heap.size<=a->aM a p->NR<=p:=by
   intro a p ha hp;rcases cr.new a p hp with hp| ⟨_,hp⟩
   ·rcases hinv a p hp with hp| ⟨_,hp,_⟩
    ·have:=h.lw.core.dL a p hp;omega
    ·exact hp
   ·omega
  obtain⟨b7,a1,q1,arp,rfl,rfl,rY,arz,fU,jS⟩:=XW eS qJ rW (by simp) hb
  have kept:∀p,M.has p->p<NR->aF.heap[p]?=w.heap[p]?:=by
   intro p hp ao;refine cr.jd p hp λa ha=>?_
   rcases hinv a p ha with ha| ⟨_,hx,_⟩
   ·obtain⟨o,h1,h2⟩:=h.lw.fixed a p ha
    exact⟨o,hold a o h1,h2⟩
   ·omega
  have nc:∀c,¬M.has c->c<w.heap.size->¬b6.has c:=by
   intro c h1 h2 hx;rcases hx with hx|hx
   ·rcases cr.On c hx with hx| ⟨hx,_⟩
    ·exact h1 (.inl hx)
    ·omega
   ·rw[cr.R] at hx;exact h1 (.inr hx)
  have gS:(St b ρ wl pv bv tv B lb l6 l7 bk p6 p7 cN cL n NB wB) b6 aF:=h.to2 hr hN cr.gO kept (λp hp=>ay.vb cr.R cr.O hp) ER ⟨nc _ h.nc.1 h.lc.1,nc _ h.nc.2 h.lc.2⟩
  rw[hd];refine cont _ b6 aF gS b7 (λg k c e=>?_) (ϡ Ek cr.gO)
  cases e;rcases iz _ _ rY with hx| ⟨_,o,IQ,fo⟩
  ·exact hx
  ·rw[fU] at IQ;cases IQ
   exact absurd fo (agi jS)
end
def Dy:ϖ:=aS rq
def GQ:rq=.seq (.region 13 vL χ) Dy:=rfl
def Sf:Dy=.seq (.cond (.tmp 32) .skip (.exit 2)) (.block 3 (.seq (.region 14 JJ χ) (.region 15 sj χ))):=rfl
section
variable {b:eR}{ρ:Ren}{wl wB:Ψ}{pv bv tv:υ}{B lb l6 l7 bk p6 p7 cN cL n N0 NB NR:Nat}{cX:Nat->Bool}{cs:List Ϛ}
def yO(NR NB:Nat)(wB:Ψ)(cs:List Ϛ)(aD:List Nat)(M:Sim.ay)(g:ϐ)(w:Ψ):Prop:=
 ∃(t:Array υ) (z:υ),g=rg 38 t [.inRegion vL [1],.code Dy,.inLoop rq,.inBlock 2,.code tB] [] .normal cs/\t.size=41/\t[31]?=φ (μ #[z,.bool χ])/\RI NR aD t M w/\
  (∀q,q<NB->w.heap[q]?=wB.heap[q]?)/\NB<=w.heap.size
def YB:ϧ (rg 38 t (.inRegion vL [0,1]::k) [] .normal cs) (recvd θ v ok)=rg 38 (t.setIfInBounds 31 (μ #[v,.bool ok])) (.inRegion vL [1]::k) [] .normal cs:=by
 obtain⟨o,ho,ag,hd,hg⟩:=PH;simp[ϧ,đ,ho,hd,recvd]
def TX{M:Sim.ay}(hs:t.size=41)(hR:RI NR aD t M w)(hS:(St b ρ wl pv bv tv B lb l6 l7 bk p6 p7 cN cL n NB wB) M w):
 yO NR NB wB cs aD M (ϧ (rg 38 t (.inRegion vL [0,1]:: [.code Dy,.inLoop rq,.inBlock 2,.code tB]) [] .normal cs) (recvd θ z χ)) w:=by
 refine⟨_,z,YB,by simp[hs],eX (by omega),?_,λq hq=>(hS.old q hq).2,hS.nb⟩
 exact hR.keep (bR.refl M w) (bP (by omega))
def recvs(hr:∀a q,ρ a q->q<NR)(hN:NB<=NR)(hn:n<=1000):∀(f:Nat) (aD:List Nat) (t:Array υ) (M:Sim.ay) (w:Ψ),f+aD.length=n->t.size=41->t[30]?=φ (.chan (φ cN))->RI NR aD t M w->(St b ρ wl pv bv tv B lb l6 l7 bk p6 p7 cN cL n NB wB) M w->
 Walk ϋ θ (oB (Pm.mk ϋ n N0 cL cN cX sr (yO NR NB wB cs)) f aD) M (rg 38 t [.code rq,.inLoop rq,.inBlock 2,.code tB] [] .normal cs) w:=by
 intro f;induction f with
 |zero=>
  intro aD t M w hf hs t30 hR hS;rw[GQ];refine fZ (iu ?_)
  rw[Yl];obtain⟨o,ho,ag,hd,hg⟩:=PH;obtain⟨dir,hu⟩:=Da;obtain⟨ti,mS,hz,_⟩:=Ja;rw[<-GQ];refine .stop λaa hk=>⟨rfl,rfl,_,Gi ho (cx hg) rfl (Ql t aa ag (cT t30) hu mS hz),?_⟩
  exact TX hs (hR.keep hk rfl) (hS.keep hk)
 |succ f ih=>
  intro aD t M w hf hs t30 hR hS;rw[GQ];refine fZ (iu ?_)
  rw[Yl];obtain⟨o,ho,ag,hd,hg⟩:=PH;obtain⟨dir,hu⟩:=Da;obtain⟨ti,mS,hz,_⟩:=Ja;rw[<-GQ];refine .stop λaa hk=>⟨rfl,rfl,_,Gi ho (cx hg) rfl (Ql t aa ag (cT t30) hu mS hz),TX hs (hR.keep hk rfl) (hS.keep hk),λi hi VY asD=>?_⟩
  show Walk ϋ θ (oB (Pm.mk ϋ n N0 cL cN cX sr (yO NR NB wB cs)) f (aD++ [i])) M (ϧ (rg 38 t (.inRegion vL [0,1]:: [.code Dy,.inLoop rq,.inBlock 2,.code tB]) [] .normal cs) (recvd θ (ξ κ i) θ)) aa;rw[YB];have pD:=hR.keep (t':=t.setIfInBounds 31 (μ #[ξ κ i,.bool θ])) hk (bP (by omega))
  have gS:=hS.keep hk;have BS:(t.setIfInBounds 31 (μ #[ξ κ i,.bool θ]))[31]?=φ (μ #[ξ κ i,.bool θ]):=eX (by omega)
  have Ni:(t.setIfInBounds 31 (μ #[ξ κ i,.bool θ]))[30]?=φ (.chan (φ cN)):=(bP (by omega)).trans t30
  have di:(t.setIfInBounds 31 (μ #[ξ κ i,.bool θ])).size=41:=by simp[hs]
  clear hR hS ho ag hd hg
  revert pD gS BS Ni di
  generalize t.setIfInBounds 31 (μ #[ξ κ i,.bool θ])=t1;generalize aa=w at *;intro pD gS BS Ni di;obtain⟨o,ho,ag,hd,hg⟩:=Xs;refine dJ (v:=.bool θ) ho (cx hg) rfl (λaa _=>⟨_,F9 t1 aa ag (cT BS) rfl,eE⟩) ?_
  rw[hd];refine jl ?_
  rw[Sf];refine fZ (Df (q:=θ) (iT (by omega)) (Q7 (De (fZ (iu ?_)))))
  rw[s14];have Ns:=pD.keep (t':=aA t1 (φ 32) (.bool θ)) (bR.refl M w) (bP (by omega))
  have Pf:(aA t1 (φ 32) (.bool θ))[31]?=φ (μ #[ξ κ i,.bool θ]):=(bP (by omega)).trans BS
  have Pe:(aA t1 (φ 32) (.bool θ))[30]?=φ (.chan (φ cN)):=(bP (by omega)).trans Ni
  have js:(aA t1 (φ 32) (.bool θ)).size=41:=by simp[aA,di]
  revert Ns Pf Pe js
  generalize aA t1 (φ 32) (.bool θ)=t2;intro Ns Pf Pe js;obtain⟨o,ho,ag,hd,hg⟩:=akL;refine dJ (v:=ξ κ i) ho (cx hg) rfl (λaa _=>⟨_,F9 t2 aa ag (cT Pf) rfl,eE⟩) ?_
  rw[hd];have Nt:=Ns.keep (t':=aA t2 (φ 33) (ξ κ i)) (bR.refl M w) (bP (by omega))
  have Pr:aX (aA t2 (φ 33) (ξ κ i)) (.tmp 33)=ξ κ i:=iT (by omega)
  have Ay:(aA t2 (φ 33) (ξ κ i))[30]?=φ (.chan (φ cN)):=(bP (by omega)).trans Pe
  have ks:(aA t2 (φ 33) (ξ κ i)).size=41:=by simp[aA,js]
  revert Nt Pr Ay ks
  generalize aA t2 (φ 33) (ξ κ i)=t3;intro Nt Pr Ay ks;obtain⟨o,ho,ag,hd,hg⟩:=akM;refine dJ ho (cx hg) rfl (λaa _=>⟨_,(run_assign t3 aa ag).trans (by rw[Pr]),eE⟩) ?_
  rw[hd];have Nu:=Nt.keep (t':=aA t3 (φ 10) (ξ κ i)) (bR.refl M w) (bP (by omega))
  have Xv:aX (aA t3 (φ 10) (ξ κ i)) (.tmp 10)=ξ κ i:=iT (by omega)
  have PO:(aA t3 (φ 10) (ξ κ i))[10]?=φ (ξ κ i):=eX (by omega)
  have n30:(aA t3 (φ 10) (ξ κ i))[30]?=φ (.chan (φ cN)):=(bP (by omega)).trans Ay
  have ns:(aA t3 (φ 10) (ξ κ i)).size=41:=by simp[aA,ks]
  revert Nu Xv PO n30 ns
  generalize aA t3 (φ 10) (ξ κ i)=t4;intro Nu Xv PO n30 ns;obtain⟨⟨ov,u9,aH,hO⟩,hle,_⟩:=Nu;refine jl (iu ?_)
  rw[s15];obtain⟨o,ho,ag,hd,hg⟩:=akN;have e9:aX t4 (.tmp 9)=ov:=cT u9;refine dJ ho (cx hg) rfl (λaa _=>⟨_,(run_move t4 aa ag).trans (by rw[e9]),eE⟩) ?_
  rw[hd];have L3:(aA t4 (φ 34) ov)[34]?=φ ov:=eX (by omega)
  have LX:aX (aA t4 (φ 34) ov) (.tmp 10)=ξ κ i:=cT ((bP (by omega)).trans PO)
  have L1:(aA t4 (φ 34) ov)[30]?=φ (.chan (φ cN)):=(bP (by omega)).trans n30
  have Mb:(aA t4 (φ 34) ov).size=41:=by simp[aA,ns]
  revert L3 LX L1 Mb
  generalize aA t4 (φ 34) ov=t5;intro L3 LX L1 Mb;obtain⟨o,ho,ag,hd,hg⟩:=akO;refine dJ ho (cx hg) rfl (λaa _=>⟨_,(run_move t5 aa ag).trans (by rw[LX]),eE⟩) ?_
  rw[hd];have Mr:(aA t5 (φ 35) (ξ κ i))[34]?=φ ov:=(bP (by omega)).trans L3
  have jO:(aA t5 (φ 35) (ξ κ i)).getD 35 ω=ξ κ i:=iT (by omega)
  have Mq:(aA t5 (φ 35) (ξ κ i))[30]?=φ (.chan (φ cN)):=(bP (by omega)).trans L1
  have bu:(aA t5 (φ 35) (ξ κ i)).size=41:=by simp[aA,Mb]
  revert Mr jO Mq bu
  generalize aA t5 (φ 35) (ξ κ i)=t6;intro Mr jO Mq bu;obtain⟨o,ho,ag,hd,hg⟩:=akP;refine Dg ho (cx hg) rfl λaa fj=>⟨_,_,_,.inl (anV t6 aa ag jO rfl),zg,?_⟩
  rw[hd];have El:=(gS.keep fj).alloc (Ξ #[ξ κ i] 3);have Au:NR<=aa.heap.size:=ϡ hle fj.size;have b7:=P2 (aa:=aa.alloc (Ξ #[ξ κ i] 3)) aH λg k c e=>(lz (ϟ (gS.low _ (.inl (hO g k c e))) fj.size)).trans (fj.kept _ (.inl (hO g k c e)))
  have hO1:∀g k c,ov=ζ (φ g) k c->(M.grow aa (aa.alloc (Ξ #[ξ κ i] 3))).O g.block/\g.block≠aa.heap.size:=λg k c e=>⟨.inl (hO g k c e),by have:=gS.low _ (.inl (hO g k c e));have:=fj.size;omega⟩
  have Cn:(M.grow aa (aa.alloc (Ξ #[ξ κ i] 3))).O aa.heap.size:=.inr ⟨ϊ _,by rw[fy];omega⟩
  have d34:(aA t6 (φ 36) (ζ (φ ⟨aa.heap.size,0,ν⟩) 1 1))[34]?=φ ov:=(bP (by omega)).trans Mr
  have d36:(aA t6 (φ 36) (ζ (φ ⟨aa.heap.size,0,ν⟩) 1 1))[36]?=φ (ζ (φ ⟨aa.heap.size,0,ν⟩) 1 1):=eX (by omega)
  have d30:(aA t6 (φ 36) (ζ (φ ⟨aa.heap.size,0,ν⟩) 1 1))[30]?=φ (.chan (φ cN)):=(bP (by omega)).trans Mq
  have ds:(aA t6 (φ 36) (ζ (φ ⟨aa.heap.size,0,ν⟩) 1 1)).size=41:=by simp[aA,bu]
  refine aqG El hr hN (by rw[fy];omega) (by omega) b7 hO1 kQ Cn Au d34 d36 ?_
  revert d30 ds
  generalize aA t6 (φ 36) (ζ (φ ⟨aa.heap.size,0,ν⟩) 1 1)=t7;intro d30 ds v' ry au Nw vt hO3 ah7;obtain⟨o,ho,ag,hd,hg⟩:=akR;have e37:aX (aA t7 (φ 37) v') (.tmp 37)=v':=iT (by omega)
  have f30:(aA t7 (φ 37) v')[30]?=φ (.chan (φ cN)):=(bP (by omega)).trans d30
  have fs:(aA t7 (φ 37) v').size=41:=by simp[aA,ds]
  refine dJ ho (cx hg) rfl (λaa _=>⟨_,(run_assign (aA t7 (φ 37) v') aa ag).trans (by rw[e37]),eE⟩) ?_
  rw[hd];refine jl (Q4 (Q5 ?_))
  exact ih (aD++ [i]) _ ry au (by simp;omega) (by simp[aA,ds]) ((bP (by omega)).trans f30) ⟨⟨v',eX (by omega),vt,hO3⟩,ah7,λe=>by simp at e⟩ Nw
end
end Go.Jn
namespace Go.Jn
open Go Go.Proofs Go.Sim Go.Conc Go.Tw Go.RowKit
attribute [local go_sem] AZ AY Oper.semAt_some
def GB(lb:Nat)(e:Exit)(a:Act)(_:Ψ):Prop:=e=.normal/\a.defers=[cQ]/\a.tmps.size=41/\a.tmps[1]?=φ (π (φ ⟨lb,0,ν⟩))
section
variable [Go.Tw.aK]
def ahead(hB:B<=w.heap.size)(ah:aQ w B b pv bv tv)(h:bT b 0=0)
 (c0: w.cell? ⟨lb,0,ν⟩=φ (ξ κ b.ab))(c1: w.cell? ⟨lb,1,ν⟩=φ pv)(c2: w.cell? ⟨lb,2,ν⟩=φ bv)(c3: w.cell? ⟨lb,3,ν⟩=φ tv)(ai:lb<w.heap.size):
 fu prog [rv] (GB lb)
  ⟨(x0:: π (φ ⟨lb,0,ν⟩):: ζ ν 0 0:: ξ κ 0::ω::ω::ω::ω::ω::ω::ω::ω::ω::ω::ω::ω::ω::ω::ω::ω::ω::ω::ω::ω::ω::ω::ω::ω::ω::ω::ω::ω::ω::ω::ω::ω::ω::ω::ω::ω::ω:: []).toArray,[cQ]⟩ w:=by
 have aG:=ψ (Qw hB ah h);obtain⟨A1,n1,k1,rfl,-⟩:=ah.pieces.Φ;obtain⟨A2,n2,k2,rfl,-⟩:=ah.aC.Φ;obtain⟨A3,n3,k3,rfl,-⟩:=ah.aI.Φ;clear ah h;unfold fu fu;rw[then_self];refine(wpIn_wide (n:=0)).1 ?_
 simp only[rv,BB,Tryz.f38,bp,aS,ϻ]
 gi_wp2_with (first
  | (gi_at_call 119;refine(callsIn_wide.2 aG.e).mono ?_;rintro e w1 ⟨sv,g,rfl,aH,cP,hg,ai⟩
     obtain⟨A9,m9,c9,rfl⟩:=iI aH;have aO:w.heap.size<=w1.heap.size:=ai.size;clear ai aH cP hg))
 exact⟨rfl,rfl,rfl,rfl⟩
def akp(u:Array υ)(h:u.size=41):∃x0 x1 x2 x3 x4 x5 x6 x7 x8 x9 Kn Ko Kp Kq Kr Ks Kt Ku tY tZ ua ub uc ud ue uf ug uh ui uj uk um uo uq ur uu uv uw ux uy uz:υ,u=(x0::x1::x2::x3::x4::x5::x6::x7::x8::x9::Kn::Ko::Kp::Kq::Kr::Ks::Kt::Ku::tY::tZ::ua::ub::uc::ud::ue::uf::ug::uh::ui::uj::uk::um::uo::uq::ur::uu::uv::uw::ux::uy::uz:: []).toArray:=by
 obtain⟨l⟩:=u;simp only[List.size_toArray] at h;match l,h with
 |x0::x1::x2::x3::x4::x5::x6::x7::x8::x9::Kn::Ko::Kp::Kq::Kr::Ks::Kt::Ku::tY::tZ::ua::ub::uc::ud::ue::uf::ug::uh::ui::uj::uk::um::uo::uq::ur::uu::uv::uw::ux::uy::uz:: [],_=>exact⟨x0,x1,x2,x3,x4,x5,x6,x7,x8,x9,Kn,Ko,Kp,Kq,Kr,Ks,Kt,Ku,tY,tZ,ua,ub,uc,ud,ue,uf,ug,uh,ui,uj,uk,um,uo,uq,ur,uu,uv,uw,ux,uy,uz,rfl⟩
def ao8{base:Nat}(ho:w.ownsRow base 3 1 ol n (zs.map (ξ κ)))(hn:n<=100000)(hb:base<=w.heap.size)(hu:u.size=41)(h9:u[9]?=φ ol):
 (Code.region 16 CV χ).wp prog (λe a w'=>(e=.normal/\a.defers=[cQ]\/e=.ret)/\(e=.normal/\a.tmps.size=41/\a.tmps[9]?=φ ol/\w'.ownsRow base 3 1 ol n ((fQ zs).map (ξ κ)))) ⟨u,[cQ]⟩ w:=by
 have aG:=ψ (QE ho hn hb);obtain⟨x0,x1,x2,x3,x4,x5,x6,x7,x8,x9,Kn,Ko,Kp,Kq,Kr,Ks,Kt,Ku,tY,tZ,ua,ub,uc,ud,ue,uf,ug,uh,ui,uj,uk,um,uo,uq,ur,uu,uv,uw,ux,uy,uz,rfl⟩:=akp u hu;cases h9;clear ho hu;refine(wpIn_wide (n:=0)).1 ?_
 simp only[CV,tB,vN,yy,oY,BB,Tryz.f38,bp,aS,opsOf,ϻ]
 gi_wp2_with (first
  | (gi_at_call 101;refine(callsIn_wide.2 aG.e).mono ?_;rintro e w1 ⟨rfl,aH,ai⟩
     have HO:=ψ aH;clear aH ai))
 exact HO.e
end
end Go.Jn
namespace Go.Jn
open Go Go.Proofs Go.Sim Go.Conc Go.Tw
def allM(w:Ψ):Sim.ay:=⟨λq=>q<w.heap.size,λ_=>False⟩
def ly:(allM w).has q↔q<w.heap.size:=⟨λh=>h.elim id False.elim,.inl⟩
def Bu(h:cg C ρ wl w):Fits (allM w) ρ wl:=λa q hq=>.inl (h.dq a q hq)
structure KI(b:eR)(σ:Ren)(wl:Ψ)(pv bv tv:υ)(B:Nat)(arg:υ)(w:Ψ):Prop where
 core:cg C0 σ wl w
 iy:σ 0 0
 nb:bO wl.heap
 fixed:∀a q,σ a q->∃o,wl.heap[a]?=φ o/\mw o
 hB:B<=wl.heap.size
 book:aQ wl B b pv bv tv
 arg:aj σ (η #[ξ κ b.ab,pv,bv,tv]) arg
def X6{a b c d:υ}(h:aj σ (η #[a,b,c,d]) x):∃a' b' c' d',x=η #[a',b',c',d']/\aj σ a a'/\aj σ b b'/\aj σ c c'/\aj σ d d':=by
 cases h with
 | @agg _ x' hx h1=>
   obtain⟨l⟩:=x';simp only[List.size_toArray] at hx;match l,hx,h1 with
   | [a',b',c',d'],_,h1=>exact⟨a',b',c',d',rfl,h1 0 (by simp) (by simp),h1 1 (by simp) (by simp),h1 2 (by simp) (by simp),h1 3 (by simp) (by simp)⟩
def anz{A:Option Addr}{c:Nat}(h:aj σ (.slice A n c) x):∃A',x=.slice A' n c:=by
 cases h with
 |sliceNone=>exact⟨_,rfl⟩
 |slice=>exact⟨_,rfl⟩
 |sliceDead=>exact⟨_,rfl⟩
structure LO(b:eR)(ρ:Ren)(wl:Ψ)(pv bv tv:υ)(B lb bk n NB:Nat)(wB:Ψ)(w:Ψ):Prop where
 core:cg C0 ρ wl w
 iy:ρ 0 0
 Xw:bO wl.heap
 fixed:∀a q,ρ a q->∃o,wl.heap[a]?=φ o/\mw o
 rb:ρ lb bk
 hB:B<=wl.heap.size
 book:aQ wl B b pv bv tv
 c0: wl.cell? ⟨lb,0,ν⟩=φ (ξ κ b.ab)
 c1: wl.cell? ⟨lb,1,ν⟩=φ pv
 c2: wl.cell? ⟨lb,2,ν⟩=φ bv
 c3: wl.cell? ⟨lb,3,ν⟩=φ tv
 hb:∃bc e fb A c,w.heap[bk]?=φ (.cells bc e fb)/\bc[2]?=φ (.slice A n c)
 old:∀q,q<NB->w.heap[q]?=wB.heap[q]?
 nb:NB<=w.heap.size
def Ss(b:eR)(pv bv tv:υ)(B NB:Nat)(wB:Ψ)(cs:List Ϛ)(_:Sim.ay)(g:ϐ)(w:Ψ):Prop:=
 ∃(t:Array υ) (bk lb:Nat) (ρ:Ren) (wl:Ψ),g=rg 38 t [.code (.seq (.region 4 jB θ) oY)] [] .normal cs/\t.size=41/\t[1]?=φ (π (φ ⟨bk,0,ν⟩))/\LO b ρ wl pv bv tv B lb bk b.aC.length NB wB w
def apX(x p s i:υ):((((#[x]++ϭ 40 ω:Array υ).setIfInBounds 1 p).setIfInBounds 2 s).setIfInBounds 3 i)=(x::p::s::i::ω::ω::ω::ω::ω::ω::ω::ω::ω::ω::ω::ω::ω::ω::ω::ω::ω::ω::ω::ω::ω::ω::ω::ω::ω::ω::ω::ω::ω::ω::ω::ω::ω::ω::ω::ω::ω:: []).toArray:=by
 have e:(#[x]++ϭ 40 ω:Array υ)=(x::ω::ω::ω::ω::ω::ω::ω::ω::ω::ω::ω::ω::ω::ω::ω::ω::ω::ω::ω::ω::ω::ω::ω::ω::ω::ω::ω::ω::ω::ω::ω::ω::ω::ω::ω::ω::ω::ω::ω::ω:: []).toArray:=by
  apply Array.ext';simp[List.replicate]
 rw[e];simp
def acu(hx:aj ρ x0 x):aV ρ (#[x0]++ϭ 40 ω) (#[x]++ϭ 40 ω):=by
 have h1:aV ρ #[x0] #[x]:=⟨rfl,λi h1 h2=>by
  have:i=0:=by simp at h1;omega
  subst this;exact hx⟩
 have h2:aV ρ (ϭ 40 ω) (ϭ 40 ω):=⟨rfl,λi h1 h2=>by rw[Array.getElem_replicate];exact .undef⟩
 exact cf.append h1 h2
def apl{p p':υ}(hx:aj ρ x0 x)(hp:aj ρ p p'):
 aV ρ ((((#[x0]++ϭ 40 ω:Array υ).setIfInBounds 1 p).setIfInBounds 2 (ζ ν 0 0)).setIfInBounds 3 (ξ κ 0)) (aA (aA (aA (#[x]++ϭ 40 ω:Array υ) (φ 1) p') (φ 2) (ζ ν 0 0)) (φ 3) (ξ κ 0)):=by
 have h0:=acu hx
 revert h0
 generalize (#[x0]++ϭ 40 ω:Array υ)=U;generalize (#[x]++ϭ 40 ω:Array υ)=V;intro h0;exact((h0.set 1 hp).set 2 (.sliceNone 0 0)).set 3 (.int _ _)
def akd(hB:B<=wl.heap.size)(ah:aQ wl B b pv bv tv)(h:bT b 0=0)
 (c0: wl.cell? ⟨lb,0,ν⟩=φ (ξ κ b.ab))(c1: wl.cell? ⟨lb,1,ν⟩=φ pv)(c2: wl.cell? ⟨lb,2,ν⟩=φ bv)(c3: wl.cell? ⟨lb,3,ν⟩=φ tv)(ai:lb<wl.heap.size)(T:Tape):
 fu (@Tw.prog jC) [rv] (GB lb) ⟨((((#[x0]++ϭ 40 ω:Array υ).setIfInBounds 1 (π (φ ⟨lb,0,ν⟩))).setIfInBounds 2 (ζ ν 0 0)).setIfInBounds 3 (ξ κ 0)),[cQ]⟩ (bq wl T):=by
 letI:=jC
 rw[apX];exact ahead (b:=b) (pv:=pv) (bv:=bv) (tv:=tv) (B:=B) (lb:=lb) (x0:=x0) hB (ah.still λ_ _=>rfl) h c0 c1 c2 c3 ai
def api{M1:Sim.ay}(ag:bT b 0=0)(hP:LO b ρ mn pv bv tv B lb bk b.aC.length NB wB w1)
 (hM:∀q,M1.has q->q<w1.heap.size)(pD:∀a q,ρ a q->M1.O q)(BT:∀q,q<NB->M1.O q)(Fj:aV ρ u T)(hl:∀T,fu (@Tw.prog jC) [rv] (GB lb) ⟨u,[cQ]⟩ (bq mn T)):
 Walk ϋ θ (Ss b pv bv tv B NB wB cs) M1 (rg 38 T [.code (.seq rv (.seq (.region 4 jB θ) oY))] [] .normal cs) w1:=by
 obtain⟨hW,kA,IN,mP,nP,pB,It,c0,c1,Hc,c3,⟨bc,be,bf,bA,bC,ahe,B8⟩,old,uZ⟩:=hP;refine pieces (S:=⟨.seq (.region 4 jB θ) oY,[],[],cs,.normal⟩) (cs:=[rv]) (f:=38) (a:=⟨u,[cQ]⟩) (λc hc=>?_) rfl rfl (QL:=GB lb) (λe a w h=>.inl h.1) hl hW kA (λa q hq=>.inl (pD a q hq)) hM IN Fj ?_
 ·simp only[Ϧ,Λ,or_false] at hc
  subst hc;exact adG
 ·rintro e bJ au ry bM Ki eF D' ⟨rfl,zQ,aN,h1⟩ cr ia oJ aia oK dn xT hD
  rw[zQ] at hD;rw[zh hD];have kept:∀q,M1.has q->eF.heap[q]?=w1.heap[q]?:=λq hq=>cr.jd q hq λa ha=>mP a q ha
  refine⟨λ_=>?_,λhe=>by cases he⟩
  refine .stop λll jx=>?_
  have Of:∀q,M1.has q->ll.heap[q]?=w1.heap[q]?:=λq hq=>(jx.kept q (ay.vb cr.R cr.O hq)).trans (kept q hq)
  refine⟨Ki,bk,lb,ρ,mn,rfl,xT.1.symm.trans aN,QB ia xT (cr.le _ _ nP) h1,?_⟩
  exact⟨uQ hW (ϡ cr.gO jx.size) λa q hq=>Of q (.inl (pD a q hq)),kA,IN,mP,nP,pB,It,c0,c1,Hc,c3,⟨bc,be,bf,bA,bC,(Of bk (.inl (pD _ _ nP))).trans ahe,B8⟩,λq hq=>(Of q (.inl (BT q hq))).trans (old q hq),ϡ uZ (ϡ cr.gO jx.size)⟩
def R8{Stop:Sim.ay->ϐ->Ψ->Prop}(h:KI b σ wl pv bv tv B arg w)
 (K:∀(M1:Sim.ay) (w1 mn:Ψ) (lb bk:Nat) (ρ:Ren) (x0:υ) (T:Array υ),LO b ρ mn pv bv tv B lb bk b.aC.length w.heap.size w w1->lb<mn.heap.size->(∀q,M1.has q->q<w1.heap.size)->(∀a q,ρ a q->M1.O q)->(∀q,q<w.heap.size->M1.O q)->
   aV ρ ((((#[x0]++ϭ 40 ω:Array υ).setIfInBounds 1 (π (φ ⟨lb,0,ν⟩))).setIfInBounds 2 (ζ ν 0 0)).setIfInBounds 3 (ξ κ 0)) T->Walk ϋ θ Stop M1 (rg 38 T [.code (.seq rv (.seq (.region 4 jB θ) oY))] [] .normal cs) w1):
 Walk ϋ θ Stop (allM w) (rg 38 (#[arg]++ϭ 40 ω) [.code (.seq (.region 0 p0 χ) (.seq rv (.seq (.region 4 jB θ) oY)))] [] .normal cs) w:=by
 letI:=jC
 obtain⟨a',fE,gH,ez,rfl,ra,rp,Qg,rt⟩:=X6 h.arg;obtain⟨A2,n2,c2,ebv,en2,-⟩:=h.book.aC.Φ;obtain⟨T7,aeS⟩:=anz (by rw[ebv] at Qg;exact Qg)
 refine fZ (iu ?_)
 rw[s0];obtain⟨o,ho,bL,hd,hg⟩:=m00;have xS:(#[Value.agg #[a',fE,gH,ez]]++ϭ 40 ω:Array υ).getD 0 ω=η #[a',fE,gH,ez]:=by simp[î]
 refine Dg ho (cx hg) rfl λaa hk=>⟨_,_,_,.inl (anU _ aa bL xS),zg,?_⟩
 rw[hd];have Iy:(Value.agg #[a',fE,gH,ez]).cells=#[a',fE,gH,ez]:=rfl;rw[Iy];have hM:∀q,((allM w).grow aa (aa.alloc (Ξ #[a',fE,gH,ez] 26))).has q->q<(aa.alloc (Ξ #[a',fE,gH,ez] 26)).heap.size:=by
  rintro q ((hq|hq) |hq)
  ·have hq:q<w.heap.size:=hq
   have:=hk.size;rw[fy];omega
  ·exact hq.2
  ·exact hq.elim
 have BT:∀q,q<w.heap.size->((allM w).grow aa (aa.alloc (Ξ #[a',fE,gH,ez] 26))).O q:=λq hq=>.inl hq
 have Io:((allM w).grow aa (aa.alloc (Ξ #[a',fE,gH,ez] 26))).O aa.heap.size:=.inr ⟨ϊ _,by rw[fy];omega⟩
 have old:∀q,q<w.heap.size->(aa.alloc (Ξ #[a',fE,gH,ez] 26)).heap[q]?=w.heap[q]?:=λq hq=>(lz (ϟ hq hk.size)).trans (hk.kept q (.inl hq))
 have U4:cg C0 σ wl (aa.alloc (Ξ #[a',fE,gH,ez] 26)):=uQ h.core (by rw[fy];have:=hk.size;omega) λa q hq=>old q (h.core.dq a q hq)
 have hW:=wS (o:=.cells #[ξ κ b.ab,pv,bv,tv] 26 (0,4)) U4 (q:=aa.heap.size) kQ (λa ha=>by have:=h.core.dq a _ ha;have:=hk.size;omega) (.cells 26 ⟨rfl,λj h1 h2=>by
  have:j=0\/j=1\/j=2\/j=3:=by simp at h1;omega
  have hle:=zk σ wl.heap.size aa.heap.size;rcases this with rfl|rfl|rfl|rfl
  ·exact ra.mono hle
  ·exact rp.mono hle
  ·exact Qg.mono hle
  ·exact rt.mono hle⟩ (.inr ⟨rfl,by simp⟩))
 obtain⟨mn,Cu⟩:∃mn,mn=wl.alloc (Ξ #[ξ κ b.ab,pv,bv,tv] 26 (0,4)):=⟨_,rfl⟩
 obtain⟨lb,vp⟩:∃lb,lb=wl.heap.size:=⟨_,rfl⟩
 obtain⟨bk,ah⟩:∃bk,bk=aa.heap.size:=⟨_,rfl⟩
 have Cf:mn.heap[lb]?=φ (Ξ #[ξ κ b.ab,pv,bv,tv] 26 (0,4)):=by rw[Cu,vp];exact kQ
 have NK:(aa.alloc (Ξ #[a',fE,gH,ez] 26)).heap[bk]?=φ (Ξ #[a',fE,gH,ez] 26):=by rw[ah];exact kQ
 have mP:∀a q,ext σ lb bk a q->∃o,mn.heap[a]?=φ o/\mw o:=by
  rintro a q (ha| ⟨rfl,rfl⟩)
  ·obtain⟨o,h1,h2⟩:=h.fixed a q ha
   exact⟨o,by rw[Cu];exact(lz (h.core.dL _ _ ha)).trans h1,h2⟩
  ·exact⟨_,Cf,⟨rfl,by simp⟩⟩
 have IN:bO mn.heap:=by rw[Cu];exact h.nb.push λh=>h
 have pB:B<=mn.heap.size:=by rw[Cu,fy];exact Aks h.hB
 have It:aQ mn B b pv bv tv:=by rw[Cu];exact h.book.still ((Δ.refl wl).alloc h.hB _)
 have asy:w.heap.size<=bk:=by rw[ah];exact hk.size
 rw[<-Cu,<-vp,<-ah] at hW;rw[<-ah] at Io |-
 have uZ:w.heap.size<=(aa.alloc (Ξ #[a',fE,gH,ez] 26)).heap.size:=by rw[fy];have:=hk.size;omega
 revert hM BT Io old hW NK uZ
 generalize (allM w).grow aa (aa.alloc (Ξ #[a',fE,gH,ez] 26))=M1;clear U4;generalize aa.alloc (Ξ #[a',fE,gH,ez] 26)=w1;intro hM BT old Io hW NK uZ;obtain⟨o,ho,bL,hd,hg⟩:=m01;refine dJ ho (cx hg) rfl (λaa _=>⟨_,run_assign _ aa bL,eE⟩) ?_
 rw[hd];obtain⟨o,ho,bL,hd,hg⟩:=m02;refine dJ ho (cx hg) rfl (λaa _=>⟨_,run_assign _ aa bL,eE⟩) ?_
 rw[hd];refine jl ?_
 obtain⟨x0,xW⟩:=sN (ext σ lb bk) (η #[a',fE,gH,ez]);have c0: mn.cell? ⟨lb,0,ν⟩=φ (ξ κ b.ab):=mH Cf rfl rfl;have c1: mn.cell? ⟨lb,1,ν⟩=φ pv:=mH Cf rfl rfl;have Hc: mn.cell? ⟨lb,2,ν⟩=φ bv:=mH Cf rfl rfl;have c3: mn.cell? ⟨lb,3,ν⟩=φ tv:=mH Cf rfl rfl;have ai:lb<mn.heap.size:=(ϛ.1 Cf).1
 have Fj:=apl (ρ:=ext σ lb bk) (p:=π (φ ⟨lb,0,ν⟩)) (p':=π (φ ⟨bk,0,ν⟩)) xW (.ptr ⟨.inr ⟨rfl,rfl⟩,rfl,rfl⟩);exact K _ _ mn lb bk _ x0 _ ⟨hW,.inl h.iy,IN,mP,.inr ⟨rfl,rfl⟩,pB,It,c0,c1,Hc,c3,⟨_,_,_,T7,c2,NK,by rw[aeS,<-en2];rfl⟩,old,uZ⟩ ai hM (λa q hq=>by
  rcases hq with hq| ⟨_,rfl⟩
  ·exact BT q (h.core.dq _ _ hq)
  ·exact Io) BT Fj
def stA(h:KI b σ wl pv bv tv B arg w)(ag:bT b 0=0):
 Walk ϋ θ (Ss b pv bv tv B w.heap.size w cs) (allM w) (rg 38 (#[arg]++ϭ 40 ω) [.code (.seq (.region 0 p0 χ) (.seq rv (.seq (.region 4 jB θ) oY)))] [] .normal cs) w:=
 R8 h λM1 w1 mn lb bk ρ x0 T hP vp hM pD BT Fj=>api ag hP hM pD BT Fj (akd hP.hB hP.book ag hP.c0 hP.c1 hP.c2 hP.c3 vp)
end Go.Jn
namespace Go.Jn
open Go Go.Proofs Go.Sim Go.Conc
section
variable {P:ϕ}{main:Bool}
variable {f:Â}{t:Array υ}{k:List Item}{D:List È}{kd:ű}{cs:List Ϛ}
def apz(ho:ops[i]?=φ o)(hg:Ä o (Ê ops t)=χ)(hd:o.dst=ν)(aa:Ψ):
 Ϙ P main (rg f t (.inRegion ops (i::rest)::k) D .normal cs) aa=.go (rg f t (.inRegion ops rest::k) D .normal cs) aa #[]:=by
 simp[Ϙ,ϱ,ho,hg,đ,hd]
def YR(ho:ops[i]?=φ o)(hg:Ä o (Ê ops t)=θ)(ag:o.op=.assign (.const v))(aa:Ψ):
 ∃es,Ϙ P main (rg f t (.inRegion ops (i::rest)::k) D .normal cs) aa=.go (rg f (aA t o.dst v) (.inRegion ops rest::k) D .normal cs) aa es:=
 ⟨_,J8 ho hg rfl (es:=#[]) (by rw[execOp,ag];rfl)⟩
end
def ny(p:ϕ):Nat->ϐ->ϐ->Prop
 |0,g,cz=>g=cz
 |n+1,g,cz=>g.callers≠ []/\∃dP,(∀w,∃es,Ϙ p θ g w=.go dP w es)/\ny p n dP cz
def ny.trans{p:ϕ}{b:Nat}{y z:ϐ}(k:ny p b y z):∀ {a:Nat} {x:ϐ},ny p a x y->ny p (a+b) x z
 |0,x,h=>by cases(show x=y from h);rw[Nat.zero_add];exact k
 |a+1,x,h=>by rw[Nat.succ_add];exact⟨h.1,h.2.choose,h.2.choose_spec.1,ny.trans k h.2.choose_spec.2⟩
def ny.cons{p:ϕ}{n:Nat}{x y z:ϐ}(hc:x.callers≠ [])(h:∀w,∃es,Ϙ p θ x w=.go y w es)(k:ny p n y z):ny p (n+1) x z:=⟨hc,y,h,k⟩
abbrev lp:ϕ:= @Tw.prog jU
def Hv:lp.funcs[21]?=φ stub:=by
 letI:=jU
 exact(congrArg (·[21]?) Tw.P6).trans Tw.Be
section
variable {x:Array υ}{fr:Ϛ}{cs:List Ϛ}
def YY:ny lp 3 (aT (Ý lp 21 x .normal) (fr::cs))
 (rg 21 (aA (x++ϭ (1 - x.size) ω) (φ 1) (.bool θ)) (.inRegion lg [1,2]:: [.code .ret]) [] .normal (fr::cs)):=by
 rw[BL Hv (c:=.seq (.region 0 lg χ) .ret) rfl x .normal];refine .cons (by simp) (λw=>⟨#[],by simp[Ϙ,ϱ];rfl⟩) ?_
 refine .cons (by simp) (λw=>⟨#[],by simp[Ϙ,ϱ];rfl⟩) ?_
 refine .cons (by simp) (λw=>YR (o:=lg[0]) rfl rfl rfl w) ?_
 rfl
def apC(hx:x.size<=1):ny lp 8 (aT (Ý lp 21 x .normal) (fr::cs)) (aT (fr.finish (.bool θ)) cs):=by
 refine ny.trans (a:=3) (b:=5) ?_ YY
 have hs:(x++ϭ (1 - x.size) ω).size=1:=by simp;omega
 generalize (x++ϭ (1 - x.size) ω)=t at hs;have e1:aA t (φ 1) (.bool θ)=t:=by
  show t.setIfInBounds 1 _=t;rw[Array.setIfInBounds_eq_of_size_le (by omega)]
 rw[e1];have hy:Ä lg[1] (Ê lg t)=χ:=by
  have:t[1]?=ν:=Ė (by omega)
  show(Ê lg t 0==φ θ)=χ;unfold Ê;show((match(t[1]?:Option υ) with|some (Value.bool b)=>φ b|_=>ν)==φ θ)=χ
  rw[this];rfl
 refine .cons (by simp) (λw=>⟨#[],apz (o:=lg[1]) rfl hy rfl w⟩) ?_
 refine .cons (by simp) (λw=>YR (o:=lg[2]) rfl rfl rfl w) ?_
 have e0:(aA t (φ 0) (.bool θ)).getD 0 ω=.bool θ:=by simp[aA,hs]
 have e2:aA t lg[2].dst (.bool θ)=aA t (φ 0) (.bool θ):=rfl;rw[e2]
 revert e0
 generalize aA t (φ 0) (.bool θ)=t2;intro e0;refine .cons (by simp) (λw=>⟨#[],by simp[Ϙ,ϱ];rfl⟩) ?_
 refine .cons (by simp) (λw=>⟨#[],by simp[Ϙ,ϱ];rfl⟩) ?_
 refine .cons (by simp) (λw=>⟨#[],?_⟩) rfl
 have e:Ï lp θ ⟨21,t2,[.code .ret],[],.returning,.normal,ν⟩ (fr::cs) ν w=.go (aT (fr.finish (.bool θ)) cs) w #[]:=by
  have hr:(results stub t2).runT lp w #[]=(.ok (.bool θ) w,#[]):=by
   have e:results stub t2=Ļ (.bool θ):=by
    unfold results;rw[show stub.results=#[.tmp 0] from rfl]
    simp only[į,Akn,Aki,e0];rfl
   rw[e];rfl
  unfold Ï;simp only[Hv,hr,vR,ß,doReturn];rfl
 exact e
def apD(hx:2<=x.size)(w:Ψ):∃o aa es,Ϙ lp θ (rg 21 (aA (x++ϭ (1 - x.size) ω) (φ 1) (.bool θ)) (.inRegion lg [1,2]:: [.code .ret]) [] .normal (fr::cs)) w=.ended o aa es:=by
 have hs:2<=(x++ϭ (1 - x.size) ω).size:=by rw[Array.size_append,Array.size_replicate];omega
 generalize (x++ϭ (1 - x.size) ω)=t at hs;have hy:Ä lg[1] (Ê lg (aA t (φ 1) (.bool θ)))=θ:=by
  have:(aA t (φ 1) (.bool θ))[1]?=φ (.bool θ):=Aj0 (by omega)
  show(Ê lg (aA t (φ 1) (.bool θ)) 0==φ θ)=θ;unfold Ê;show((match((aA t (φ 1) (Value.bool θ))[1]?:Option υ) with|some (Value.bool b)=>φ b|_=>ν)==φ θ)=θ
  rw[this];rfl
 generalize (aA t (φ 1) (.bool θ))=t2 at hy;have ho:lg[1]?=φ lg[1]:=rfl;have hx:∃h,(execOp (aX t2) lg[1]).runT lp w #[]=(.halt (.stuck h) w,#[]):=⟨_,rfl⟩
 obtain⟨h,hx⟩:=hx;have e1:Þ ⟨21,t2,.inRegion lg [1,2]:: [.code .ret],[],.run,.normal,ν⟩=aX t2:=uU;simp only[Ϙ,ϱ,ho,é,hy,ϻ,if_true,Ų,š,Ò,e1,hx,ß];exact⟨_,_,_,rfl⟩
end
end Go.Jn
namespace Go.Jn
open Go Go.Proofs Go.Sim Go.Conc
def sD(w:Ψ):Prop:=∃fr,w.heap[0]?=φ (Ξ #[.func (.func 234) #[] #[],.func (.func 236) #[] #[]] 146 fr)
def DC:Prop:=∀ {gs:Array ϐ} {w:Ψ} {t:Θ} {q:Nat->Nat} {x:Array υ} {fr:Ϛ} {cs:List Ϛ} (sl:Option (Nat×Nat)),x.size<=1->sD w->
 Fr ϋ gs w t q (aT (Ý ϋ 21 x .normal) (fr::cs))->
 ∃N aY w' bB t' q',ô ϋ N (Ϫ gs w sl) t=(.next (Ϫ aY w' bB),t')/\Fr ϋ aY w' t' q' (aT (fr.finish (.bool θ)) cs)/\Base w w'/\∀b,b<w.heap.size->w'.heap[b]?=w.heap[b]?
abbrev oA(S:Tl):=Rel ϋ (@Tw.F jU) C1 S G0
def oA.all{M:Sim.ay}(h:oA S M ρ g w g' w'):oA S (allM w') ρ g w g' w':=
 ⟨h.gr,h.core,h.iy,Bu h.core,λ_ hb=>ly.1 hb⟩
def ot(ρ:Ren)(wl:Ψ)(b:Nat):Prop:=∀a,ρ a b->∃o,wl.heap[a]?=φ o/\mw o
def Ea{M b6:Sim.ay}{aF:Ψ}(h:iO M ρ wl w' b6 aM aa aF){b:Nat}(hb:b<w'.heap.size)(hf:ot ρ wl b):ot aM aa b:=λa ha=>by
 rcases h.new a b ha with x| ⟨_,y⟩
 ·obtain⟨o,ho,fo⟩:=hf a x
  exact⟨o,h.lD a o ho fo,fo⟩
 ·omega
def ap5(hR:oA S (allM w') ρ g wl g' w')
 (dc:∃b fr ba cs bu,g=aT fr cs/\g'=aT ba bu/\eo C1 S ρ b fr ba/\Below C1 S ρ b cs bu)
 {nx:Tape->ϐ×Ψ}(hn:∀T:Tape,(∃es,Ϙ lp θ g (bq wl T)=.go (nx T).1 (nx T).2 es)/\Plain (nx T).1)
 {t:Θ}{q:Nat->Nat}(sl:Option (Nat×Nat))(hF:Fr ϋ gs w' t q g'):
 ∃N jw aF oZ pa tz eB T aM,ô ϋ N (Ϫ gs w' sl) t=(.next (Ϫ jw aF oZ),pa)/\Fr ϋ jw aF pa tz eB/\oA S (allM aF) aM (nx T).1 (nx T).2 eB aF/\Base w' aF/\
  (∀b,b<w'.heap.size->ot ρ wl b->aF.heap[b]?=w'.heap[b]?/\ot aM (nx T).2 b):=by
 have key:∀aa:Ψ,∃y:ϐ×Ψ×Array Event,bR (allM w') w' aa->∃(T:Tape) (aM:Ren),Ϙ ϋ θ g' aa=.go y.1 y.2.1 y.2.2/\eZ (allM w') aa y.2.1 y.2.2/\
  oA S ((allM w').grow aa y.2.1) aM (nx T).1 (nx T).2 y.1 y.2.1/\iO (allM w') ρ wl aa ((allM w').grow aa y.2.1) aM (nx T).2 y.2.1:=by
  intro aa;by_cases k:bR (allM w') w' aa
  ·obtain⟨T,aM,eB,aF,es,a1,a2,a3,a4⟩:=X7 aeZ (hR.keep k) dc hn θ
   exact⟨(eB,aF,es),λ_=>⟨T,aM,a1,a2,a3,a4⟩⟩
  ·exact⟨(g',aa,#[]),λx=>absurd x k⟩
 have bh:g'.status=.running:=by obtain⟨b,fr,ba,cs,bu,_,rfl,_⟩:=dc;rfl
 have hW:Walk ϋ θ (λb6 eB aF=>∃(T:Tape) (aM:Ren),oA S b6 aM (nx T).1 (nx T).2 eB aF/\iO (allM w') ρ wl w' b6 aM (nx T).2 aF) (allM w') g' w':=by
  refine .step bh (λaa=>å (key aa)) (λaa k=>?_) λaa k=>.stop λau k₂=>?_
  ·obtain⟨T,aM,a1,a2,a3,a4⟩:=Î (key aa) k
   exact⟨a1,a2⟩
  ·obtain⟨T,aM,a1,a2,a3,a4⟩:=Î (key aa) k
   exact⟨T,aM,a3.keep k₂,((iO.keep k).trans a4 hR.low).trans (iO.keep k₂) hR.low⟩
 obtain⟨N,jw,b6,eB,aF,oZ,pa,tz,r1,_,⟨⟨T,aM,zG,cr⟩,hb⟩,uY⟩:=DK (Gp hW (G7 w')) gs sl t q hF (λb hb=>ly.1 hb)
 exact⟨N,jw,aF,oZ,pa,tz,eB,T,aM,r1,uY,oA.all zG,hb,λb hb hf=>⟨cr.jd b (ly.2 hb) hf,Ea cr hb hf⟩⟩
def Yn{Q:ϐ->Ψ->Prop}(B0:∀g w,Q g w->g.callers=[]){cz:ϐ}:∀ {n:Nat} {g:ϐ} {w:Ψ},ny lp n g cz->Sim.Safe lp Q g w->Sim.Safe lp Q cz w
 |0,g,w,h,hs=>by cases(show g=cz from h);exact hs
 |n+1,g,w,h,hs=>by
  obtain⟨hc,dP,h1,h2⟩:=h;cases hs with
  |stop hq=>exact absurd (B0 _ _ hq) hc
  |step nx hn hs=>
   obtain⟨⟨es,k1⟩,_⟩:=hn w.tape;obtain⟨es',k2⟩:=h1 (bq w w.tape);rw[k2] at k1;simp only[GStep.go.injEq] at k1;have:=hs w.tape;rw[<-k1.1,<-k1.2.1] at this;exact Yn B0 h2 this
def ap4(An:DC){Q:ϐ->Ψ->Prop}(B0:∀g w,Q g w->g.callers=[])(hs:Sim.Safe lp Q g wl):
 ∀ {n:Nat} {cz:ϐ},ny lp n g cz->∀ {ρ:Ren} {g':ϐ} {w':Ψ},oA S (allM w') ρ cz wl g' w'->sD w'->ot ρ wl 0->
 ∀ {gs:Array ϐ} {t:Θ} {q:Nat->Nat} (sl:Option (Nat×Nat)),Fr ϋ gs w' t q g'->
 ∃N jw aF oZ pa tz eB aM dP aa,ô ϋ N (Ϫ gs w' sl) t=(.next (Ϫ jw aF oZ),pa)/\Fr ϋ jw aF pa tz eB/\Q dP aa/\oA S (allM aF) aM dP aa eB aF/\Base w' aF/\
  (∀b,b<w'.heap.size->ot ρ wl b->aF.heap[b]?=w'.heap[b]?):=by
 induction hs with
 | @stop g w h=>
   intro n cz hl ρ g' w' hR hM h0 gs t q sl hF;cases n with
   |zero=>cases(show g=cz from hl);exact⟨0,gs,w',sl,t,q,g',ρ,g,w,rfl,hF,h,hR,G7 _,λ_ _ _=>rfl⟩
   |succ n=>exact absurd (B0 _ _ h) hl.1
 | @step g w nx hn hs ih=>
   intro n cz hl ρ g' w' hR hM h0 gs t q sl hF;have along:∀ {n:Nat} {cz:ϐ},ny lp (n+1) g cz->∀ {ρ:Ren} {g':ϐ} {w':Ψ},oA S (allM w') ρ cz w g' w'->sD w'->ot ρ w 0->∀ {gs:Array ϐ} {t:Θ} {q:Nat->Nat} (sl:Option (Nat×Nat)),Fr ϋ gs w' t q g'->
    ∃N jw aF oZ pa tz eB aM dP aa,ô ϋ N (Ϫ gs w' sl) t=(.next (Ϫ jw aF oZ),pa)/\Fr ϋ jw aF pa tz eB/\Q dP aa/\oA S (allM aF) aM dP aa eB aF/\Base w' aF/\
     (∀b,b<w'.heap.size->ot ρ w b->aF.heap[b]?=w'.heap[b]?):=by
    intro n cz hl ρ g' w' hR hM h0 gs t q sl hF;obtain⟨hc,dP,h1,h2⟩:=hl;obtain⟨⟨es,k1⟩,_⟩:=hn w.tape;obtain⟨es',k2⟩:=h1 (bq w w.tape);rw[k2] at k1;simp only[GStep.go.injEq] at k1;obtain⟨e1,e2,_⟩:=k1;have:=ih w.tape (n:=n) (cz:=cz) (e1▸h2) (ρ:=ρ) (g':=g') (w':=w') (e2▸hR) hM (e2▸h0) sl hF;rw[<-e2] at this;exact this
   cases n with
   |succ n=>exact along hl hR hM h0 sl hF
   |zero=>
    cases(show g=cz from hl)
    have gr:=hR.gr;generalize eg:g=gg at gr;generalize TW:g'=gg' at gr;cases gr with
    | @inside b fr ba cs bu cq hL=>
      subst eg TW;obtain⟨N,jw,aF,oZ,pa,tz,eB,T,aM,r1,uY,zG,hb,hk⟩:=ap5 hR ⟨b,fr,ba,cs,bu,rfl,rfl,cq,hL⟩ hn sl hF;have hz:0<w'.heap.size:=by obtain⟨_,h⟩:=hM;exact(ϛ.1 h).1
      have Nr:sD aF:=by obtain⟨f,h⟩:=hM;exact⟨f,(hk 0 hz h0).1.trans h⟩
      obtain⟨N2,zw,eF,QC,Q1,Qe,Ee,bM,cz,au,r2,Nq,hq,Nv,NN,Oo⟩:=ih T (n:=0) rfl zG Nr (hk 0 hz h0).2 oZ uY;exact⟨N+N2,zw,eF,QC,Q1,Qe,Ee,bM,cz,au,vO _ _ _ r1 r2,Nq,hq,Nv,sG hb NN,λb ao hf=>(Oo b (ϟ ao hb.size) (hk b ao hf).2).trans (hk b ao hf).1⟩
    | @hole b f hf x x' hx fr ba cs bu h aw hL=>
      have hf:f=21:=by simpa [C1] using hf
      subst hf eg TW;have hxs:=hx.1;by_cases h2:x.size<=1
      ·obtain⟨N,jw,aF,oZ,pa,tz,r1,uY,hb,hk⟩:=An sl (by omega) hM hF
       have Nr:sD aF:=by obtain⟨f,h⟩:=hM;exact⟨f,(hk 0 (ϛ.1 h).1).trans h⟩
       have core:=uQ hR.core hb.size λa b hab=>hk b (hR.core.dq a b hab)
       have zG:oA S (allM aF) ρ (aT (fr.finish (.bool θ)) cs) w (aT (ba.finish (.bool θ)) bu) aF:=
        ⟨.inside (D9 h (.bool θ) aw) hL,core,hR.iy,Bu core,λ_ hb=>ly.1 hb⟩
       obtain⟨N2,zw,eF,QC,Q1,Qe,Ee,bM,cz,au,r2,Nq,hq,Nv,NN,Oo⟩:=along (n:=7) (apC h2) zG Nr h0 oZ uY;exact⟨N+N2,zw,eF,QC,Q1,Qe,Ee,bM,cz,au,vO _ _ _ r1 r2,Nq,hq,Nv,sG hb NN,λb ao hf=>(Oo b (ϟ ao hb.size) hf).trans (hk b ao)⟩
      ·exfalso
       have iE:=Yn B0 (YY (x:=x) (fr:=fr) (cs:=cs)) (.step nx hn hs);cases iE with
       |stop hq=>exact absurd (B0 _ _ hq) (by simp)
       |step nx2 dn _=>
        obtain⟨⟨es,k1⟩,_⟩:=dn w.tape;obtain⟨o,aa,es',k2⟩:=apD (x:=x) (fr:=fr) (cs:=cs) (by omega) (bq w w.tape)
        rw[k2] at k1;cases k1
end Go.Jn
namespace Go.Jn
open Go Go.Proofs Go.Conc
section
variable {H:Type}{enc:ό×υ->H}
def akc{a:Assume}{C:Checked}{os:Os}{s:ChangeSpec}{conds:List PathCond}{apart fresh handsOn again:Bool}{X:Ψ->Array υ->Prop}
 (hX:∀(w w':Ψ) (args:Array υ),w.heap=w'.heap->X w args->X w' args)
 (own:ownKnob C.prog.godebug=ν)(started:os.Started)(ED:C.prog.funcs[f]?=φ fn)
 (witness:∃(w:Ψ) (tape:Tape) (i:Input),w.os=os/\(w.forCall tape i).Shaped C.prog/\i.vars=[]/\Input.okWide C.prog (w.forCall tape i) .any w.heap.size f i/\
   ((s.pre enc C.prog fn conds apart (w.forCall tape i).memory i.args/\X (w.forCall tape i).memory i.args)/\sizedMet enc C.prog fn (OpenSpec.ofChange s) apart (w.forCall tape i).memory i.args)/\a.holds C.prog (lone (Ý C.prog f i.args .normal) [] (w.forCall tape i)))
 (runs:∀(W:Ψ) (base:Nat) (args:Array υ) (ds gs:List (DataW H)) (before:List MemPlace),
   (∀(j:Nat) t v,fn.params[j]?=φ t->args[j]?=φ v->Value.okWide C.prog W .any base t v)->
   DataW.Whole enc C.prog fn.params.toList s.vars apart W args.toList ds gs before->W.ShapedOpen C.prog->X W args->
   ∃M last o w' t',ô C.prog (M+1) (solo (G (Ý C.prog f args .normal) []) W) #[]=(.ended o w',t')/\runN C.prog M (solo (G (Ý C.prog f args .normal) []) W)=.next last/\
    step C.prog last=.ended o w'/\Conc.Good C.prog (λv W'=>s.post enc C.prog fn apart fresh handsOn again W args v W') last o w' t'):
 ReturnsInLeavingWide a C os f .any (λw args=>(s.pre enc C.prog fn conds apart w args/\X w args)/\sizedMet enc C.prog fn (OpenSpec.ofChange s) apart w args) (s.post enc C.prog fn apart fresh handsOn again):=by
 refine returnsInLeavingWide_of_good own started witness ?_
 intro w tape i _ xQ _ cD aiu ase;obtain⟨_,_,_,fn',ahJ,_,_,_,_,vD⟩:=cD;have e:fn'=fn:=Ϟ (ahJ.symm.trans ED);subst e;obtain⟨⟨⟨ds,gs,before,hw,hc⟩,hx⟩,hz⟩:=aiu;have Ct:=DataW.Whole.of_heap (w':=w.forCall tape i) (by rfl) hw
 obtain⟨M,last,o,w',t',h1,h2,h3,v,e1,h4,h5⟩:=runs (w.forCall tape i) w.heap.size i.args ds gs before vD Ct xQ (hX _ _ _ (by rfl) hx)
 exact⟨M,last,o,w',t',h1,h2,h3,v,e1,ChangeSpec.post_blind h4,h5⟩
end
end Go.Jn
namespace Go.Jn
open Go Go.Proofs Go.Sim Go.Tw
def fI(W:Ψ)(a:Nat):Prop:=∃c e fr,W.heap[a]?=φ (.cells c e fr)
def MA{p:Addr}(h: W.cell? p=φ v):fI W p.block:=by
 unfold World.cell? at h;split at h
 ·rename_i c e fr ho;exact⟨c,e,fr,ho⟩
 ·cases h
def Mz(h:fI W a):a<W.heap.size:=by
 obtain⟨c,e,fr,h⟩:=h;exact(ϛ.1 h).1
def BG:ϋ.cellsOf 3=1:=by kernel_rfl
def Ts:ϋ.cellsOf 9=1:=by kernel_rfl
def adq:ϋ.cellsOf 22=1:=by kernel_rfl
def adr:ϋ.cellsOf 23=1:=by kernel_rfl
def ads:ϋ.cellsOf 24=1:=by kernel_rfl
def adt:ϋ.cellsOf 26=4:=by kernel_rfl
def adu:ϋ.cellsOf 33=1:=by kernel_rfl
def Hg:ϋ.cellsOf 37=2:=by kernel_rfl
def adv:ϋ.cellsOf 57=1:=by kernel_rfl
def adw:ϋ.cellsOf 59=3:=by kernel_rfl
def adx:ϋ.cellsOf 72=4:=by kernel_rfl
def Tt:ϋ.cellsOf 95=3:=by kernel_rfl
section
variable {H:Type}{enc:ό×υ->H}{W:Ψ}{n:Nat}{cs:List υ}{y:DataW H×List MemPlace}
abbrev oC(enc:ό×υ->H)(W:Ψ)(n:Nat)(t:ό)(cs:List υ):Option (DataW H×List MemPlace):=DataW.trod enc ϋ W 0 (λ_=>θ) θ n t cs
def CX{t:ό}{sz:Nat}{R:α->List υ->Prop}(ht:ϋ.underlying t=φ (.slice e))(hc:ϋ.cellsOf e=sz)(aN:0<sz)
 (N7:∀(m:Nat) (cs:List υ) (y:DataW H×List MemPlace),oC enc W m e cs=φ y->cs.length=sz->∃x,R x cs)(h:oC enc W n t cs=φ y):
 ∃v xs,cs=[v]/\Row W W.heap.size sz R v xs/\Sv (fI W) v:=by
 rcases DataW.trod_slice ht h with⟨rfl,_⟩ | ⟨a,len,cap,elems,rest,m,_,rfl,_,_,hl,hm,hlen,ahC,aiA,_⟩
 ·exact⟨_,[],rfl,Row.nil,λA n c e=>by cases e⟩
 ·have one:∀i,i<cap->∃cs y,W.cells? 0 (a.add (i * sz)) sz=φ cs/\oC enc W m e cs=φ y:=λi hi=>by
   by_cases h1:i<len
   ·have:=ahC i h1
    rw[Ã (by omega),hc,ď] at this
    obtain⟨cs,h2,h3⟩:=this;exact⟨cs,_,h2,h3⟩
   ·obtain⟨hr,hj⟩:=aiA rfl
    have:=hj (i - len) (by omega)
    rw[Ã (by omega),hc,ď,show len+(i - len)=i by omega] at this
    obtain⟨cs,h2,h3⟩:=this;exact⟨cs,_,h2,h3⟩
  have two:∀i,i<cap->∃x cs,R x cs/\cs.length=sz/\∀j u,cs[j]?=φ u-> W.cell? (a.add (i * sz+j))=φ u:=λi hi=>by
   obtain⟨cs,y,h1,h2⟩:=one i hi;obtain⟨_,h3,h4⟩:=World.cells?_some h1
   obtain⟨x,hx⟩:=N7 m cs y h2 h3;refine⟨x,cs,hx,h3,λj u hu=>?_⟩
   have hj:j<sz:=by have:=(List.getElem?_eq_some_iff.1 hu).1;omega
   rw[<-Sx,h4 j hj];exact hu
  have hS:0<cap->fI W a.block:=λte=>by
   obtain⟨x,cs,_,h3,h4⟩:=two 0 te;obtain⟨u,hu⟩:∃u,cs[0]?=φ u:=⟨cs[0]'(by omega),Ã _⟩
   have:=MA (h4 0 u hu);rw[b9] at this;exact this
  refine⟨_,List.ofFn λi:Fin len=>å (two i.1 (by omega)),rfl,⟨φ a,cap,by rw[List.length_ofFn],by rw[List.length_ofFn];exact hl,hm,λhx=>⟨a,rfl,?_,λi x hi=>?_⟩⟩,λA n c e h0=>?_⟩
  ·refine Mz (hS ?_)
   rcases Akr len with h0|h0
   ·subst h0;exact absurd rfl hx
   ·omega
  ·rw[List.getElem?_ofFn] at hi
   split at hi
   ·rename_i ao
    cases hi;exact Î (two i (by omega))
   ·cases hi
  ·cases e
   rcases Akr cap with h|h
   ·exact .inr h
   ·exact .inl (hS h)
def Cz(h:oC enc W n 3 cs=φ y):∃x:Int,cs=[ξ κ x]:=by
 obtain⟨x,rfl,_⟩:=DataW.trod_int Tryz.underlying3 h;exact⟨x,rfl⟩
def YX(h:oC enc W n 9 cs=φ y):∃s:ByteArray,cs=[.string s]/\s.size<=maxLen:=by
 obtain⟨x,rfl,_,h⟩:=DataW.trod_string Tryz.underlying9 h;exact⟨x,rfl,h⟩
def oE{t:ό}(ht:ϋ.underlying t=φ (.struct fs))(h:oC enc W n t cs=φ y)(i:Nat){u:ό}{o sz:Nat}(hc:ϋ.cellsOf u=sz)(hf:∃f,fs[i]?=φ f/\f.type=u/\f.offset=o):
 ∃m z,oC enc W m u ((cs.drop o).take sz)=φ z:=by
 obtain⟨f,hf,rfl,rfl⟩:=hf;obtain⟨xs,m,_,_,_,hl,h1⟩:=DataW.trod_struct ht h;have hi:i<xs.length:=by have:=(ϛ.1 hf).1;omega
 exact⟨m,xs[i],by rw[<-Ã hi,<-hc];exact h1 i f hf⟩
def PC{t:ό}(ht:ϋ.underlying t=φ (.struct fs))(h:oC enc W n t cs=φ y):cs.length=ϋ.cellsOf t:=by
 obtain⟨xs,m,_,_,hl,_⟩:=DataW.trod_struct ht h;exact hl
def J5(h:oC enc W n 37 cs=φ y):∃x:Span,Span.R x cs:=by
 have hl:=PC Tryz.underlying37 h;rw[Hg] at hl;obtain⟨a,b,rfl⟩:∃a b,cs=[a,b]:=by
  match cs,hl with
  | [a,b],_=>exact⟨a,b,rfl⟩
 obtain⟨_,_,h0⟩:=oE Tryz.underlying37 h 0 (u:=3) (o:=0) BG ⟨_,rfl,rfl,rfl⟩;obtain⟨_,_,h1⟩:=oE Tryz.underlying37 h 1 (u:=3) (o:=1) BG ⟨_,rfl,rfl,rfl⟩;simp only[Ako,Akp] at h0 h1;obtain⟨x0,e0⟩:=Cz h0;obtain⟨x1,e1⟩:=Cz h1;cases e0;cases e1
 exact⟨⟨x0,x1⟩,rfl⟩
def am8(h:oC enc W n 72 cs=φ y)(hl:cs.length=4):∃x:Piece,Piece.R x cs:=by
 obtain⟨a,b,c,d,rfl⟩:∃a b c d,cs=[a,b,c,d]:=by
  match cs,hl with
  | [a,b,c,d],_=>exact⟨a,b,c,d,rfl⟩
 obtain⟨_,_,h0⟩:=oE Tryz.underlying72 h 0 (u:=9) (o:=0) Ts ⟨_,rfl,rfl,rfl⟩;obtain⟨_,_,h1⟩:=oE Tryz.underlying72 h 1 (u:=37) (o:=1) Hg ⟨_,rfl,rfl,rfl⟩;obtain⟨_,_,h2⟩:=oE Tryz.underlying72 h 2 (u:=3) (o:=3) BG ⟨_,rfl,rfl,rfl⟩;simp only[Ako,Akp] at h0 h1 h2;obtain⟨s,e0,hs⟩:=YX h0;obtain⟨x,e1⟩:=J5 h1;obtain⟨z,e2⟩:=Cz h2;cases e0;cases e1;cases e2
 exact⟨⟨s,x,z⟩,rfl,hs⟩
def acN(h:oC enc W n 59 cs=φ y)(hl:cs.length=3):∃x:bN,bN.R W W.heap.size x cs/\∀u∈cs,Sv (fI W) u:=by
 obtain⟨a,b,c,rfl⟩:∃a b c,cs=[a,b,c]:=by
  match cs,hl with
  | [a,b,c],_=>exact⟨a,b,c,rfl⟩
 obtain⟨_,_,h0⟩:=oE Tryz.underlying59 h 0 (u:=9) (o:=0) Ts ⟨_,rfl,rfl,rfl⟩;obtain⟨_,_,h1⟩:=oE Tryz.underlying59 h 1 (u:=3) (o:=1) BG ⟨_,rfl,rfl,rfl⟩;obtain⟨_,_,h2⟩:=oE Tryz.underlying59 h 2 (u:=57) (o:=2) adv ⟨_,rfl,rfl,rfl⟩;simp only[Ako,Akp] at h0 h1 h2;obtain⟨s,e0,hs⟩:=YX h0;obtain⟨z,e1⟩:=Cz h1;obtain⟨v,xs,e2,hr,hv⟩:=CX (R:=Span.R) Tryz.underlying57 Hg (by omega) (λm cs y h _=>J5 h) h2
 cases e0;cases e1;cases e2
 refine⟨⟨s,z,xs⟩,⟨_,rfl,hs,hr⟩,λu hu=>?_⟩
 simp only[Ϧ,Λ,or_false] at hu;rcases hu with rfl|rfl|rfl
 ·intro A n c e;cases e
 ·intro A n c e;cases e
 ·exact hv
def Y3(h:oC enc W n 95 cs=φ y)(hl:cs.length=3):∃x:Tw.Tape,Tw.Tape.R W W.heap.size x cs/\∀u∈cs,Sv (fI W) u:=by
 obtain⟨a,b,c,rfl⟩:∃a b c,cs=[a,b,c]:=by
  match cs,hl with
  | [a,b,c],_=>exact⟨a,b,c,rfl⟩
 obtain⟨_,_,h0⟩:=oE Tryz.underlying95 h 0 (u:=33) (o:=0) adu ⟨_,rfl,rfl,rfl⟩;obtain⟨_,_,h1⟩:=oE Tryz.underlying95 h 1 (u:=37) (o:=1) Hg ⟨_,rfl,rfl,rfl⟩;simp only[Ako,Akp] at h0 h1;obtain⟨v,xs,e0,hr,hv⟩:=CX (R:=bI) Tryz.underlying33 BG (by omega) (λm cs y h _=>Cz h) h0
 obtain⟨x,e1⟩:=J5 h1;cases e0;cases e1
 refine⟨⟨xs,x⟩,⟨_,rfl,hr⟩,λu hu=>?_⟩
 simp only[Ϧ,Λ,or_false] at hu;rcases hu with rfl|rfl|rfl
 ·exact hv
 ·intro A n c e;cases e
 ·intro A n c e;cases e
def acR(h:oC enc W n 26 cs=φ y):∃(b:eR) (pv bv tv:υ),cs=[ξ κ b.ab,pv,bv,tv]/\GF (fI W) W W.heap.size b pv bv tv:=by
 have hl:=PC Tryz.underlying26 h;rw[adt] at hl;obtain⟨a,b,c,d,rfl⟩:∃a b c d,cs=[a,b,c,d]:=by
  match cs,hl with
  | [a,b,c,d],_=>exact⟨a,b,c,d,rfl⟩
 obtain⟨_,_,h0⟩:=oE Tryz.underlying26 h 0 (u:=3) (o:=0) BG ⟨_,rfl,rfl,rfl⟩;obtain⟨_,_,h1⟩:=oE Tryz.underlying26 h 1 (u:=22) (o:=1) adq ⟨_,rfl,rfl,rfl⟩;obtain⟨_,_,h2⟩:=oE Tryz.underlying26 h 2 (u:=23) (o:=2) adr ⟨_,rfl,rfl,rfl⟩;obtain⟨_,_,h3⟩:=oE Tryz.underlying26 h 3 (u:=24) (o:=3) ads ⟨_,rfl,rfl,rfl⟩;simp only[Ako,Akp] at h0 h1 h2 h3;obtain⟨z,e0⟩:=Cz h0;obtain⟨pv,ps,e1,r1,s1⟩:=CX (R:=Piece.R) Tryz.underlying22 adx (by omega) (λm cs y h hl=>am8 h hl) h1
 obtain⟨bv,bs,e2,r2,s2⟩:=CX (R:=λx cs=>bN.R W W.heap.size x cs/\∀u∈cs,Sv (fI W) u) Tryz.underlying23 adw (by omega) (λm cs y h hl=>acN h hl) h2
 obtain⟨tv,ts,e3,r3,s3⟩:=CX (R:=λx cs=>Tw.Tape.R W W.heap.size x cs/\∀u∈cs,Sv (fI W) u) Tryz.underlying24 Tt (by omega) (λm cs y h hl=>Y3 h hl) h3
 cases e0;cases e1;cases e2;cases e3
 exact⟨⟨z,ps,bs,ts⟩,_,_,_,rfl,r1,r2,r3,s1,s2,s3⟩
end
end Go.Jn
namespace Go.Jn
open Go Go.Proofs Go.Sim Go.Conc
def amR(h:∀c,C.clean c->C'.clean c){o:Obj}(x:jq C ρ o o'):jq C' ρ o o':=by
 cases x with
 |cells e hc hf=>exact .cells e hc hf
 |map clock hm=>exact .map clock hm
 |loop hl=>
  cases hl with
  |mk st qP fn ps qi body ht hd ha hb hp=>exact .loop (.mk st qP fn ps qi body ht hd (h _ ha) (h _ hb) λc hc=>h _ (hp c hc))
 |FY=>exact .FY
 |calls=>exact .calls
 |stringIter s p=>exact .stringIter s p
 |number lost ha=>exact .number lost ha
def aec(h:∀c,C.clean c->C'.clean c)(x:cg C ρ w w'):cg C' ρ w w':=
 ⟨x.dL,x.dq,x.fn,x.inj,λa b o hab ho=>by obtain⟨o',h1,h2⟩:=x.obj a b o hab ho;exact⟨o',h1,amR h h2⟩⟩
def Sp(f r:Nat)(g:ϐ)(_:Ψ):Prop:=∃(t:Array υ) (todo:List Item),t[r]?=φ (.bool θ)/\g=aT ⟨f,t,todo,[cQ],.returning,.normal,ν⟩ []
def DD:Tl:=⟨.skip,[],[],[],.normal⟩
def ajY{f:Nat}(hc:cC ϋ G0 c=θ)
 (hl:∀T,c.wp lp (λe bJ _=>e=.ret/\bJ.defers=[cQ]/\bJ.tmps[r]?=φ (.bool θ)) ⟨tl,[cQ]⟩ (bq wl T))
 (hW:cg C1 ρ wl w)(hg:ρ 0 0)(hn:bO wl.heap)(ht:aV ρ tl t'):
 Sim.Safe lp (Sp f r) (aT ⟨f,tl,[.code c,.code dt],[cQ],.run,.normal,ν⟩ []) wl:=by
 have hG:∀g,G0 g=θ->ρ g g:=λg nJ=>by
  have:g=0:=by simpa [G0] using nJ
  subst this;exact hg
 let b:Ϛ:={ (default:Ϛ) with fn:=f,kind:=.normal}
 have cq:eo CA DD ρ θ ⟨f,tl,[.code c,.code dt],[cQ],.run,.normal,ν⟩ ⟨f,t',[.code c],[],.run,.normal,ν⟩:=
  .mk f ht (.cons (.code c hc) .stop) .stop .run .none ⟨λh=>by simp at h,λ_=>rfl,λh=>absurd rfl h,λh=>by simp at h,rfl,λ_=>rfl⟩
 have hi:Inv CA DD G0 (aT ⟨f,tl,[.code c,.code dt],[cQ],.run,.normal,ν⟩ []) wl:=⟨hn,ρ,θ,_,_,_,_,w,rfl,hG,cq,.base,aec (C:=C1) (C':=CA) (λ_ h=>h) hW⟩
 have h:=Qn (S:=DD) aeY (λ_=>rfl) (Q:=Sp f r) (λg w T h=>h) ?_ hi ?_
 ·rw[Kf] at h;exact h
 ·rintro g w ⟨t,todo,_,rfl⟩ ch;simp
 ·intro T
  rw[Kf];obtain⟨e,bJ,aa,⟨rfl,h2,h3⟩,todo,n,hr⟩:=hl T b [.code dt] [];refine⟨n,_,_,aa,hr,bJ.tmps,todo,h3,?_⟩
  show aT _ _=aT _ _;rw[<-h2];rfl
def am3:Past Jy w.heap.size #[]:=Past.mono past_nil (Nat.zero_le _)
def results1(hr:fn.results=#[.tmp r])(t:Array υ)(w:Ψ):(results fn t).runT P w #[]=(.ok (t.getD r ω) w,#[]):=by
 have e:results fn t=Ļ (t.getD r ω):=by
  unfold results;rw[hr];simp only[į,Akn,Aki];rfl
 rw[e];rfl
end Go.Jn
namespace Go.Jn
open Go Go.Proofs Go.Sim Go.Tw
def tk(W:Ψ):Ren:=λa b=>a=b/\fI W a
def Pv.self(h:Pv (fI W) v):aj (tk W) v v:=by
 cases v;case bool b=>exact .bool b
 case int k n=>exact .int k n
 case float=>exact h.elim
 case complex=>exact h.elim
 case string s=>exact .string s
 case pointer p=>
  cases p with
  |none=>exact .ptrNone
  |some a=>exact .ptr ⟨⟨rfl,h⟩,rfl,rfl⟩
 case slice p n c=>
  cases p with
  |none=>exact .sliceNone n c
  |some a=>
   rcases h with h| ⟨rfl,rfl⟩
   ·exact .slice n c ⟨⟨rfl,h⟩,rfl,rfl⟩
   ·exact .sliceDead _ _
 case map p=>
  cases p with
  |none=>exact .mapNone
  |some a=>exact h.elim
 case chan p=>
  cases p with
  |none=>exact .chanNone
  |some a=>exact h.elim
 case func f x y=>
  cases f with
  |func f=>
   obtain⟨rfl,rfl⟩:=h;exact .func (.func f) rfl (λi hi _=>absurd hi (by simp)) rfl (λi hi _=>absurd hi (by simp))
  |_=>exact h.elim
 case nilFunc=>exact .nilFunc
 case iface=>exact h.elim
 case nilIface=>exact .nilIface
 case agg=>exact h.elim
 case tuple=>exact h.elim
def J2(W:Ψ)(c:Array υ):∃u:Array υ,aV (tk W) u c/\u.size=c.size/\∀(i:Nat) (v:υ),c[i]?=φ v->Pv (fI W) v->u[i]?=φ v:=by
 have key:∀v',∃u,aj (tk W) u v'/\(Pv (fI W) v'->u=v'):=λv'=>by
  by_cases hp:Pv (fI W) v'
  ·exact⟨v',hp.self,λ_=>rfl⟩
  ·obtain⟨u,hu⟩:=sN (tk W) v'
   exact⟨u,hu,λh=>absurd h hp⟩
 refine⟨c.map λv=>å (key v),⟨by simp,λi h1 h2=>?_⟩,by simp,λi v hi hp=>?_⟩
 ·simp only[Array.getElem_map]
  exact(Î (key _)).1
 ·rw[Đ,hi]
  exact congrArg φ ((Î (key v)).2 hp)
def frI(W:Ψ):Obj->Obj
 | .cells c e _=>.cells (å (J2 W c)) e (0,(å (J2 W c)).size)
 |_=>.cells #[] 0 (0,0)
def oF(W:Ψ):Ψ:={W with heap:=W.heap.map (frI W)}
section
variable {W:Ψ}
def Uk:(oF W).heap.size=W.heap.size:=by simp[oF]
def Ht{c:Array υ}{fr:Nat×Nat}(h:W.heap[a]?=φ (.cells c e fr)):
 ∃u:Array υ,(oF W).heap[a]?=φ (.cells u e (0,u.size))/\aV (tk W) u c/\u.size=c.size/\∀(i:Nat) (v:υ),c[i]?=φ v->Pv (fI W) v->u[i]?=φ v:=by
 refine⟨å (J2 W c),?_,Î (J2 W c)⟩
 unfold oF;simp only[Đ,h,é]
 rfl
def af3(C:bX):cg C (tk W) (oF W) W where
 dL a b hab:=by rw[Uk];exact Mz hab.2
 dq a b hab:=by rw[<-hab.1];exact Mz hab.2
 fn a b b' x y:=x.1.symm.trans y.1
 inj a a' b x y:=x.1.trans y.1.symm
 obj a b o hab ho:=by
  obtain⟨rfl,c,e,fr,h⟩:=hab;obtain⟨u,h1,h2,h3,h4⟩:=Ht h;rw[h1] at ho;cases ho;exact⟨_,h,.cells e h2 (.inr ⟨rfl,ϊ _⟩)⟩
def af4(b:Nat):ot (tk W) (oF W) b:=by
 rintro a ⟨rfl,c,e,fr,h⟩;obtain⟨u,h1,h2,h3,h4⟩:=Ht h;exact⟨_,h1,rfl,ϊ _⟩
def af6:bO (oF W).heap:=by
 intro o ho hb;obtain⟨a,ha⟩:=Ajz ho
 unfold oF at ha;simp only[Đ] at ha
 obtain⟨o1,_,rfl⟩:=Č.1 ha;cases o1<;>exact hb
def af2{p:Addr}(h: W.cell? p=φ v)(hp:Pv (fI W) v):(oF W).cell? p=φ v:=by
 have hS:=MA h;obtain⟨c,e,fr,ho⟩:=hS;obtain⟨u,h1,h2,h3,h4⟩:=Ht ho;unfold World.cell? at h |-
 rw[ho] at h;rw[h1];simp only at h |-
 split at h
 ·cases h
 ·rename_i hs
  rw[if_neg hs];exact h4 _ _ h hp
variable {α:Type}{B sz:Nat}{R R':α->List υ->Prop}{v:υ}{xs:List α}
def AR(aN:0<sz)(h:Row W B sz R v xs)(he:Sv (fI W) v):Pv (fI W) v:=by
 obtain⟨A,c,rfl,h1,h2,h3⟩:=h;cases A with
 |none=>exact trivial
 |some A=>
  cases xs with
  |nil=>exact(he A _ c rfl rfl).imp id λh=>⟨rfl,h⟩
  |cons x xs=>
   obtain⟨ad,e,hb,h4⟩:=h3 (by simp)
   cases e;obtain⟨cs,_,hl,hc⟩:=h4 0 x rfl;obtain⟨u,hu⟩:∃u,cs[0]?=φ u:=⟨cs[0]'(by omega),Ã _⟩
   have:=MA (hc 0 u hu);rw[b9] at this;exact .inl this
def zo(h:Row W B sz R v xs)(hR:∀x cs,R x cs->R' x cs/\∀u∈cs,Pv (fI W) u):Row (oF W) B sz R' v xs:=by
 obtain⟨A,c,e,h1,h2,h3⟩:=h;refine⟨A,c,e,h1,h2,λhx=>?_⟩
 obtain⟨ad,hA,hb,h4⟩:=h3 hx;refine⟨ad,hA,hb,λi x hi=>?_⟩
 obtain⟨cs,r,hl,aq⟩:=h4 i x hi;have:=hR x cs r;exact⟨cs,this.1,hl,λj u hu=>af2 (aq j u hu) (this.2 u (Ϩ hu))⟩
def af1(h:GF (fI W) W B b pv bv tv):aQ (oF W) B b pv bv tv/\Pv (fI W) pv/\Pv (fI W) bv/\Pv (fI W) tv:=by
 refine⟨⟨zo h.pieces λx cs r=>⟨r,λu hu=>?_⟩,zo h.aC λx cs r=>?_,zo h.aI λx cs r=>?_⟩,AR (by omega) h.pieces h.sp,AR (by omega) h.aC h.sb,AR (by omega) h.aI h.st⟩
 ·obtain⟨rfl,_⟩:=r
  simp only[Ϧ,Λ,or_false] at hu;rcases hu with rfl|rfl|rfl|rfl<;>exact trivial
 ·obtain⟨⟨kv,rfl,k1,k2⟩,k3⟩:=r
  have hp:Pv (fI W) kv:=AR (by omega) k2 (k3 kv (by simp))
  refine⟨⟨kv,rfl,k1,zo k2 λx cs r=>⟨r,λu hu=>?_⟩⟩,λu hu=>?_⟩
  ·rw[show cs=_ from r] at hu
   simp only[Ϧ,Λ,or_false] at hu;rcases hu with rfl|rfl<;>exact trivial
  ·simp only[Ϧ,Λ,or_false] at hu
   rcases hu with rfl|rfl|rfl
   ·exact trivial
   ·exact trivial
   ·exact hp
 ·obtain⟨⟨kv,rfl,k2⟩,k3⟩:=r
  have hp:Pv (fI W) kv:=AR (by omega) k2 (k3 kv (by simp))
  refine⟨⟨kv,rfl,zo k2 λx cs r=>⟨r,λu hu=>?_⟩⟩,λu hu=>?_⟩
  ·rw[show cs=_ from r] at hu
   simp only[Ϧ,Λ,or_false] at hu;rcases hu with rfl;exact trivial
  ·simp only[Ϧ,Λ,or_false] at hu
   rcases hu with rfl|rfl|rfl
   ·exact hp
   ·exact trivial
   ·exact trivial
def af5(h:sD W):gF (oF W)/\tk W 0 0:=by
 obtain⟨fr,h⟩:=h;refine⟨?_,rfl,_,_,_,h⟩
 obtain⟨u,h1,h2,h3,h4⟩:=Ht h;have e:u=#[.func (.func 234) #[] #[],.func (.func 236) #[] #[]]:=by
  have a0:=h4 0 _ rfl ⟨rfl,rfl⟩;have a1:=h4 1 _ rfl ⟨rfl,rfl⟩;refine ŝ λi=>?_
  match i with
  |0=>rw[a0];rfl
  |1=>rw[a1];rfl
  |i+2=>
   rw[Ė (by rw[h3];simp),Ė (by simp)]
 subst e;exact⟨_,h1⟩
end
end Go.Jn
namespace Go.Jn
open Go Go.Proofs Go.Sim Go.Tw Go.ChangeShapes Go.WideShapes Go.ChangeAt Go.RowKit
abbrev FK{H:Type}:List (String×DataW H):=[("ribband/mould.measures",YtfifdjajcogccaaGreatDoor.Rows.laid_ribband_mould_measures)]
def amS:ownKnob ϋ.godebug=ν:=by kernel_rfl
def Jf:laidOutB ϋ=θ:=by kernel_rfl
def agj:ϋ.globalNamed "ribband/mould.measures" =φ 0:=by kernel_rfl
def apM:(ϋ.globals[0]?).map (·.type)=φ 146:=by kernel_rfl
def adn:ϋ.cellsOf 145=1:=by kernel_rfl
def ado:ϋ.cellsOf 146=2:=by kernel_rfl
def adm:ϋ.cellsOf 143=1:=by kernel_rfl
def aeu(os:Os)(args:Array υ):laidMetH ϋ FK ((World.doorLaid ϋ 600 os).forCall (λ_ _=>0) ⟨#[],args,[]⟩).memory:=
 laidMetH_of_parts3 (fuel:=8) (laidMet_of_run' 8 (by kernel_rfl) (by kernel_rfl)) (by kernel_rfl) (by kernel_rfl)
def aoX(os:Os)(args:Array υ):((World.doorLaid ϋ 600 os).forCall (λ_ _=>0) ⟨#[],args,[]⟩).Shaped ϋ:=
 World.shaped_of_RefB (by kernel_rfl) (by kernel_rfl)
def acw:(((begin ϋ (λ_ _=>0) default).world.heap[0]?).bind Obj.row?).map (λx=>(x.1.size,x.2))=φ (2,146):=by kernel_rfl
def agm:0<ϋ.globals.size:=of_decide_eq_true (by kernel_rfl)
def XQ{c:υ}{d:DataW (List UInt8)}{q:List MemPlace}{b:UInt8}{r:List UInt8}{f0:Â}
 (Cm:((List.range ϋ.funcs.size).filter λf=>(ϋ.funcs[f]?).any (·.name.toUTF8.data.toList==b::r))=[f0])
 (h:DataW.trod (funcToken ϋ) ϋ W 0 (λ_=>θ) θ n 145 [c]=φ (d,q))(hd:d=.agg [.held (b::r)]):c=.func (.func f0) #[] #[]:=by
 obtain⟨xs,m,_,hx,_,hl,h1⟩:=DataW.trod_struct Tryz.underlying145 h;have e:=congrArg Prod.fst hx;simp only[hd,DataW.agg.injEq] at e;match xs,hl with
 | [x],_=>
   simp only[ō,Ŏ,List.cons.injEq,and_true] at e;have h2:DataW.trod (funcToken ϋ) ϋ W 0 (λ_=>θ) θ m 143 [c]=φ x:=by
     have:=h1 0 _ rfl;simpa [adm] using this
   obtain⟨x1,x2⟩:=x;simp only at e;subst e;exact func_of_trod Tryz.underlying143 Cm h2
def ale(hs:W.ShapedOpen ϋ)(h:laidMetH ϋ FK W):sD W:=by
 obtain⟨g,t,cs,fuel,p,hg,ht,hv,hd⟩:=h.funcs (ā.2 rfl);obtain rfl:=Ϟ (agj.symm.trans hg);obtain rfl:=Ϟ (apM.symm.trans ht);obtain⟨xs,m,_,hx,hl,hn,h1⟩:=DataW.trod_array Tryz.underlying146 hd;rw[ado] at hl;have e:=congrArg Prod.fst hx;match cs,hl with
 | ⟨[c0,c1]⟩,_=>
 match xs,hn with
 | [x0,x1],_=>
   have e2:(DataW.agg [.agg [.held [114,105,98,98,97,110,100,47,109,111,117,108,100,46,109,101,97,115,117,114,101,115,36,49]],.agg [.held [114,105,98,98,97,110,100,47,109,111,117,108,100,46,109,101,97,115,117,114,101,115,36,50]]]:DataW (List UInt8))=.agg [x0.1,x1.1]:=e;simp only[DataW.agg.injEq,List.cons.injEq,and_true] at e2;have k0:=h1 0 (by omega)
   have k1:=h1 1 (by omega)
   simp only[adn] at k0 k1;have f0:c0=.func (.func 234) #[] #[]:=XQ (by kernel_rfl) (show DataW.trod (funcToken ϋ) ϋ W 0 (λ_=>θ) θ m 145 [c0]=φ (x0.1,x0.2) from k0) e2.1.symm
   have f1:c1=.func (.func 236) #[] #[]:=XQ (by kernel_rfl) (show DataW.trod (funcToken ϋ) ϋ W 0 (λ_=>θ) θ m 145 [c1]=φ (x1.1,x1.2) from k1) e2.2.symm
   subst f0 f1;have hb:=acw;cases hz:((begin ϋ (λ_ _=>0) default).world.heap[0]?).bind Obj.row? with
   |none=>rw[hz] at hb;cases hb
   |some z=>
    rw[hz] at hb;obtain⟨zero,t⟩:=z;simp only[é,č,Prod.mk.injEq] at hb;obtain⟨aZ,rfl⟩:=hb;obtain⟨bu,hc,aN,_⟩:=hs.1 0 zero 146 agm hz;refine⟨(0,0),?_⟩
    rw[hc];have cell:∀i,W.cell? ⟨0,i,ν⟩=bu[i]?:=λi=>cell_of_row W 0 i _ 146 _ hc
    have a0:=World.var?_cell hg hv 0
    have a1:=World.var?_cell hg hv 1
    rw[cell] at a0 a1;have:bu=#[.func (.func 234) #[] #[],.func (.func 236) #[] #[]]:=by
     refine ŝ λi=>?_
     match i with
     |0=>exact a0
     |1=>exact a1
     |i+2=>rw[Ė (by rw[aN,aZ];omega),Ė (by simp)]
    rw[this]
end Go.Jn
namespace Go.Jn
open Go Go.Proofs Go.Sim Go.Conc Go.Tw Go.RowKit
def ams:stub.ntmps=1:=rfl
def anL:stub.results=#[.tmp 0]:=rfl
def J9(w:Ψ):Calls lp 21 #[] w λe w'=>e=Ω (.bool θ)/\w=w':=by
 letI:=jU
 go_enter Hv,ams;unfold lg;go_wp2;exact bodyPost_ret (v:=.bool θ) (by simp[results,anL,go_sem]) rfl ⟨rfl,rfl⟩
@[go_sem]theorem call21(args:Array υ)(w:Ψ):(callFunc 21 args).run (@Tw.prog jU) w=.ok (.enter 21 args) w:=by
  obtain⟨c,hc,_⟩:=Ka;have h:=DU (P:=lp) Hv hc QJ args w;have:=congrArg Prod.fst h;rw[Sem.runT_fst] at this;exact this
def asU{sz:Nat}{R:α->List υ->Prop}{xs:List α}(h:Row w w.heap.size sz R v xs)(hb:Γ w.heap.size w w'):Row w' w'.heap.size sz R v xs:=
 (h.still (Δ.aJ hb (ϊ _)) λ_ _ h=>h).more hb.size
def zb{B':Nat}(h:aQ w B b pv bv tv)(hB:B<=B'):aQ w B' b pv bv tv:=
 ⟨h.pieces.more hB,(h.aC.still (Δ.refl _) λx cs ⟨kv,h1,h2,h3⟩=>⟨kv,h1,h2,h3.more hB⟩).more hB,(h.aI.still (Δ.refl _) λx cs ⟨kv,h1,h3⟩=>⟨kv,h1,h3.more hB⟩).more hB⟩
def afT(h:zl b=θ):cZ b=0:=by
 unfold zl at h;simp only[ϩ,decide_eq_true_eq] at h;exact h.2
def c7:ϖ:=(Tryz.f7.body).getD .skip
def t7(v:υ)(p q:Nat):Array υ:=#[v,.int .u8 p,.int .u8 q,ω,ω,ω,ω,ω,ω,ω,ω,ω,ω,ω,ω,ω,ω,ω,ω,ω,ω,ω,ω,ω,ω,ω,ω,ω,ω,ω,ω,ω,ω,ω,ω,ω,ω,ω,ω,ω,ω,ω,ω,ω,ω,ω,ω,ω,ω,ω,ω,ω,ω,ω,ω,ω,ω,ω,ω,ω,ω,ω,ω,ω,ω,ω,ω,ω,ω,ω,ω,ω,ω,ω,ω,ω,ω,ω,ω,ω,ω,ω,ω,ω,ω,ω,ω,ω,ω,ω,ω,ω,ω,ω,ω,ω,ω,ω,ω,ω,ω,ω,ω,ω,ω,ω,ω,ω,ω,ω,ω,ω,ω,ω,ω,ω,ω,ω,ω,ω,ω]
def GS(r:Nat)(e:Exit)(a:Act)(_:Ψ):Prop:=e=.ret/\a.defers=[cQ]/\a.tmps[r]?=φ (.bool θ)
end Go.Jn
namespace Go.Jn
open Go Go.Proofs Go.Sim Go.Tw Go.Conc Go.ChangeShapes Go.WideShapes Go.ChangeAt Go.RowKit
open YtfifdjajcogccaaGreatDoor
def ant(q1:Pv (fI W) pv)(q2:Pv (fI W) bv)(q3:Pv (fI W) tv):aj (tk W) (η #[ξ κ b.ab,pv,bv,tv]) (η #[ξ κ b.ab,pv,bv,tv]):=
 .agg rfl λi h1 h2=>by
  match i,h1,h2 with
  |0,_,_=>exact .int _ _
  |1,_,_=>exact q1.self
  |2,_,_=>exact q2.self
  |3,_,_=>exact q3.self
def anB(ρ:Ren)(n:Nat):aV ρ (ϭ n ω) (ϭ n ω):=
 cf.refl λa ha=>by
  rw[(Aav.1 ha).2];exact aj.tuple' .empty
end Go.Jn
namespace Go.Jn
open Go Go.Proofs Go.Sim Go.Conc Go.Tw Go.RowKit
def c6:ϖ:=(Tryz.f6.body).getD .skip
def t6(v k:υ):Array υ:=#[v,k,ω,ω,ω,ω,ω,ω,ω,ω,ω,ω,ω,ω,ω,ω,ω,ω,ω,ω,ω,ω,ω,ω,ω,ω,ω,ω,ω,ω,ω,ω,ω,ω,ω,ω,ω,ω,ω,ω,ω,ω,ω,ω,ω,ω,ω,ω,ω,ω,ω,ω,ω,ω,ω,ω,ω,ω,ω,ω,ω,ω,ω,ω,ω,ω,ω,ω,ω,ω,ω,ω,ω,ω,ω,ω,ω,ω,ω,ω,ω,ω,ω,ω,ω,ω,ω,ω,ω,ω,ω,ω,ω,ω,ω,ω,ω,ω,ω,ω,ω,ω,ω,ω,ω,ω,ω,ω,ω,ω,ω,ω,ω,ω,ω,ω,ω,ω,ω,ω,ω,ω,ω,ω,ω,ω,ω,ω,ω,ω,ω,ω,ω,ω,ω,ω,ω,ω,ω,ω,ω,ω,ω,ω,ω,ω,ω,ω,ω,ω,ω,ω,ω,ω,ω,ω,ω,ω,ω,ω,ω,ω,ω,ω,ω,ω,ω,ω,ω,ω,ω,ω,ω,ω,ω,ω,ω,ω,ω,ω,ω,ω,ω,ω,ω,ω,ω,ω,ω,ω,ω,ω,ω,ω,ω,ω,ω,ω,ω,ω,ω,ω,ω,ω,ω,ω,ω,ω,ω,ω]
end Go.Jn
namespace Go.Jn
open Go Go.Proofs Go.Sim Go.Tw Go.Conc Go.ChangeShapes Go.WideShapes Go.ChangeAt Go.RowKit
open YtfifdjajcogccaaGreatDoor
def aiR{a b a' b':υ}(h1:aj ρ a a')(h2:aj ρ b b'):aV ρ #[a,b] #[a',b']:=
 ⟨rfl,λi k1 k2=>by
   match i,k1,k2 with
   |0,_,_=>exact h1
   |1,_,_=>exact h2⟩
end Go.Jn
namespace Go.Jn
open Go Go.Proofs Go.Sim Go.Conc Go.Tw
def anK(w:Ψ)(cN cL:Nat):Sim.ay:=⟨λq=>q<w.heap.size/\q≠cN/\q≠cL,λ_=>False⟩
def apk{w2:Ψ}{p6 p7:Nat}{t1:Array υ}{M:Sim.ay}(hP:LO b ρ wl pv bv tv B lb bk n NB wB w1)(h4:R4 t1 (allM w1) w1 cN cL p6 p7 t M w2):
 ∃eA Rb l6 l7,St b eA Rb pv bv tv B lb l6 l7 bk p6 p7 cN cL n NB wB (anK w2 cN cL) w2/\(∀a q,eA a q->q<max p6 p7+1)/\NB<=max p6 p7+1:=by
 obtain⟨core,iy,Xw,fixed,rb,hB,book,c0,c1,c2,c3,⟨bc,e,fb,A,c,ai,an⟩,old,eQ⟩:=hP;have kept:∀q,q<w1.heap.size->w2.heap[q]?=w1.heap[q]?:=λq hq=>h4.kept q (.inl hq)
 have aeb:=uQ core h4.size λa q hq=>kept q (core.dq a q hq)
 have jk:∀(σ:Ren) (c:Nat),aV σ #[μ #[]] #[.chan (φ c)]:=λσ c=>⟨rfl,λj h1 h2=>by
  have:j=0:=by simp at h1;omega
  subst this;exact .junk rfl (by simp) (by simp)⟩
 have eS:=wS (o:=.cells #[μ #[]] 154 (0,1)) aeb h4.vn.2.2.2 (λa ha=>by have:=core.dq a _ ha;have:=h4.vn.2.2.1;omega) (.cells 154 (jk _ _) (.inr ⟨rfl,by simp⟩))
 have ia:=wS (o:=.cells #[μ #[]] 155 (0,1)) eS h4.vl.2.2.2 (λa ha=>by
  rcases ha with ha| ⟨_,e⟩
  ·have:=core.dq a _ ha;have:=h4.vl.2.2.1;omega
  ·exact h4.np e.symm) (.cells 155 (jk _ _) (.inr ⟨rfl,by simp⟩))
 have st1:=(Δ.refl wl).alloc hB (Ξ #[μ #[]] 154 (0,1));have pB:B<=(wl.alloc (Ξ #[μ #[]] 154 (0,1))).heap.size:=by rw[fy];exact Aks hB
 have lf:=st1.alloc pB (Ξ #[μ #[]] 155 (0,1));have cl:∀ {j:Nat} {v:υ},wl.cell? ⟨lb,j,ν⟩=φ v->((wl.alloc (Ξ #[μ #[]] 154 (0,1))).alloc (Ξ #[μ #[]] 155 (0,1))).cell? ⟨lb,j,ν⟩=φ v:=λhv=>
  (ù _ _ ⟨lb,_,ν⟩ (by show lb<_;rw[fy];have:=core.dL _ _ rb;omega)).trans ((ù wl _ _ (core.dL _ _ rb)).trans hv)
 have Jk:∀ {q:Nat},q<w1.heap.size->q<w2.heap.size/\q≠cN/\q≠cL:=λ{q} hq=>⟨ϟ hq h4.size,by have:=h4.n.2.2.1;omega,by have:=h4.l.2.2.1;omega⟩
 have Xp:p6<w2.heap.size/\p6≠cN/\p6≠cL:=⟨h4.low _ (.inl h4.vn.2.1),(by rintro rfl;have:=h4.vn.2.2.2;rw[h4.n.2.2.2] at this;cases this),(by rintro rfl;have:=h4.vn.2.2.2;rw[h4.l.2.2.2] at this;cases this)⟩
 have Xq:p7<w2.heap.size/\p7≠cN/\p7≠cL:=⟨h4.low _ (.inl h4.vl.2.1),(by rintro rfl;have:=h4.vl.2.2.2;rw[h4.n.2.2.2] at this;cases this),(by rintro rfl;have:=h4.vl.2.2.2;rw[h4.l.2.2.2] at this;cases this)⟩
 refine⟨_,_,_,_,⟨⟨ia,.inl (.inl iy),bO.push (bO.push Xw (o:=.cells #[μ #[]] 154 (0,1)) (λh=>h)) (o:=.cells #[μ #[]] 155 (0,1)) (λh=>h),?_,?_,.inl (.inl rb),.inl (.inr ⟨rfl,rfl⟩),.inr ⟨rfl,rfl⟩,by rw[fy];exact Aks pB,book.still lf,cl c0,cl c1,cl c2,cl c3⟩,?_,.inl Xp,.inl Xq,.inl (Jk (core.dq _ _ rb)),h4.vn.2.2.2,h4.vl.2.2.2,
  ⟨bc,e,fb,A,c,(kept _ (core.dq _ _ rb)).trans ai,an⟩,λq hq=>⟨.inl (Jk (by omega)),(kept q (by omega)).trans (old q hq)⟩,ϡ eQ h4.size,⟨?_,?_⟩,⟨h4.low _ (.inl h4.n.2.1),h4.low _ (.inl h4.l.2.1)⟩⟩,?_,by have:=h4.vn.2.2.1;omega⟩
 ·rintro a q ((ha| ⟨_,rfl⟩) | ⟨_,rfl⟩)
  ·exact .inl (Jk (core.dq _ _ ha))
  ·exact .inl Xp
  ·exact .inl Xq
 ·rintro a q ((ha| ⟨rfl,_⟩) | ⟨rfl,_⟩)
  ·obtain⟨o,k1,k2⟩:=fixed a q ha
   have:=core.dL _ _ ha;exact⟨o,(lz (by rw[fy];omega)).trans ((lz this).trans k1),k2⟩
  ·exact⟨_,(lz (by rw[fy];omega)).trans kQ,⟨rfl,by simp⟩⟩
  ·exact⟨_,kQ,⟨rfl,by simp⟩⟩
 ·rintro q (hq|hq)
  ·exact hq.1
  ·exact hq.elim
 ·rintro(hq|hq)
  ·exact hq.2.1 rfl
  ·exact hq
 ·rintro(hq|hq)
  ·exact hq.2.2 rfl
  ·exact hq
 ·rintro a q ((ha| ⟨_,rfl⟩) | ⟨_,rfl⟩)
  ·have:=core.dq _ _ ha;have:=h4.vn.2.2.1;omega
  ·omega
  ·omega
section
variable {b:eR}{ρ:Ren}{wl wB:Ψ}{pv bv tv:υ}{B lb l6 l7 bk p6 p7 cN cL n N0 NB NR:Nat}{cX:Nat->Bool}{cs:List Ϛ}
def hears(hr:∀a q,ρ a q->q<NR)(hN:NB<=NR)(hn:n<=1000)(t:Array υ)(M:Sim.ay)(w:Ψ)(hs:kO bk p6 p7 t)(hS:(St b ρ wl pv bv tv B lb l6 l7 bk p6 p7 cN cL n NB wB) M w)(Ek:NR<=w.heap.size):
 Walk ϋ θ (oB (Pm.mk ϋ n N0 cL cN cX sr (yO NR NB wB cs)) n []) M (rg 38 t [.code (.seq (.region 11 CU χ) vN)] [] .normal cs) w:=by
 refine fZ (iu ?_)
 rw[s11];obtain⟨o,ho,ag,hd,hg⟩:=akJ;refine dJ (v:=ζ ν 0 0) ho (cx hg) rfl (λaa _=>⟨_,run_assign t aa ag,eE⟩) ?_
 rw[hd];have h9:(aA t (φ 9) (ζ ν 0 0))[9]?=φ (ζ ν 0 0):=eX (by rw[hs.sz];omega)
 have di:kO bk p6 p7 (aA t (φ 9) (ζ ν 0 0)):=hs.put ⟨by omega,by omega,by omega⟩
 revert h9 di
 generalize aA t (φ 9) (ζ ν 0 0)=t1;intro h9 di;refine jl ?_
 rw[anH];refine fZ (fZ (iu ?_))
 rw[s12];obtain⟨o,ho,ag,hd,hg⟩:=akK;obtain⟨dir,hu⟩:=Da;refine dJ (v:=.chan (φ cN)) ho (cx hg) rfl (λaa hk=>⟨_,yz _ aa ag (cT di.t6) hu rfl (mH ((hk.kept _ hS.m6).trans hS.h6) rfl rfl),yx hS.m6 _ rfl⟩) ?_
 rw[hd];refine jl (De (Q6 ?_))
 refine recvs hr hN hn n [] _ M w (by simp) (by simp[aA,di.sz]) (eX (by rw[di.sz];omega)) ⟨⟨ζ ν 0 0,(bP (by omega)).trans h9,⟨rfl,.inl ⟨rfl,rfl⟩⟩,λg k c e=>by cases e⟩,Ek,λ_=>(bP (by omega)).trans h9⟩ hS
def apm(xL:∀i,cX i=(search b (cB (aB b)) (λk=>decide (k=i)) b.pieces.length []).isNone)(ag:bT b 0=0)(hr:∀a q,ρ a q->q<NR)(hN:NB<=NR)(hn:n<=1000)(t:Array υ)(M:Sim.ay)(w:Ψ)(hs:kO bk p6 p7 t)(hS:(St b ρ wl pv bv tv B lb l6 l7 bk p6 p7 cN cL n NB wB) M w)(Ek:NR<=w.heap.size)
 (Ej:∀M w,(St b ρ wl pv bv tv B lb l6 l7 bk p6 p7 cN cL n NB wB) M w->NR<=w.heap.size):
 Walk ϋ θ (StopA (Pm.mk ϋ n N0 cL cN cX sr (yO NR NB wB cs)) n) M (rg 38 t [.code oY] [] .normal cs) w:=by
 rw[anJ];refine fZ (fZ (iu ?_))
 rw[s5];obtain⟨bc,e,fb,A,c,ai,an⟩:=hS.hb;obtain⟨o,ho,bL,hd,hg⟩:=m50;obtain⟨fs,fd,fi,hu,hf,ON,hi,aN⟩:=Zj;refine dJ ho (cx hg) rfl (λaa _=>⟨_,Ye t aa bL (cT hs.t1) hu hf hi aN,eE⟩) ?_
 rw[hd,ON];have di:kO bk p6 p7 (aA t (φ 21) (π (φ ((⟨bk,0,ν⟩:Addr).add 2)))):=hs.put ⟨by omega,by omega,by omega⟩
 have sP:(aA t (φ 21) (π (φ ((⟨bk,0,ν⟩:Addr).add 2)))).getD 21 ω=π (φ ((⟨bk,0,ν⟩:Addr).add 2)):=iT (by rw[hs.sz];omega)
 revert di sP
 generalize aA t (φ 21) (π (φ ((⟨bk,0,ν⟩:Addr).add 2)))=t1;intro di sP;obtain⟨o,ho,bL,hd,hg⟩:=m51;obtain⟨e23,Ff⟩:=Zi;refine dJ ho (cx hg) rfl (λaa hk=>⟨_,yz _ aa bL sP Ff rfl (mH ((hk.kept _ hS.mb).trans ai) rfl an),yx hS.mb _ rfl⟩) ?_
 rw[hd];have dN:kO bk p6 p7 (aA t1 (φ 22) (.slice A n c)):=di.put ⟨by omega,by omega,by omega⟩
 have Nf:(aA t1 (φ 22) (.slice A n c)).getD 22 ω=.slice A n c:=iT (by rw[di.sz];omega)
 revert dN Nf
 generalize aA t1 (φ 22) (.slice A n c)=t2;intro dN Nf;obtain⟨o,ho,bL,hd,hg⟩:=m52;refine dJ ho (cx hg) rfl (λaa _=>⟨_,Yg _ aa bL Nf Ff,eE⟩) ?_
 rw[hd];have iE:kO bk p6 p7 (aA t2 (φ 23) (goInt n)):=dN.put ⟨by omega,by omega,by omega⟩
 have zy:(aA t2 (φ 23) (goInt n))[23]?=φ (ξ κ n):=eX (by rw[dN.sz];omega)
 revert iE zy
 generalize aA t2 (φ 23) (goInt n)=t3;intro iE zy;obtain⟨o,ho,bL,hd,hg⟩:=m53;refine dJ (v:=ξ κ 0) ho (cx hg) rfl (λaa _=>⟨_,run_move _ aa bL,eE⟩) ?_
 rw[hd];refine jl (De (Q6 ?_))
 refine spawns xL ag (by omega) (λt M w hs hS=>hears hr hN hn t M w hs hS (Ej M w hS)) n _ M w (ϊ _) (iE.put ⟨by omega,by omega,by omega⟩) ((bP (by omega)).trans zy) ((eX (by rw[iE.sz];omega)).trans (by simp)) hS
end
def results2(hr:fn.results=#[.tmp 2,.tmp 3])(t:Array υ)(w:Ψ):(results fn t).runT P w #[]=(.ok (μ #[t.getD 2 ω,t.getD 3 ω]) w,#[]):=by
 have e:results fn t=Ļ (μ #[t.getD 2 ω,t.getD 3 ω]):=by
  unfold results;rw[hr];simp only[į,Akn,Aki];rfl
 rw[e];rfl
def aqM{Stop:Sim.ay->ϐ->Ψ->Prop}{M:Sim.ay}(hf:P.funcs[f]?=φ fn)(hr:fn.results=#[.tmp 2,.tmp 3])
 (h:Walk P main Stop M (aT (fr.finish (μ #[t.getD 2 ω,t.getD 3 ω])) cs) w):Walk P main Stop M (aT ⟨f,t,k,[],.returning,.normal,ν⟩ (fr::cs)) w:=
 lL rfl (λaa=>by
  have e:Ï P main ⟨f,t,k,[],.returning,.normal,ν⟩ (fr::cs) ν aa=.go (aT (fr.finish (μ #[t.getD 2 ω,t.getD 3 ω])) cs) aa #[]:=by
   unfold Ï;simp only[hf,results2 hr,vR,ß,doReturn];rfl
  exact e) h
def akf(hW:cg C0 σ wl w)(hr:∀a q,σ a q->q<NR)(hn:bO wl.heap)(ho:w.ownsRow NR 3 1 ov n (zs.map (ξ κ))):
 ∃(bQ:Ren) (gQ:Ψ) (ol:υ),cg C0 bQ gQ w/\σ.le bQ/\(∀a p,bQ a p->σ a p\/(wl.heap.size<=a/\NR<=p))/\aj bQ ol ov/\gQ.ownsRow wl.heap.size 3 1 ol n (zs.map (ξ κ))/\
  (∀(a:Nat) (o:Obj),wl.heap[a]?=φ o->gQ.heap[a]?=φ o)/\wl.heap.size<=gQ.heap.size/\bO gQ.heap:=by
 rcases ho.2 with⟨rfl,h0⟩ | ⟨g,cap,cur,rfl,vd,hg,ey,oI,fh,tj⟩
 ·exact⟨σ,wl,ζ ν 0 0,hW,σ.le_refl,λa p h=>.inl h,.sliceNone 0 0,⟨ho.1,.inl ⟨rfl,h0⟩⟩,λ_ _ h=>h,ϊ _,hn⟩
 ·obtain⟨u,hu,Fh⟩:=Qh (ext σ wl.heap.size g) cur n zs tj
  have ia:=wS (o:=.cells u 3) hW hg (λa ha=>by have:=hr a g ha;omega) (.cells 3 hu (.inl rfl))
  refine⟨_,_,ζ (φ ⟨wl.heap.size,0,ν⟩) n cap,ia,zk _ _ _,?_,.slice _ _ ⟨.inr ⟨rfl,rfl⟩,rfl,rfl⟩,⟨ho.1,.inr ⟨_,cap,u,rfl,ϊ _,kQ,ey,oI,hu.1.trans fh,Fh⟩⟩,
   λa o ha=>(lz (ϛ.1 ha).1).trans ha,by rw[fy];omega,bO.push hn (o:=.cells u 3) (λh=>h)⟩
  rintro a p (ha| ⟨rfl,rfl⟩)
  ·exact .inl ha
  ·exact .inr ⟨ϊ _,vd⟩
def K6(NB:Nat)(wB:Ψ)(fr:Ϛ)(cs:List Ϛ)(zs:List Int)(_:Sim.ay)(g:ϐ)(w:Ψ):Prop:=
 ∃ov,g=aT (fr.finish (μ #[ov,ξ κ 0])) cs/\w.ownsRow NB 3 1 ov zs.length (zs.map (ξ κ))/\(∀q,q<NB->w.heap[q]?=wB.heap[q]?)/\NB<=w.heap.size
def YI(zs:List Int):(fQ zs).length=zs.length:=by simp[fQ]
def afQ{M:Sim.ay}(hE:yO NR NB wB (fr::cs) aD M g w)(hN:NB<=NR)(hW:cg C0 σ wl wB)(uZ:NB=wB.heap.size)(kA:σ 0 0)(mP:∀a q,σ a q->∃o,wl.heap[a]?=φ o/\mw o)(eQ:bO wl.heap)(hg:aD.length<=1000):
 Walk ϋ θ (K6 NB wB fr cs (fQ (ints aD))) (allM w) g w:=by
 letI:=jC
 obtain⟨t,z,rfl,hs,BS,⟨⟨ov,h9,aH,_⟩,Ek,OJ⟩,hold,VX⟩:=hE;have IZ:∀a q,σ a q->q<NB:=λa q h=>by rw[uZ];exact hW.dq a q h
 obtain⟨o,ho,ag,hd,ig⟩:=Xs;refine dJ (v:=.bool χ) ho (cx ig) rfl (λaa _=>⟨_,F9 t aa ag (cT BS) rfl,eE⟩) ?_
 rw[hd];have di:(aA t (φ 32) (.bool χ)).size=41:=by simp[aA,hs]
 have j9:(aA t (φ 32) (.bool χ))[9]?=φ ov:=(bP (by omega)).trans h9
 have Pg:(aA t (φ 32) (.bool χ)).getD 32 ω=.bool χ:=iT (by omega)
 revert di j9 Pg
 generalize aA t (φ 32) (.bool χ)=t1;intro di j9 Pg;refine jl ?_
 rw[Sf];refine fZ (Df (q:=χ) Pg (Q3 (k':=[.code tB]) rfl ?_))
 rw[anI];refine fZ ?_
 have eS:cg C0 σ wl w:=uQ hW (by rw[<-uZ];exact VX) λa q hq=>hold q (IZ a q hq)
 obtain⟨bQ,gQ,ol,ia,hle,hinv,hv,gv,aim,aiL,OC⟩:=akf eS (λa q h=>ϟ (IZ a q h) hN) eQ aH
 obtain⟨u0,As⟩:=MV bQ t1;have O0:=F6 As hv j9;have hus:(u0.setIfInBounds 9 ol).size=41:=by rw[Ē,As.1,di]
 have hu9:(u0.setIfInBounds 9 ol)[9]?=φ ol:=eX (by rw[As.1,di];omega)
 refine piece (S:=⟨.skip,[.code (.seq (.region 17 AP χ) .ret)],[],fr::cs,.normal⟩) (c:=.region 16 CV χ) (a:=⟨u0.setIfInBounds 9 ol,[cQ]⟩) adA rfl rfl (hl:=λT=>ao8 (w:=bq gQ T) (base:=wl.heap.size) (n:=aD.length) (zs:=ints aD) gv (by omega) aiL hus hu9) ia (hle _ _ kA) (Bu ia) (λq hq=>ly.1 hq) OC O0 ?_
 rintro e bJ aa b6 aM fq aF ⟨rfl,aN,k9,vt⟩ cr gd zS VM xx iW Wu;refine⟨λ_ _=>?_,λhe=>by cases he⟩
 have ht:fq.size=41:=Wu.1.symm.trans aN;obtain⟨v',hv9,xU⟩:=JO Wu k9;have hb:∀a q,wl.heap.size<=a->aM a q->NR<=q:=by
  intro a q ha hq;rcases cr.new a q hq with hq| ⟨_,hq⟩
  ·rcases hinv a q hq with hq| ⟨_,hq⟩
   ·have:=hW.dL a q hq;omega
   ·exact hq
  ·omega
 have aiq:aF.ownsRow NB 3 1 v' (fQ (ints aD)).length ((fQ (ints aD)).map (ξ κ)):=by
  rw[YI];have xF:(ints aD).length=aD.length:=by simp[ints]
  rw[xF];by_cases h0:aD.length=0
  ·have hz:fQ (ints aD)=[]:=Ō (by rw[YI,xF,h0])
   have xN:ov=ζ ν 0 0:=by
    have:=OJ (Ō h0);rw[h9] at this;exact Ϟ this
   have hol:ol=ζ ν 0 0:=by
    rcases gv.2 with⟨e,_⟩ | ⟨g,cap,cur,e,_⟩
    ·exact e
    ·rw[xN,e,h0] at hv;cases hv
   rw[hol] at xU;cases xU;rw[hz,h0];exact⟨rfl,.inl ⟨rfl,rfl⟩⟩
  ·exact World.ownsRow.base (XW gd xU vt h0 hb).1 hN
 have kept:∀q,q<NB->aF.heap[q]?=wB.heap[q]?:=by
  intro q hq;refine(cr.jd q (.inl (show q<w.heap.size by omega)) λa ha=>?_).trans (hold q hq)
  rcases hinv a q ha with ha| ⟨_,hx⟩
  ·obtain⟨o,h1,h2⟩:=mP a q ha
   exact⟨o,aim a o h1,h2⟩
  ·omega
 have aiK:NB<=aF.heap.size:=ϡ VX cr.gO;show Walk ϋ θ (K6 NB wB fr cs (fQ (ints aD))) b6 (rg 38 fq [.code (.seq (.region 17 AP χ) .ret)] [] .normal (fr::cs)) aF;have hOv:∀g k c,v'=ζ (φ g) k c->b6.has g.block:=by
  intro g k c e;subst e;cases xU with
  |slice _ _ ha=>exact(zS _ _ ha.1).imp id (·.1)
  |sliceDead a1 b1=>
   rcases gv.2 with⟨e,_⟩ | ⟨g',cap,cur,e,_⟩
   ·cases e
   ·have h0:aD.length=0:=by injection e with e1 e2 e3;exact e2.symm
    have:=OJ (Ō h0);rw[h9] at this;rw[Ϟ this] at hv;cases hv
  |junk h _ _=>
   rcases gv.2 with⟨e,_⟩ | ⟨g,cap,cur,e,_⟩<;>cases e
 have hMq:∀q,q<NB->b6.has q:=λq hq=>ay.vb cr.R cr.O (.inl (show q<w.heap.size by omega))
 ·refine fZ (iu ?_)
  rw[s17];obtain⟨o,ho,ag,hd,ig⟩:=akS;have e9:aX fq (.tmp 9)=v':=cT hv9;refine dJ (v:=v') ho (cx ig) rfl (λaa _=>⟨_,(run_move fq aa ag).trans (by rw[e9]),eE⟩) ?_
  rw[hd];have MO:aX (aA fq (φ 40) v') (.tmp 40)=v':=iT (by omega)
  have dN:(aA fq (φ 40) v').size=41:=by simp[aA,ht]
  revert MO dN
  generalize aA fq (φ 40) v'=t2;intro MO dN;obtain⟨o,ho,ag,hd,ig⟩:=akT;refine dJ (v:=v') ho (cx ig) rfl (λaa _=>⟨_,(run_assign t2 aa ag).trans (by rw[MO]),eE⟩) ?_
  rw[hd];have e2:(aA t2 (φ 2) v')[2]?=φ v':=eX (by omega)
  have iE:(aA t2 (φ 2) v').size=41:=by simp[aA,dN]
  revert e2 iE
  generalize aA t2 (φ 2) v'=t3;intro e2 iE;obtain⟨o,ho,ag,hd,ig⟩:=akU;refine dJ (v:=ξ κ 0) ho (cx ig) rfl (λaa _=>⟨_,run_assign t3 aa ag,eE⟩) ?_
  rw[hd];have e3:(aA t3 (φ 3) (ξ κ 0)).getD 3 ω=ξ κ 0:=iT (by omega)
  have TV:(aA t3 (φ 3) (ξ κ 0)).getD 2 ω=v':=cT ((bP (by omega)).trans e2)
  refine jl (aqL (aqM Tryz.func38 anF ?_))
  rw[e3,TV];refine .stop λau hk=>⟨v',rfl,?_,?_,ϡ aiK hk.size⟩
  ·exact P2 aiq λg k c e=>hk.kept _ (hOv g k c e)
  ·exactλq hq=>(hk.kept q (hMq q hq)).trans (kept q hq)
def anc{t0:Array υ}{M0 M:Sim.ay}{p6 p7:Nat}(h:R4 t0 M0 w0 cN cL p6 p7 t M w)(k:bR M w aa):R4 t0 M0 w0 cN cL p6 p7 t M aa:=
 ⟨h.n.keep k,h.l.keep k,h.vn.keep k,h.vl.keep k,h.nl,h.np,h.o8,h.same,h.O,h.On,h.R,λb hb=>(k.kept b (hb.imp (h.O b) λx=>by rw[h.R];exact x)).trans (h.kept b hb),ϡ h.size k.size,λb hb=>ϟ (h.low b hb) k.size,k.tape.trans h.tape,k.os.trans h.os,k.e.trans h.e⟩
def CN{l:List Nat}(hd:l.Nodup)(h:∀i∈l,i<n):l.length<=n:=by
 have:=hd.length_le_of_subset (l₂:=List.range n) λi hi=>ş.2 (h i hi)
 simpa using this
def FW(b:eR)(i:Nat):Bool:=(search b (cB (aB b)) (λk=>decide (k=i)) b.pieces.length []).isNone
def KU(b:eR):List Nat:=(List.range b.aC.length).filter (FW b)
def ame(hb:KI b σ wl pv bv tv B arg w)(ag:bT b 0=0)
 {t:Θ}{q:Nat->Nat}(hF:Fr ϋ gs w t q (aT (Ý ϋ 38 #[arg] .normal) (fr::cs)))(sl:Option (Nat×Nat)):
 ∃N aY w' bB t' q' g' aD M',ô ϋ N (Ϫ gs w sl) t=(.next (Ϫ aY w' bB),t')/\Fr ϋ aY w' t' q' g'/\K6 w.heap.size w fr cs (fQ (ints aD)) M' g' w'/\aD.Nodup/\(∀i,i∈aD↔i<b.aC.length/\FW b i=θ)/\Base w w':=by
 have he:Ý ϋ 38 #[arg] .normal=⟨38,#[arg]++ϭ 40 ω,[.code (.seq (.region 0 p0 χ) (.seq rv (.seq (.region 4 jB θ) oY)))],[],.run,.normal,ν⟩:=
  BL Tryz.func38 SL #[arg] .normal
 rw[he] at hF;have iW:b.aC.length<=3:=by letI:=jC;exact(fG (mX ag).1).nb
 obtain⟨N1,UE,M1,g1,w1,Qx,t1,q1,r1,z1,⟨⟨T,bk,lb,cF,mn,rfl,hT,zH,hP⟩,pB⟩,mL⟩:=DK (Gp (stA (cs:=fr::cs) hb ag) (G7 w)) gs sl t q hF (λq hq=>ly.1 hq)
 have hE:WalkE ϋ θ w1.heap.size (λM g w2=>∃cN cL p6 p7 t2,R4 T (allM w1) w1 cN cL p6 p7 t2 M w2/\g=rg 38 t2 [.code oY] [] .normal (fr::cs)) (allM w1) (rg 38 T [.code (.seq (.region 4 jB θ) oY)] [] .normal (fr::cs)) w1:=
  Zy rfl (λaa=>by simp[Ϙ,ϱ]) (aqK rfl hT (λb hb=>ly.1 hb) λcN cL p6 p7 t2 M w2 h4=>.stop λll hk=>⟨cN,cL,p6,p7,t2,anc h4 hk,rfl⟩)
 obtain⟨N2,Hz,M2,g2,w2,Qy,t2,q2,r2,z2,⟨⟨cN,cL,p6,p7,T2,h4,rfl⟩,Nj⟩,Ic,Ny⟩:=acy (aqA hE pB) UE Qx t1 q1 mL (λq hq=>ly.1 hq) (mE.of_low mL.il.seen)
 obtain⟨eA,Rb,l6,l7,hS,Cp,UN⟩:=apk hP h4;have hs:kO bk p6 p7 T2:=⟨h4.o8,(h4.same 1 (by omega) (by omega) (by omega) (by omega)).trans zH,h4.vn.1,h4.vl.1⟩
 have Ej:∀(M:Sim.ay) (w':Ψ),St b eA Rb pv bv tv B lb l6 l7 bk p6 p7 cN cL b.aC.length w.heap.size w M w'->max p6 p7+1<=w'.heap.size:=λM w' h=>by
  have:=h.low _ h.m6;have:=h.low _ h.m7;omega
 have hW:=apm (N0:=Hz.size) (cX:=FW b) (cs:=fr::cs) (λ_=>rfl) ag Cp UN (by omega) T2 _ w2 hs hS (Ej _ _ hS) Ej
 obtain⟨G,hG⟩:=afM (X:=Pm.mk ϋ b.aC.length Hz.size cL cN (FW b) sr (yO (max p6 p7+1) w.heap.size w (fr::cs))) Ic rfl
  (λq hq=>by
    rcases hq with hq|hq
    ·exact⟨hq.1,hq.2.2,hq.2.1⟩
    ·exact hq.elim) rfl hW h4.l.2.2.2 h4.n.2.2.2 (ϸ h4.nl) Ny h4.n.2.2.1
 obtain⟨N3,Nc,w3,Qz,t3,r3,⟨q3,g3,M3,aD,Np,J7,oN,ma,Eu,VM⟩⟩:=afF Qy hG;have kA:aD.length<=1000:=by
  have:aD.length<=b.aC.length:=CN oN λi hi=>((ma i).1 hi).1
  omega
 have N8:=afQ J7 UN hb.core rfl hb.iy hb.fixed hb.nb kA;obtain⟨N4,gs4,M4,g4,w4,sl4,t4,q4,r4,z4,⟨agT,hB4⟩,hF4⟩:=DK (Gp N8 (sG Nj Eu)) Nc Qz t3 q3 Np (λq hq=>ly.1 hq)
 exact⟨N1+(N2+(N3+N4)),gs4,w4,sl4,t4,q4,g4,aD,M4,vO _ _ _ r1 (vO _ _ _ r2 (vO _ _ _ r3 r4)),hF4,agT,oN,ma,hB4⟩
def ao7(hd:aD.Nodup)(hm:∀i,i∈aD↔i<b.aC.length/\FW b i=θ):fQ (ints aD)=ints (KU b):=by
 have hp:aD.Perm (KU b):=(List.perm_ext_iff_of_nodup hd (List.nodup_range.filter _)).2 λi=>by rw[hm i];simp[KU]
 have hs:(ints (KU b)).Pairwise (λx y=>decide (x<=y)=θ):=by
  unfold ints KU;rw[List.pairwise_map];refine(List.Pairwise.filter _ Akq).imp λh=>?_
  simp only[decide_eq_true_eq];omega
 have h1:(fQ (ints aD)).Perm (ints (KU b)):=(List.mergeSort_perm _ _).trans (hp.map _);refine h1.eq_of_pairwise (le:=λx y=>decide (x<=y)=θ) (λa c _ _ h k=>by simp only[decide_eq_true_eq] at h k;omega) ?_ hs
 exact List.pairwise_mergeSort (λa b c h k=>by simp only[decide_eq_true_eq] at *;omega) (λa b=>by simp;omega) _
end Go.Jn
namespace Go.Jn
open Go Go.Proofs Go.Sim Go.Conc Go.Tw Go.RowKit
def iS:ϖ:=(Tryz.f21.body).getD .skip
def iK:ϖ:=iS
def iL:ϖ:=aS iK
def iM:ϖ:=aS iL
def jm:ϖ:=aS iM
def jH:ϖ:=aS jm
def j4:ϖ:=aS jH
def kK:ϖ:=aS j4
def lr:ϖ:=aS kK
def lM:ϖ:=aS lr
def mo:ϖ:=aS lM
def nu:ϖ:=aS mo
def oo:ϖ:=aS nu
def pb:ϖ:=aS oo
def pW:ϖ:=aS pb
def qV:ϖ:=aS pW
def su:ϖ:=aS qV
def uA:ϖ:=aS su
def vZ:ϖ:=aS uA
def yH:ϖ:=aS vZ
def yI:ϖ:=aS yH
def Ba:ϖ:=aS yI
def Di:ϖ:=aS Ba
def Gz:ϖ:=aS Di
def Kv:ϖ:=aS Gz
def Kw:ϖ:=aS Kv
def yJ:ϖ:=aS Kw
def vV:ϖ:=bp iK
def vW:ϖ:=bp iL
def vX:ϖ:=bp iM
def tO:ϖ:=bp jm
def tP:ϖ:=bp jH
def tQ:ϖ:=bp j4
def tR:ϖ:=bp kK
def tS:ϖ:=bp lr
def tT:ϖ:=bp lM
def tU:ϖ:=bp mo
def tF:ϖ:=bp nu
def tG:ϖ:=bp oo
def tH:ϖ:=bp pb
def tI:ϖ:=bp pW
def tJ:ϖ:=bp qV
def tK:ϖ:=bp su
def tL:ϖ:=bp uA
def tM:ϖ:=bp vZ
def Kb:ϖ:=bp yH
def yB:ϖ:=bp yI
def yC:ϖ:=bp Ba
def yD:ϖ:=bp Di
def yE:ϖ:=bp Gz
def tN:ϖ:=bp Kv
def yF:ϖ:=bp Kw
def acs:Tryz.f21.body=φ (chain [vV,vW,vX,tO,tP,tQ,tR,tS,tT,tU,tF,tG,tH,tI,tJ,tK,tL,tM] (.seq Kb (chain [yB,yC,yD,yE,tN,yF] yJ))):=rfl
def adB:∀c∈ [vV,vW,vX,tO,tP,tQ,tR,tS,tT,tU,tF,tG,tH,tI,tJ,tK,tL,tM],C0.clean c:=by
 have h: [vV,vW,vX,tO,tP,tQ,tR,tS,tT,tU,tF,tG,tH,tI,tJ,tK,tL,tM].all (cC ϋ G0)=θ:=by decide+kernel
 intro c hc;exact ġ.1 h c hc
def Gq{P:ϕ}{ju:List ϖ}{F:Act->Ψ->Prop}{Q:Exit->Act->Ψ->Prop}(h2:∀a w,F a w->fu P ju Q a w):∀(wT:List ϖ) {a:Act} {w:Ψ},fu P wT (dK F) a w->fu P (wT++ju) Q a w
 | [],a,w,h=>h2 a w h
 |c::cs,a,w,h=>by
  show c.wp P (Exit.then (fu P (cs++ju) Q) Q) a w;have h:c.wp P (Exit.then (fu P cs (dK F)) (dK F)) a w:=h;refine Code.wp_mono (λe a w hq=>?_) h
  cases e with
  |normal=>exact Gq h2 cs hq
  |_=>exact(hq:False).elim
structure j6(w0 w:Ψ)(gE gp gb gk gt gl gc g3:Nat):Prop where
 ex:yQ w w0.heap.size gp gb gk gt gl
 bE:Bk w gE 26 #[ξ κ 1,ζ (φ ⟨gp,0,ν⟩) 3 3,ζ (φ ⟨gb,0,ν⟩) 2 2,ζ (φ ⟨gt,0,ν⟩) 1 1]
 bc:Bk w gc 56 #[ξ κ 1,ξ κ 0,ξ κ 0,ξ κ 0,ξ κ 0,ξ κ 4]
 b3:Bk w g3 56 #[ξ κ 1,ξ κ 0,ξ κ 0,ξ κ 0,ξ κ 0,ξ κ 6]
 below:Γ w0.heap.size w0 w
 lE:w0.heap.size<=gE
section
variable [Go.Tw.aK]
def j6.grown{g3:Nat}(h:j6 w0 w gE gp gb gk gt gl gc g3)(hb:Γ w.heap.size w w'):j6 w0 w' gE gp gb gk gt gl gc g3:=
 ⟨⟨h.ex.p.below hb h.ex.p.lt,h.ex.b.below hb h.ex.b.lt,h.ex.k.below hb h.ex.k.lt,h.ex.t.below hb h.ex.t.lt,h.ex.l.below hb h.ex.l.lt,h.ex.hp,h.ex.hb,h.ex.hk,h.ex.ht,h.ex.hl⟩,h.bE.below hb h.bE.lt,h.bc.below hb h.bc.lt,h.b3.below hb h.b3.lt,h.below.trans (hb.mono h.below.size),h.lE⟩
def afB{V:Ψ}{o:Obj}(h0:yQ V w0.heap.size gp gb gk gt gl)(hE:Bk V gE 26 #[ξ κ 1,ζ (φ ⟨gp,0,ν⟩) 3 3,ζ (φ ⟨gb,0,ν⟩) 2 2,ζ (φ ⟨gt,0,ν⟩) 1 1])
 (hc:Bk V gc 56 #[ξ κ 1,ξ κ 0,ξ κ 0,ξ κ 0,ξ κ 0,ξ κ 4])(hb:Γ w0.heap.size w0 V)(hl:w0.heap.size<=gE):
 j6 w0 ((V.drew.alloc o).alloc (Ξ #[ξ κ 1,ξ κ 0,ξ κ 0,ξ κ 0,ξ κ 0,ξ κ 6] 56)) gE gp gb gk gt gl gc (V.heap.size+1):=by
 have hx:Γ V.heap.size V ((V.drew.alloc o).alloc (Ξ #[ξ κ 1,ξ κ 0,ξ κ 0,ξ κ 0,ξ κ 0,ξ κ 6] 56)):=((dT (RowKit.Below.refl _ _)).alloc (ϊ _) o).alloc (by simp) _
 exact⟨⟨h0.p.below hx h0.p.lt,h0.b.below hx h0.b.lt,h0.k.below hx h0.k.lt,h0.t.below hx h0.t.lt,h0.l.below hx h0.l.lt,h0.hp,h0.hb,h0.hk,h0.ht,h0.hl⟩,hE.below hx hE.lt,hc.below hx hc.lt,Bk.bZ (by simp) _ _,hb.trans (hx.mono hb.size),hl⟩
def FA(w0:Ψ)(a:Act)(w:Ψ):Prop:=a.defers=[cQ]/\a.tmps.size=349/\a.tmps[0]?=φ (.bool χ)/\∃gE gp gb gk gt gl gc g3,a.tmps[1]?=φ (π (φ ⟨gE,0,ν⟩))/\a.tmps[2]?=φ (ζ (φ ⟨gc,0,ν⟩) 3 3)/\a.tmps[3]?=φ (ζ (φ ⟨g3,0,ν⟩) 3 3)/\j6 w0 w gE gp gb gk gt gl gc g3
end
end Go.Jn
namespace Go.Jn
open Go Go.Proofs Go.Sim Go.Conc Go.Tw
structure oj(W:Ψ)(σ ρ:Ren)(wl w:Ψ):Prop where
 core:cg C0 ρ wl w
 iy:ρ 0 0
 nb:bO wl.heap
 fix:∀b,b<W.heap.size->ot ρ wl b
 kept:∀b,b<W.heap.size->w.heap[b]?=W.heap[b]?
 base:Base W w
 le:σ.le ρ
def oj.AK{yG:Ψ}{b6:Sim.ay}(H:oj W σ ρ wl w)(hs:iO (allM w) ρ wl w b6 aM yG aa)(hW:cg C0 aM yG aa)(hf:Fits b6 aM yG)(hn:bO yG.heap)(hk:bR b6 aa au):oj W σ aM yG au where
 core:=hW.keep hf hk
 iy:=hs.le _ _ H.iy
 nb:=hn
 fix b hb:=Ea hs (ϟ hb H.base.size) (H.fix b hb)
 kept b hb:=by
  have h1:(allM w).has b:=ly.2 (ϟ hb H.base.size);exact(hk.kept b (ay.vb hs.R hs.O h1)).trans ((hs.jd b h1 (H.fix b hb)).trans (H.kept b hb))
 base:=sG H.base (sG ⟨hs.gO,hs.tape,hs.os,hs.e⟩ (G6 hk))
 le:=λa b h=>hs.le _ _ (H.le _ _ h)
def sL(m0:Machine)(t0:Θ)(W:Ψ)(σ:Ren)(f:Â)(cs:List Ϛ)(c:ϖ)(ρ:Ren)(u:Array υ)(wl:Ψ):Prop:=
 ∃N gs w sl tr q t,ô ϋ N m0 t0=(.next (Ϫ gs w sl),tr)/\Fr ϋ gs w tr q (rg f t [.code c] [] .normal cs)/\aV ρ u t/\oj W σ ρ wl w
section
variable {m0:Machine}{t0:Θ}{W:Ψ}{σ ρ:Ren}{f:Â}{cs:List Ϛ}{u:Array υ}{wl:Ψ}
def Jb{l:List ϖ}(hc:∀c∈l,C0.clean c)(h:sL m0 t0 W σ f cs (chain l c) ρ u wl){Q:Array υ->Ψ->Prop}
 (hl:∀T,fu (@Tw.prog jC) l (λe a w=>e=.normal/\a.defers=[cQ]/\Q a.tmps w) ⟨u,[cQ]⟩ (bq wl T)):∃ax u' kz,Q u' kz/\sL m0 t0 W σ f cs c ax u' kz:=by
 obtain⟨N,gs,w,sl,tr,q,t,hr,hF,ht,H⟩:=h;obtain⟨N1,UE,M1,g1,w1,Qx,vH,q1,r1,-,⟨ax,u',kz,t',rfl,hq,ht',H'⟩,mL⟩:=DK (Stop:=λ_ g w'=>∃ax u' kz t',g=rg f t' [.code c] [] .normal cs/\Q u' kz/\aV ax u' t'/\oj W σ ax kz w')
  (pieces (S:=⟨c,[],[],cs,.normal⟩) (cs:=l) hc (a:=⟨u,[cQ]⟩) rfl rfl (λe a w h=>.inl h.1) hl H.core H.iy (Bu H.core) (λb hb=>ly.1 hb) H.nb ht (by
    rintro e bJ aa b6 aM fq aF D' ⟨rfl,hd,hq⟩ cr NY hf iU hg hn Aq hD;refine⟨λ_=>?_,λh=>by cases h⟩
    rw[hd] at hD;rw[zh hD];exact .stop λau hk=>⟨aM,_,aa,fq,rfl,hq,Aq,H.AK cr NY hf hn hk⟩)) gs sl tr q hF (λb hb=>ly.1 hb)
 exact⟨ax,u',kz,hq,N+N1,UE,w1,Qx,vH,q1,t',vO _ _ _ hr r1,mL,ht',H'⟩
end
def apt{fn:Â}
 (ho:ops[i]?=φ o)(hg:Ä o (Ê ops t)=θ)(hr:(execOp (aX t) o).runT P aa #[]=(.ok (.enter f args) aa,#[])):
 Ϙ P main (rg fn t (.inRegion ops (i::rest)::k) D .normal cs) aa=.go (aT (Ý P f args .normal) (⟨fn,t,.inRegion ops (i::rest)::k,D,.run,.normal,ν⟩::cs)) aa #[]:=by
 have e1:Þ ⟨fn,t,.inRegion ops (i::rest)::k,D,.run,.normal,ν⟩=aX t:=uU;simp only[Ϙ,ϱ,ho,é,hg,ϻ,if_true,Ų,š,Ò,e1,hr];simp[vR,ß]
def call38{t:Array υ}{a:Nat}(ag:o.op=.call {callee:=.value (.func 38),args:=#[.tmp a],argTypes:=#[26]})(hv:t.getD a ω=v)(aa:Ψ):
 (execOp (aX t) o).runT ϋ aa #[]=(.ok (.enter 38 #[v]) aa,#[]):=by
 have h:=DU (P:=ϋ) Tryz.func38 SL al7 #[v] aa;unfold execOp;rw[ag];have e:(aX t) (.tmp a)=v:=hv;have e0:(aX t) (.func 38)=.func (.func 38) #[] #[]:=rfl;simp only[resolve,Ţ,ō,Ŏ,e,e0,Deferred.ofValue,á];exact h
section
variable [Go.Tw.aK]
open Go.RowKit in
def akt(ag:o.op=.load 26 (.tmp p))(ht:tl.getD p ω=π (φ ⟨gE,0,ν⟩)){A1 A2 A3:Option Addr}{c3:Nat}{s:Int}
 (hb:Bk w gE 26 #[ξ κ s,.slice A1 n1 c1,.slice A2 n2 c2,.slice A3 n3 c3]):
 (execOp (aX tl) o).run Tw.prog w=.ok (.value (η #[ξ κ s,.slice A1 n1 c1,.slice A2 n2 c2,.slice A3 n3 c3])) w:=by
 have q0:=hb.cell 0;have q1:=hb.cell 1;have q2:=hb.cell 2;have q3:=hb.cell 3;have e:(aX tl) (.tmp p)=π (φ ⟨gE,0,ν⟩):=ht;unfold execOp;rw[ag];simp only[e];go_simp
end
structure wF(ops:Array Í)(n p a c m e0 e1 d0 d1:Nat):Prop where
 size:ops.size=7
 o0:∃o,ops[0]?=φ o/\o.op=.load 26 (.tmp p)/\o.dst=φ a/\o.guard=ν/\k8 ϋ G0 o=θ
 o1:∃o,ops[1]?=φ o/\o.op=.call {callee:=.value (.func 38),args:=#[.tmp a],argTypes:=#[26]}/\o.dst=φ c/\o.guard=ν
 o2:∃o,ops[2]?=φ o/\o.op=.move (.tmp c)/\o.dst=φ m/\o.guard=ν
 o3:∃o,ops[3]?=φ o/\o.op=.extract (.tmp m) 0/\o.dst=φ e0/\o.guard=ν
 o4:∃o,ops[4]?=φ o/\o.op=.extract (.tmp m) 1/\o.dst=φ e1/\o.guard=ν
 o5:∃o,ops[5]?=φ o/\o.op=.assign (.tmp e0)/\o.dst=φ d0/\o.guard=ν
 o6:∃o,ops[6]?=φ o/\o.op=.assign (.tmp e1)/\o.dst=φ d1/\o.guard=ν
 lt:a<n/\c<n/\m<n/\e0<n/\e1<n/\m≠e0/\e0≠e1/\e1≠d0
def ib(u:Array υ)(a c m e0 e1 d0 d1:Nat)(x ov s:υ):Array υ:=
 ((((((u.setIfInBounds a x).setIfInBounds c (μ #[ov,s])).setIfInBounds m (μ #[ov,s])).setIfInBounds e0 ov).setIfInBounds e1 s).setIfInBounds d0 ov).setIfInBounds d1 s
def ahT(h:aV ρ u t){c e0 e1 d0 d1:Nat}{s:υ}(hx:aj ρ x y)(ho:aj ρ ol ov)(hs:aj ρ s s):
 aV ρ (ib u a c m e0 e1 d0 d1 x ol s) (ib t a c m e0 e1 d0 d1 y ov s):=by
 have ht:aj ρ (μ #[ol,s]) (μ #[ov,s]):=.tuple' ⟨rfl,λi h1 h2=>by
  match i,h1,h2 with
  |0,_,_=>exact ho
  |1,_,_=>exact hs⟩
 exact((((((h.set a hx).set c ht).set m ht).set e0 ho).set e1 hs).set d0 ho).set d1 hs
section
variable {ops:Array Í}{n p a c m e0 e1 d0 d1:Nat}
def aj8{Stop:Sim.ay->ϐ->Ψ->Prop}{M:Sim.ay}(H:wF ops n p a c m e0 e1 d0 d1)(hs:t.size=n){s:υ}
 (h:Walk ϋ main Stop M (rg f (ib t a c m e0 e1 d0 d1 y ov s) k [] .normal cs) w):
 Walk ϋ main Stop M (rg f (aA (aA t (φ a) y) (φ c) (μ #[ov,s])) (.inRegion ops [2,3,4,5,6]::k) [] .normal cs) w:=by
 obtain⟨la,lc,lm,l0,l1,n1,n2,n3⟩:=H.lt;unfold ib at h;show Walk _ _ _ _ (rg f ((t.setIfInBounds a y).setIfInBounds c (μ #[ov,s])) _ _ _ _) _;have q0:((t.setIfInBounds a y).setIfInBounds c (μ #[ov,s])).size=n:=by simp[hs]
 have r0:((t.setIfInBounds a y).setIfInBounds c (μ #[ov,s])).getD c ω=μ #[ov,s]:=cT (eX (by simpa [hs] using lc))
 revert q0 r0 h
 generalize (t.setIfInBounds a y).setIfInBounds c (μ #[ov,s])=t1;intro h q0 r0;obtain⟨o,ho,ag,hd,hg⟩:=H.o2;refine dJ (v:=μ #[ov,s]) ho (cx hg) rfl (λaa _=>⟨_,(run_move t1 aa ag).trans (by rw[show(aX t1) (.tmp c)=_ from r0]),eE⟩) ?_
 rw[hd];show Walk _ _ _ _ (rg f (t1.setIfInBounds m (μ #[ov,s])) _ _ _ _) _;have q1:(t1.setIfInBounds m (μ #[ov,s])).size=n:=by simp[q0]
 have r1:(t1.setIfInBounds m (μ #[ov,s]))[m]?=φ (μ #[ov,s]):=eX (by omega)
 revert q1 r1 h
 generalize t1.setIfInBounds m (μ #[ov,s])=t2;intro h q1 r1;obtain⟨o,ho,ag,hd,hg⟩:=H.o3;refine dJ (v:=ov) ho (cx hg) rfl (λaa _=>⟨_,F9 t2 aa ag (cT r1) rfl,eE⟩) ?_
 rw[hd];show Walk _ _ _ _ (rg f (t2.setIfInBounds e0 ov) _ _ _ _) _;have q2:(t2.setIfInBounds e0 ov).size=n:=by simp[q1]
 have r2:(t2.setIfInBounds e0 ov)[m]?=φ (μ #[ov,s]):=(bP (ϸ n1)).trans r1;have r3:(t2.setIfInBounds e0 ov)[e0]?=φ ov:=eX (by omega)
 revert q2 r2 r3 h
 generalize t2.setIfInBounds e0 ov=t3;intro h q2 r2 r3;obtain⟨o,ho,ag,hd,hg⟩:=H.o4;refine dJ (v:=s) ho (cx hg) rfl (λaa _=>⟨_,F9 t3 aa ag (cT r2) rfl,eE⟩) ?_
 rw[hd];show Walk _ _ _ _ (rg f (t3.setIfInBounds e1 s) _ _ _ _) _;have q3:(t3.setIfInBounds e1 s).size=n:=by simp[q2]
 have r4:(t3.setIfInBounds e1 s)[e0]?=φ ov:=(bP (ϸ n2)).trans r3;have r5:(t3.setIfInBounds e1 s)[e1]?=φ s:=eX (by omega)
 revert q3 r4 r5 h
 generalize t3.setIfInBounds e1 s=t4;intro h q3 r4 r5;obtain⟨o,ho,ag,hd,hg⟩:=H.o5;refine dJ (v:=ov) ho (cx hg) rfl (λaa _=>⟨_,(run_assign t4 aa ag).trans (by rw[show(aX t4) (.tmp e0)=_ from cT r4]),eE⟩) ?_
 rw[hd];show Walk _ _ _ _ (rg f (t4.setIfInBounds d0 ov) _ _ _ _) _;have r6:(t4.setIfInBounds d0 ov)[e1]?=φ s:=(bP (ϸ n3)).trans r5
 revert r6 h
 generalize t4.setIfInBounds d0 ov=t5;intro h r6;obtain⟨o,ho,ag,hd,hg⟩:=H.o6;refine dJ (v:=s) ho (cx hg) rfl (λaa _=>⟨_,(run_assign t5 aa ag).trans (by rw[show(aX t5) (.tmp e1)=_ from cT r6]),eE⟩) ?_
 rw[hd];exact jl h
end
end Go.Jn
namespace Go.Jn
open Go Go.Proofs Go.Sim Go.Conc Go.Tw Go.RowKit
attribute [local go_sem] AZ AY Oper.semAt_some
def yn(s:Int)(e:Exit)(a:Act)(_:Ψ):Prop:=e=.ret/\a.defers=[cQ]/\a.tmps[2]?=φ (ζ ν 0 0)/\a.tmps[3]?=φ (ξ κ s)
section
variable [Go.Tw.aK]
def ZY(hB:B<=w.heap.size)(ah:aQ w B b pv bv tv)(h:bT b 0≠0)
 (c0: w.cell? ⟨lb,0,ν⟩=φ (ξ κ b.ab))(c1: w.cell? ⟨lb,1,ν⟩=φ pv)(c2: w.cell? ⟨lb,2,ν⟩=φ bv)(c3: w.cell? ⟨lb,3,ν⟩=φ tv)(ai:lb<w.heap.size):
 fu prog [rv] (yn (bT b 0))
  ⟨(x0:: π (φ ⟨lb,0,ν⟩):: ζ ν 0 0:: ξ κ 0::ω::ω::ω::ω::ω::ω::ω::ω::ω::ω::ω::ω::ω::ω::ω::ω::ω::ω::ω::ω::ω::ω::ω::ω::ω::ω::ω::ω::ω::ω::ω::ω::ω::ω::ω::ω::ω:: []).toArray,[cQ]⟩ w:=by
 have aG:=ψ (ao0 hB ah h);obtain⟨A1,n1,k1,rfl,-⟩:=ah.pieces.Φ;obtain⟨A2,n2,k2,rfl,-⟩:=ah.aC.Φ;obtain⟨A3,n3,k3,rfl,-⟩:=ah.aI.Φ;have hs:((bT b 0:Int)==0)=χ:=by simpa using h
 clear ah;unfold YF at aG;generalize bT b 0=s at *;unfold fu fu;rw[then_self];refine(wpIn_wide (n:=0)).1 ?_
 simp only[rv,BB,Tryz.f38,bp,aS,ϻ]
 gi_wp2_with (first
  | (gi_at_call 119;refine(callsIn_wide.2 aG.e).mono ?_;rintro e w1 ⟨g,rfl,ai⟩
     have aO:w.heap.size<=w1.heap.size:=ai.size;clear ai))
 exact⟨rfl,rfl,rfl,rfl⟩
end
def agl(h:ρ 0 0):∀g,G0 g=θ->ρ g g:=λg hg=>by
 have:g=0:=by simpa [G0] using hg
 subst this;exact h
def je(b:eR):List Int:=if bT b 0=0 then ints (KU b) else []
def Dq(b:eR)(NB:Nat)(wB:Ψ)(fr:Ϛ)(cs:List Ϛ)(g:ϐ)(w:Ψ):Prop:=
 ∃ov,g=aT (fr.finish (μ #[ov,ξ κ (bT b 0)])) cs/\w.ownsRow NB 3 1 ov (je b).length ((je b).map (ξ κ))/\(∀q,q<NB->w.heap[q]?=wB.heap[q]?)/\NB<=w.heap.size
def aeR(hB:B<=wl.heap.size)(ah:aQ wl B b pv bv tv)(h:bT b 0≠0)
 (c0: wl.cell? ⟨lb,0,ν⟩=φ (ξ κ b.ab))(c1: wl.cell? ⟨lb,1,ν⟩=φ pv)(c2: wl.cell? ⟨lb,2,ν⟩=φ bv)(c3: wl.cell? ⟨lb,3,ν⟩=φ tv)(ai:lb<wl.heap.size)(T:Tape):
 fu (@Tw.prog jC) [rv] (yn (bT b 0)) ⟨((((#[x0]++ϭ 40 ω:Array υ).setIfInBounds 1 (π (φ ⟨lb,0,ν⟩))).setIfInBounds 2 (ζ ν 0 0)).setIfInBounds 3 (ξ κ 0)),[cQ]⟩ (bq wl T):=by
 letI:=jC
 rw[apX];exact ZY (b:=b) (pv:=pv) (bv:=bv) (tv:=tv) (B:=B) (lb:=lb) (x0:=x0) hB (ah.still λ_ _=>rfl) h c0 c1 c2 c3 ai
def ajL{M1:Sim.ay}(ag:bT b 0≠0)(hP:LO b ρ mn pv bv tv B lb bk b.aC.length NB wB w1)
 (hM:∀q,M1.has q->q<w1.heap.size)(pD:∀a q,ρ a q->M1.O q)(BT:∀q,q<NB->M1.O q)(Fj:aV ρ u T)(hl:∀T,fu (@Tw.prog jC) [rv] (yn (bT b 0)) ⟨u,[cQ]⟩ (bq mn T)):
 Walk ϋ θ (λ_ g w'=>Dq b NB wB fr cs g w') M1 (rg 38 T [.code (.seq rv (.seq (.region 4 jB θ) oY))] [] .normal (fr::cs)) w1:=by
 refine pieces (S:=⟨.seq (.region 4 jB θ) oY,[],[],fr::cs,.normal⟩) (cs:=[rv]) (f:=38) (a:=⟨u,[cQ]⟩) (λc hc=>?_) rfl rfl (QL:=yn (bT b 0)) (λe a w h=>.inr h.1) hl
  hP.core hP.iy (λa q hq=>.inl (pD a q hq)) hM hP.Xw Fj ?_
 ·simp only[Ϧ,Λ,or_false] at hc
  subst hc;exact adG
 ·rintro e bJ au ry bM Ki eF D' ⟨rfl,zQ,h2,h3⟩ cr ia oJ aia oK dn xT hD
  rw[zQ] at hD;rw[zh hD];refine⟨λhe=>(by cases he),λ_ tW=>?_⟩
  obtain⟨v2,k2,r2⟩:=JO xT h2;obtain⟨v3,k3,r3⟩:=JO xT h3;cases r2;cases r3;refine aqM Tryz.func38 anF ?_
  rw[cT k2,cT k3];have hz:je b=[]:=if_neg ag;refine .stop λll hk=>⟨ζ ν 0 0,rfl,by rw[hz];exact⟨rfl,.inl ⟨rfl,rfl⟩⟩,λq hq=>?_,ϡ hP.nb (ϡ cr.gO hk.size)⟩
  have hO:M1.has q:=.inl (BT q hq);exact(hk.kept q (ay.vb cr.R cr.O hO)).trans ((cr.jd q hO λa ha=>hP.fixed a q ha).trans (hP.old q hq))
def ajK(h:KI b σ wl pv bv tv B arg w)(ag:bT b 0≠0):
 Walk ϋ θ (λ_ g w'=>Dq b w.heap.size w fr cs g w') (allM w) (rg 38 (#[arg]++ϭ 40 ω) [.code (.seq (.region 0 p0 χ) (.seq rv (.seq (.region 4 jB θ) oY)))] [] .normal (fr::cs)) w:=
 R8 h λM1 w1 mn lb bk ρ x0 T hP vp hM pD BT Fj=>ajL ag hP hM pD BT Fj (aeR hP.hB hP.book ag hP.c0 hP.c1 hP.c2 hP.c3 vp)
def ah3(hb:KI b σ wl pv bv tv B arg w)
 {t:Θ}{q:Nat->Nat}(hF:Fr ϋ gs w t q (aT (Ý ϋ 38 #[arg] .normal) (fr::cs)))(sl:Option (Nat×Nat)):
 ∃N aY w' bB t' q' g',ô ϋ N (Ϫ gs w sl) t=(.next (Ϫ aY w' bB),t')/\Fr ϋ aY w' t' q' g'/\Dq b w.heap.size w fr cs g' w'/\Base w w':=by
 by_cases ag:bT b 0=0
 ·obtain⟨N,aY,w',bB,t',q',g',aD,M',r,hF',⟨ov,rfl,aH,hk,hs⟩,oN,ma,hB⟩:=ame hb ag hF sl
  rw[ao7 oN ma] at aH;exact⟨N,aY,w',bB,t',q',_,r,hF',⟨ov,by rw[ag],by rw[je,if_pos ag];exact aH,hk,hs⟩,hB⟩
 ·have he:Ý ϋ 38 #[arg] .normal=⟨38,#[arg]++ϭ 40 ω,[.code (.seq (.region 0 p0 χ) (.seq rv (.seq (.region 4 jB θ) oY)))],[],.run,.normal,ν⟩:=
   BL Tryz.func38 SL #[arg] .normal
  rw[he] at hF;obtain⟨N1,UE,M1,g1,w1,Qx,t1,q1,r1,-,⟨hS,pB⟩,mL⟩:=DK (Gp (ajK hb ag) (G7 w)) gs sl t q hF (λq hq=>ly.1 hq)
  exact⟨N1,UE,w1,Qx,t1,q1,g1,r1,mL,hS,pB⟩
section
variable {ops:Array Í}{n p a c m e0 e1 d0 d1:Nat}{m0:Machine}{t0:Θ}{W:Ψ}{σ ρ:Ren}{f:Â}{cs:List Ϛ}{u:Array υ}{wl:Ψ}
def aaJ(H:wF ops n p a c m e0 e1 d0 d1)(t:Array υ)(v:υ)(k:List Item):đ ⟨f,t,.inRegion ops [1,2,3,4,5,6]::k,[],.run,.normal,ν⟩ v=⟨f,aA t (φ c) v,.inRegion ops [2,3,4,5,6]::k,[],.run,.normal,ν⟩:=by
 obtain⟨o,ho,_,hd,_⟩:=H.o1;simp[đ,ho,hd,aA]
def KW(W:Ψ)(σ:Ren)(wl:Ψ)(b:eR)(x:υ):Prop:=
 ∀ρ T w v',oj W σ ρ (bq wl T) w->aj ρ x v'->∃τ S9 pv bv tv B,KI b τ S9 pv bv tv B v' w
def akg{σ:Ren}{wl:Ψ}(hW:cg C σ wl w)(hr:∀a q,σ a q->q<NR)(hn:bO wl.heap){n:Nat}(ho:w.ownsRow NR 3 1 ov n (zs.map (ξ κ))):
 ∃(bQ:Ren) (gQ:Ψ) (ol:υ),cg C bQ gQ w/\σ.le bQ/\(∀a p,bQ a p->σ a p\/(wl.heap.size<=a/\NR<=p))/\aj bQ ol ov/\gQ.ownsRow wl.heap.size 3 1 ol n (zs.map (ξ κ))/\Γ wl.heap.size wl gQ/\bO gQ.heap:=by
 rcases ho.2 with⟨rfl,h0⟩ | ⟨g,cap,cur,rfl,vd,hg,ey,oI,fh,tj⟩
 ·exact⟨σ,wl,ζ ν 0 0,hW,σ.le_refl,λa p h=>.inl h,.sliceNone 0 0,⟨ho.1,.inl ⟨rfl,h0⟩⟩,RowKit.Below.refl _ _,hn⟩
 ·obtain⟨u,hu,Fh⟩:=Qh (ext σ wl.heap.size g) cur n zs tj
  have ia:=wS (o:=.cells u 3) hW hg (λa ha=>by have:=hr a g ha;omega) (.cells 3 hu (.inl rfl))
  refine⟨_,_,ζ (φ ⟨wl.heap.size,0,ν⟩) n cap,ia,zk _ _ _,?_,.slice _ _ ⟨.inr ⟨rfl,rfl⟩,rfl,rfl⟩,⟨ho.1,.inr ⟨_,cap,u,rfl,ϊ _,kQ,ey,oI,hu.1.trans fh,Fh⟩⟩,
   (RowKit.Below.refl _ _).alloc (ϊ _) _,bO.push hn (o:=.cells u 3) (λh=>h)⟩
  rintro a p (ha| ⟨rfl,rfl⟩)
  ·exact .inl ha
  ·exact .inr ⟨ϊ _,vd⟩
def P9(H:wF ops n p a c m e0 e1 d0 d1){id:Nat}{z:ϖ}(h:sL m0 t0 W σ f cs (.seq (.region id ops χ) z) ρ u wl)(hn:u.size=n){g:Nat}(hp:u[p]?=φ (π (φ ⟨g,0,ν⟩)))
 {A1 A2 A3:Option Addr}{c3:Nat}(hb:Bk wl g 26 #[ξ κ b.ab,.slice A1 n1 c1,.slice A2 n2 c2,.slice A3 n3 c3])(hB:KW W σ wl b (η #[ξ κ b.ab,.slice A1 n1 c1,.slice A2 n2 c2,.slice A3 n3 c3])):
 ∃ax kz T ol,sL m0 t0 W σ f cs z ax (ib u a c m e0 e1 d0 d1 (η #[ξ κ b.ab,.slice A1 n1 c1,.slice A2 n2 c2,.slice A3 n3 c3]) ol (ξ κ (bT b 0))) kz/\
  kz.ownsRow wl.heap.size 3 1 ol (je b).length ((je b).map (ξ κ))/\Below wl.heap.size (bq wl T) kz:=by
 letI:=jC
 obtain⟨N,gs,w,sl,tr,q,t,hr,hF,ht,HH⟩:=h;have eK:t.size=n:=ht.1.symm.trans hn;obtain⟨o,ho,ag,ahz,ig,jy⟩:=H.o0;obtain⟨o1,IQ,aio,ar5,ahO⟩:=H.o1;obtain⟨N1,UE,M1,g1,w1,Qx,vH,q1,r1,-,⟨cF,T,v',rfl,hv,Aq,H1⟩,mL⟩:=DK (Stop:=λ_ g w'=>∃ax T v',g=aT (Ý ϋ 38 #[v'] .normal) (⟨f,aA t (φ a) v',.inRegion ops [1,2,3,4,5,6]:: [.code z],[],.run,.normal,ν⟩::cs)/\
  aj ax (η #[ξ κ b.ab,.slice A1 n1 c1,.slice A2 n2 c2,.slice A3 n3 c3]) v'/\aV ax u t/\oj W σ ax (bq wl T) w') (M:=allM w) (w:=w) (g:=rg f t [.code (.seq (.region id ops χ) z)] [] .normal cs) (by
  refine fZ (iu ?_)
  rw[H.size];refine ZB Hp (rest:=[1,2,3,4,5,6]) ho (cx ig) rfl jy ht HH.core (agl HH.iy) (Bu HH.core) (λb hb=>ly.1 hb)
   (QL:=λv au=>v=η #[ξ κ b.ab,.slice A1 n1 c1,.slice A2 n2 c2,.slice A3 n3 c3]/\∃T,au=bq wl T) (λT=>⟨_,_,(by rw[QU];exact akt ag (cT hp) (w:=bq wl T) hb),rfl,T,rfl⟩) ?_
  rintro v v' att bM ry eF ⟨rfl,T2,rfl⟩ hv ahp th oJ aia;rw[ahz];have IC:(aA t (φ a) v').getD a ω=v':=iT (by rw[eK];exact H.lt.1)
  refine lL rfl (λll=>apt IQ (cx ahO) (call38 aio IC ll)) (.stop λll hk=>?_)
  exact⟨bM,T2,v',rfl,hv,ht.mono th.le,HH.AK th ahp oJ HH.nb hk⟩) gs sl tr q hF (λb hb=>ly.1 hb)
 obtain⟨τ,S9,pv,bv,tv,B,ah⟩:=hB cF T w1 v' H1 hv;obtain⟨N2,Hz,w2,Qy,tr2,q2,g2,r2,Ic,⟨ov,rfl,aH,Vt,aN⟩,Nj⟩:=ah3 ah mL Qx;rw[aaJ H] at Ic;have ia:=uQ H1.core aN λa b hab=>Vt b (H1.core.dq a b hab)
 obtain⟨bQ,gQ,ol,gd,hle,hinv,xU,gv,rO,OC⟩:=akg ia H1.core.dq H1.nb aH;have H3:oj W σ bQ gQ w2:=⟨gd,hle _ _ H1.iy,OC,λb hb x hx=>by
  rcases hinv x b hx with h| ⟨_,h⟩
  ·obtain⟨o,h1,h2⟩:=H1.fix b hb x h
   exact⟨o,(rO.block x (ϛ.1 h1).1).trans h1,h2⟩
  ·have:=H1.base.size;omega,λb hb=>(Vt b (ϟ hb H1.base.size)).trans (H1.kept b hb),sG H1.base Nj,λx y h=>hle _ _ (H1.le _ _ h)⟩
 obtain⟨N3,Nc,M3,g3,w3,Qz,tr3,q3,r3,-,⟨rfl,H4⟩,Np⟩:=DK (Stop:=λ_ g w'=>g=rg f (ib t a c m e0 e1 d0 d1 v' ov (ξ κ (bT b 0))) [.code z] [] .normal cs/\oj W σ bQ gQ w') (M:=allM w2) (w:=w2)
  (aj8 H eK (.stop λll hk=>⟨rfl,H3.AK (iO.refl _ _ _ _) gd (Bu gd) OC hk⟩)) Hz Qy tr2 q2 Ic (λb hb=>ly.1 hb)
 exact⟨bQ,gQ,T,ol,⟨N+(N1+(N2+N3)),Nc,w3,Qz,tr3,q3,_,vO _ _ _ hr (vO _ _ _ r1 (vO _ _ _ r2 r3)),Np,ahT (Aq.mono hle) (hv.mono hle) xU (.int _ _),H4⟩,gv,rO⟩
end
end Go.Jn
namespace Go.Jn
open Go Go.Proofs Go.Sim Go.Conc Go.Tw
def Qu(hf:ϋ.funcs[f]?=φ fn)(hb:fn.body=φ c)(ht:aV (tk W) tl (args++ϭ (fn.ntmps - args.size) ω))(hM:sD W):
 sL (solo (G (Ý ϋ f args .normal) []) W) #[] W (tk W) f [] c (tk W) tl (oF W):=by
 rw[BL hf hb args .normal];exact⟨0,_,W,_,#[],λ_=>0,_,rfl,⟨rfl,λi x h hx=>by
  have:i<1:=(ϛ.1 hx).1
  omega,am3,λop h=>absurd h (by simp),λop h=>absurd h (by simp)⟩,ht,af3 C0,(af5 hM).2,af6,λb _=>af4 b,λ_ _=>rfl,G7 W,Ren.le_refl _⟩
def P8(An:DC){m0:Machine}{f:Nat}(h:sL m0 #[] W σ f [] c ρ u wl)(hM:sD W)
 (hf:ϋ.funcs[f]?=φ fn)(hc:cC ϋ G0 c=θ)(hr:fn.results=#[.tmp r])(hi:¬2=f)(hl:∀T,c.wp lp (λe bJ _=>e=.ret/\bJ.defers=[cQ]/\bJ.tmps[r]?=φ (.bool θ)) ⟨u,[cQ]⟩ (bq wl T)):
 ∃N last o w' t',ô ϋ (N+1) m0 #[]=(.ended o w',t')/\runN ϋ N m0=.next last/\
  step ϋ last=.ended o w'/\Conc.Good ϋ (λv w'=>v=.bool θ/\Γ W.heap.size W w') last o w' t':=by
 obtain⟨N0,gs,w,sl,tr,q,t,bh,hF,ht,H⟩:=h;have hW:cg C1 ρ wl w:=aec (C:=C0) (C':=C1) (λ_ h=>h) H.core
 have hs:=ajY (f:=f) (r:=r) hc hl hW H.iy H.nb ht;have cq:eo C1 DD ρ θ ⟨f,u,[.code c,.code dt],[cQ],.run,.normal,ν⟩ ⟨f,t,[.code c],[],.run,.normal,ν⟩:=
  .mk f ht (.cons (.code c hc) .stop) .stop .run .none ⟨λh=>by simp at h,λ_=>rfl,λh=>absurd rfl h,λh=>by simp at h,rfl,λ_=>rfl⟩
 have hR:oA DD (allM w) ρ (aT ⟨f,u,[.code c,.code dt],[cQ],.run,.normal,ν⟩ []) wl (aT ⟨f,t,[.code c],[],.run,.normal,ν⟩ []) w:=
  ⟨.inside cq .base,hW,agl H.iy,Bu hW,λ_ hb=>ly.1 hb⟩
 have h0:0<W.heap.size:=by obtain⟨_,h⟩:=hM;exact(ϛ.1 h).1
 have hMw:sD w:=by obtain⟨x,h⟩:=hM;exact⟨x,(H.kept 0 h0).trans h⟩
 obtain⟨N1,jw,aF,oZ,pa,tz,eB,aM,dP,aa,r1,uY,⟨t2,todo,h0',rfl⟩,zG,hB,hk⟩:=
  ap4 An (λg w ⟨t,todo,_,e⟩=>by rw[e]) hs (n:=0) rfl hR hMw (H.fix 0 h0) sl hF
 have wR:=sG H.base hB;have rO:Γ W.heap.size W aF:=⟨wR.os,wR.tape,wR.e,wR.size,λb hb=>(hk b (ϟ hb H.base.size) (H.fix b hb)).trans (H.kept b hb)⟩
 have rP:∀au,AtRel aF au->AtEnd ϋ Jy aF.heap.size (λv w'=>v=.bool θ/\Γ W.heap.size W w') eB au:=by
  rintro au ⟨d,rfl⟩;have gr:=zG.gr;generalize eg:aT ⟨f,t2,todo,[cQ],.returning,.normal,ν⟩ []=gg at gr;cases gr with
  | @inside b fr ba cs bu cq hL=>
    have e1:=congrArg Goroutine.frame eg;have e2:=congrArg Akc eg;simp only at e1 e2;subst e1 e2;obtain⟨rfl,rfl⟩:=Me hL;cases cq with
    | @mk _ t1 t2 Aq k1 k2 fj d1 d2 kT m1 qy r1 r2 rY kd2 iz=>
      cases rY;have rR:=iz.DJ rfl;subst rR;have hD:=zh kT;subst hD;obtain⟨v',Fi,xU⟩:=JO Aq h0';cases xU;have xS:t2.getD r ω=.bool θ:=cT Fi;refine⟨rfl,.bool θ,#[],?_,λe he=>absurd he (by simp),rfl,rO.os,rO.tape,rO.output,rO.size,rO.block⟩
      have e:Ï ϋ θ ⟨f,t2,k2,[],.returning,.normal,ν⟩ [] ν (aF.at d)=.ended (.done (.bool θ)) (aF.at d) #[]:=by
       unfold Ï;simp only[hf,results1 hr,xS,vR,ß,doReturn];simp[hi]
      exact e
  |hole f hf hx h aw hL=>
   have e2:=congrArg Akc eg;simp at e2
 obtain⟨N2,last,o,w',t',k1,k2,k3,k4⟩:=beside_ends (D:=λ_ _ _=>False) (λ_ _ _ h=>h.elim) (sl:=oZ) uY.zero uY.akb uY.il (n:=0) rP
 refine⟨N0+(N1+N2),last,o,w',t',?_,?_,k3,k4⟩
 ·rw[Nat.add_assoc,Nat.add_assoc]
  exact vO _ _ _ bh (vO _ _ _ r1 k1)
 ·have:=congrArg Prod.fst (vO N0 m0 #[] bh (vO N1 _ _ r1 rfl):_=ô ϋ N2 (Ϫ jw aF oZ) pa)
  rw[runNT_fst,runNT_fst] at this;rw[this];exact k2
def zW(hle:(tk W).le ρ)(ED:∀a b b',ρ a b->ρ a b'->b=b')(h:aj ρ v v')(hp:Pv (fI W) v):aj (tk W) v v':=by
 have h1:=Pv.rel h hp;refine h1.mono λa b hab=>?_
 have:b=a:=ED a b a hab.1 (hle _ _ ⟨rfl,hab.2⟩);subst this;exact⟨rfl,hab.2⟩
def ah2(ah:GF (fI W) W W.heap.size b pv bv tv)(hM:sD W):KW W (tk W) wl b (η #[ξ κ b.ab,pv,bv,tv]):=by
 intro ρ T w v' H hv
 letI:=jC
 obtain⟨hB,q1,q2,q3⟩:=af1 ah;obtain⟨a',b',c',d',rfl,r1,r2,r3,r4⟩:=X6 hv;refine⟨tk W,oF W,pv,bv,tv,W.heap.size,uQ (af3 C0) H.base.size λa b hab=>H.kept b ((af3 C0).dq a b hab),(af5 hM).2,af6,λa q h=>af4 q a h,Nat.le_of_eq Uk.symm,hB,.agg rfl λi h1 h2=>?_⟩
 match i,h1,h2 with
 |0,_,_=>exact zW H.le H.core.fn r1 trivial
 |1,_,_=>exact zW H.le H.core.fn r2 q1
 |2,_,_=>exact zW H.le H.core.fn r3 q2
 |3,_,_=>exact zW H.le H.core.fn r4 q3
 |i+4,h1,_=>exact absurd h1 (by simp)
end Go.Jn
namespace Go.Jn
open Go Go.Proofs Go.Sim Go.Conc Go.Tw Go.RowKit
section
variable [Go.Tw.aK]
def P7(h0:cZ b=0)(i:Nat):bT (ee b i) 0=bT b 0:=by
 unfold bT;rw[h0,I3 h0 i,xc]
def ahY(h0:cZ b=0)(ag:bT b 0=0)(hi:i<b.aC.length):
 hasB (je b) i= !(j8 (ee b i) iH)/\(j8 (ee b i) iH=θ->j8 b iH=θ/\rl b iH<=rl (ee b i) iH)/\
  (j8 b iH=χ->(je b).length=b.aC.length)/\eN b.aC.length ν (je b)=0:=by
 have hv:=fG h0;have Wx:=fG (I3 h0 i);have aw:aB b≠ []:=λe=>(mX ag).2.2 (by rw[e];rfl)
 have aak:bT (ee b i) 0=0:=(P7 h0 i).trans ag;unfold je j8 rl iR;rw[if_pos ag,if_pos ag,if_pos aak];refine⟨?_,λh=>?_,λh=>?_,?_⟩
 ·rw[<-ail hv Wx aw hi]
  unfold hasB ints KU;rw[Bool.eq_iff_iff];simp only[decide_eq_true_eq,List.mem_map,List.mem_filter,ş,Aj5,Option.isSome_eq_false_iff];constructor
  ·rintro⟨k,⟨-,h2⟩,e⟩
   obtain rfl:k=i:=by omega
   exact h2
  ·exactλh=>⟨i,⟨hi,h⟩,rfl⟩
 ·obtain⟨⟨y,k⟩,hy⟩:=Option.isSome_iff_exists.1 h
  obtain⟨x,m,hx,hm⟩:=afP hv Wx aw hi hy;rw[hx,hy];exact⟨rfl,hm⟩
 ·have h:ga b (cB (aB b)) iH (2 ^ b.aC.length)=ν:=by simpa using h
  unfold ints KU;rw[List.length_map,List.filter_eq_self.2 λj _=>by
   show(Bd b j).isNone=θ;rw[ZZ hv aw h j];rfl,List.length_range]
 ·refine Rt _ _ _ ?_ (λk hk=>?_) (λp hp=>by cases hp)
  ·unfold ints KU
   rw[List.pairwise_map];refine List.Pairwise.filter _ (List.Pairwise.imp (λh=>?_) Akq)
   simpa using h
  ·unfold ints KU at hk
   obtain⟨j,hj,rfl⟩:=List.mem_map.1 hk;have:=ş.1 (List.mem_filter.1 hj).1;unfold cj;simp;omega
end
def c16:ϖ:=(Tryz.f16.body).getD .skip
def Bo:ϖ:=aS (aS (aS (aS c16)))
def z8:Array Í:=opsOf (bp (aS (aS (aS c16))))
def Z1:Tryz.f16.body=φ (chain [bp c16,bp (aS c16),bp (aS (aS c16))] (.seq (.region 4 z8 χ) Bo)):=rfl
def Q8:z8.size=7:=by decide+kernel
def ahP:wF z8 131 2 35 36 34 37 38 6 7:=by
 refine⟨Q8,?_,⟨_,rfl,rfl,rfl,rfl⟩,⟨_,rfl,rfl,rfl,rfl⟩,⟨_,rfl,rfl,rfl,rfl⟩,⟨_,rfl,rfl,rfl,rfl⟩,⟨_,rfl,rfl,rfl,rfl⟩,⟨_,rfl,rfl,rfl,rfl⟩,by decide⟩
 have h:k8 ϋ G0 (z8[0]'(by rw[Q8];omega))=θ:=by decide+kernel
 exact⟨_,rfl,rfl,rfl,rfl,h⟩
end Go.Jn
end
