import Derived.Test.YtfifdjajcogccaaGreatDoorZ04
import Derived.LaidMore
import Derived.Test.YtfifdjajcogccaaGreatDoorRows
import Derived.OpenShut
import Derived.Stop.Joined
import Derived.Conc.LeavingOf
set_option linter.all false
set_option maxHeartbeats 0
set_option maxRecDepth 100000
open Array renaming replicate -> ϱ, getElem?_of_mem -> Ajz, getElem?_eq_some_iff -> Ϝ, getElem?_setIfInBounds_ne -> Ě, getElem?_map -> Ē, size_setIfInBounds -> Ĕ, mem_iff_getElem -> Aay, getElem?_eq_getElem -> ā, getElem?_setIfInBounds_self_of_lt -> Aj0, append_empty -> ç, mapM_eq_mapM_toList -> ķ, ext_getElem? -> ţ, getElem?_setIfInBounds -> Ü, map_empty -> Aj1, push_eq_append -> ŕ, getElem?_push -> Š, getD_eq_getD_getElem? -> æ, mem_replicate -> Aav, all_eq_true_iff_forall_mem -> ħ, mem_of_getElem? -> Ń, getElem?_eq_none -> ę, ofFn -> Aj2, getElem_ofFn -> Aj3, getElem?_ofFn -> Aj4, getElem?_mapIdx -> Aeo, getElem?_toList -> į
open Bool renaming false_eq_true -> è, and_eq_true -> Ä, not_eq_true' -> Aj5
open Classical renaming choose -> ì, choose_spec -> Ï
open Go renaming Goroutine -> ϐ, Program -> ϗ, Frame -> ϝ, Deferred -> Ê, FuncId -> Æ, CallKind -> Ů, stepG -> ϙ, Code -> Ϙ, Operand -> î, yielded -> À, goexitEntry -> Aj7, Trace -> ε, runNT -> Ā, callDeferred -> Ĩ, unwind -> Ð, Oper -> Ó, TypeInfo -> ă, TypeId -> ώ
open Go.Conc renaming crowd -> ϫ, served -> ϩ
open Go.Frame renaming eval -> á, oper? -> Ş, finish -> ē, enter -> à
open Go.GStep renaming after -> â
open Go.Goroutine renaming callers -> Akb
open Go.Proofs.Tryz renaming prog -> ϋ
open Go.Region renaming wanted -> ϸ, ready -> ϯ, schedule -> Akc
open Go.Region.linearise renaming go -> Akd
open Go.Sem renaming bind -> Ϭ, runT -> ϧ, pure -> ł
open Go.World renaming grownBy_alloc -> Â, cell?_of_block -> Ai1, putObj_heap_same -> ŏ, putObj_heap_other -> Å, cell?_alloc_lt -> ð
open Go.stepG renaming exec -> ϻ, oper -> ů, apply -> Ù
open List renaming mem_of_getElem? -> ϡ, mapM_nil -> Akg, all_eq_true -> Ħ, map_toArray -> ī, map_cons -> Ę, map_nil -> ĥ, mem_toArray -> ê, mem_singleton -> Ô, mem_cons -> Ϡ, not_mem_nil -> Á, getElem?_eq_getElem -> Ñ, getElem?_take -> Ł, mapM_cons -> Aki, drop -> Akj, take -> Akk, eq_nil_of_length_eq_zero -> Ž
open Nat renaming le_refl -> ϊ, eq_zero_or_pos -> Akl, le_trans -> Ϥ, lt_of_lt_of_le -> Ϣ, le_succ_of_le -> Akm
open Ne renaming symm -> Θ
open Option renaming map_some -> ó, getD_some -> Λ, map_eq_some_iff -> ď, bind_eq_some_iff -> đ
open Option.some renaming inj -> ϟ, injEq -> Đ
open Bool renaming true -> D, false -> U
open Go renaming Value -> z, undef -> L, World -> N
open Go.Ending renaming returned -> Ω
open Go.IntKind renaming i64 -> I
open Go.Lib renaming hid -> K
open Go.Obj renaming cells -> Ξ
open Go.RowKit renaming Below -> Γ, Below -> Γ
open Go.Value renaming slice -> E, pointer -> π, tuple -> μ, agg -> η, int -> Y
open Option renaming some -> J, none -> H
variable{es:Array Go.Event}{fs:Array Go.Field}{gs:Array Go.Goroutine}{ops:Array Go.Oper}{t t' u tl args fe hr:Array z}{main ok:Bool}{kd:Go.CallKind}{dir:Go.ChanDir}{c:Go.Code}{fr:Go.Frame}{fn:Go.Func}{f:Go.FuncId}{g g':Go.Goroutine}{o':Go.Obj}{o:Go.Oper}{P:Go.Program}{Z σ aM:Go.Sim.Ren}{S:Go.Sim.Tl}{M:Go.Sim.ay}{C C':Go.Sim.bX}{b:Go.Tw.eR}{ty e e7 e6 Q0 ek:Go.TypeId}{θ:List Go.Deferred}{cs:List Go.Frame}{k k':List Go.Item}{zs:List Int}{rest aD:List Nat}{i n B r a p lb bk d pk q NR NB Ψ gE m s cN cL gp gb gk gt gl gc n1 c1 n2 c2 n3:Nat}{w wl w' aa W wB au w1 w0 bz mn:N}{v pv bv tv x v' ov x0 arg v0 υ y ol:z}
noncomputable section
namespace Go.Jn
open Go Go.Sim
def Ym{F:Array Func}{G:Nat->Bool}(ζ:Env P F C G)(hh:∀f,C.hole f=U){Q:ϐ->N->Prop}
 (h:Sim.Safe (tw P F) Q g w)(hi:Inv C S G g w):Sim.Safe (tw P F) (λg w=>Q g w/\bO w.heap) g w:=by
 induction h with
 |stop hq=>exact .stop ⟨hq,hi.1⟩
 |step nx h _ ih=>refine .step nx h λhr=>ih hr ?_;obtain⟨⟨es,h1⟩,h2⟩:=h hr;exact(hi.bq hr).step ζ hh h1 h2
section
variable {P:ϗ}{F:Array Func}{C:bX}{G:Nat->Bool}
def Me{b:Bool}{bu:List ϝ}(h:Below C S Z b [] bu):b=D/\bu=S.callers:=by
 cases h;exact⟨rfl,rfl⟩
def Xd(h:py C S Z D [.code dt] k'):k'=S.items:=by
 cases h with
 |stop=>rfl
 |cons _ t=>cases t
def zh{k':List Ê}(h:kM S Z D [cQ] k'):k'=S.defers:=by
 cases h with
 |stop=>rfl
 |cons _ t=>cases t
def aqC(ζ:Env P F C G)(hh:∀f,C.hole f=U)(S:Tl)(hc:C.clean c){a:Act}(hk:(S.kind==.early)=U)
 (hd:a.defers=[cQ]){QL:Exit->Act->N->Prop}
 (hl:∀hr,c.wp (tw P F) (λe bJ aa=>(e=.normal/\bJ.defers=[cQ]\/e=.ret)/\QL e bJ aa) a (bq w hr))
 (hw:cg C Z w w')(hg:∀g,G g=D->Z g g)(hf:Fits M Z w)(iU:∀b,M.has b->b<w'.heap.size)(hn:bO w.heap)(ht:aV Z a.tmps t')
 {Stop:ay->ϐ->N->Prop}
 (post:∀e bJ aa b6 aM fq aF,QL e bJ aa->iO M Z w w' b6 aM aa aF->cg C aM aa aF->Fits b6 aM aa->(∀b,b6.has b->b<aF.heap.size)->(∀g,G g=D->aM g g)->bO aa.heap->aV aM bJ.tmps fq->
   (e=.normal->bJ.defers=[cQ]->Stop b6 (aT ⟨f,fq,S.items,S.defers,.run,S.kind,H⟩ S.callers) aF)/\
   (e=.ret->∀tW D',kM S aM D bJ.defers D'->Stop b6 (aT ⟨f,fq,tW,D',.returning,S.kind,H⟩ S.callers) aF)):
 Walk P main Stop M (aT ⟨f,t',.code c::S.items,S.defers,.run,S.kind,H⟩ S.callers) w':=by
 let b:ϝ:={ (default:ϝ) with fn:=f,kind:=.normal}
 let Q:ϐ->N->Prop:=λg w=>∃hr e bJ todo m,QL e bJ (bq w hr)/\g=aT ⟨f,bJ.tmps,todo,bJ.defers,m,.normal,H⟩ []/\
  (e=.normal/\todo=[.code dt]/\m=.run/\bJ.defers=[cQ]\/e=.ret/\m=.returning)
 have cq:ee C S Z D (b.at a [.code c,.code dt]) ⟨f,t',.code c::S.items,S.defers,.run,S.kind,H⟩:=
  .mk f ht (.cons (.code c hc) .stop) (by rw[hd];exact .stop) .run .none ⟨λh=>by simp at h,λ_=>rfl,λh=>absurd rfl h,λh=>by simp at h,hk,λ_=>rfl⟩
 have ew:uG P (tw P F) C S Z (aT (b.at a [.code c,.code dt]) []) (aT ⟨f,t',.code c::S.items,S.defers,.run,S.kind,H⟩ S.callers):=.inside cq .base;have hi:Inv C S G (aT (b.at a [.code c,.code dt]) []) w:=⟨hn,Z,D,_,_,_,_,w',rfl,hg,cq,.base,hw⟩;have OU:Sim.Safe (tw P F) Q (aT (b.at a [.code c,.code dt]) []) w:=by
  refine Qn (S:=S) ζ hh ?_ ?_ hi ?_
  ·rintro g w hr ⟨T',e,bJ,todo,m,h1,h2,h3⟩;exact⟨T',e,bJ,todo,m,h1,h2,h3⟩
  ·rintro g w ⟨T',e,bJ,todo,m,h1,rfl,h3⟩ ch;rcases h3 with⟨_,_,rfl,_⟩ | ⟨_,rfl⟩<;>simp
  ·intro hr;obtain⟨e,bJ,aa,⟨h1,h2⟩,h3⟩:=hl hr b [.code dt] [];rcases h1 with⟨rfl,kT⟩ |rfl
   ·obtain⟨n,T⟩:=h3;exact⟨n,_,_,aa,T,aa.tape,.normal,bJ,[.code dt],.run,h2,rfl,.inl ⟨rfl,rfl,rfl,kT⟩⟩
   ·obtain⟨todo,n,T⟩:=h3;exact⟨n,_,_,aa,T,aa.tape,.ret,bJ,todo,.returning,h2,rfl,.inr ⟨rfl,rfl⟩⟩
 refine Zx ζ main (Ym ζ hh OU hi) ⟨ew,hw,hg,hf,iU⟩ ?_;intro b6 aM dP aa eB aF hR cr _ _ hq;obtain⟨gr,core,iy,fits,low⟩:=hR;cases gr with
 |hole f hf=>rw[hh] at hf;simp at hf
 |inside xt Eh=>
  obtain⟨⟨hr,e,bJ,todo,m,h1,h2,h3⟩,qF⟩:=hq.resolve_right λh=>h ⟨_,_,_,_,_,rfl,rfl,xt,Eh⟩;have e1:=congrArg Goroutine.frame h2;have e2:=congrArg Akb h2;simp only at e1 e2;subst e1 e2;obtain⟨rfl,rfl⟩:=Me Eh;have MH:cg C aM (bq aa hr) aF:=core.left rfl;cases xt with
  |mk _ Aq fj kT qy rY iz=>
   cases rY;have Qr:iO M Z w w' b6 aM (bq aa hr) aF:=⟨cr.le,cr.new,cr.oa,cr.gO,cr.lD,cr.jd,cr.R,cr.O,cr.On,cr.tape,cr.os,cr.e⟩;have rR:=iz.DJ rfl;subst rR;have:=post e bJ (bq aa hr) b6 aM _ aF h1 Qr MH fits low iy qF Aq;rcases h3 with⟨rfl,rfl,rfl,U6⟩ | ⟨rfl,rfl⟩
   ·have hD:=kT;rw[U6] at hD;rw[Xd fj,zh hD];exact this.1 rfl U6
   ·exact this.2 rfl _ _ kT
end
abbrev rg(f:Æ)(t:Array z)(k:List Item)(θ:List Ê)(kd:Ů)(cs:List ϝ):ϐ:=aT ⟨f,t,k,θ,.run,kd,H⟩ cs
def BP(M:ay)(w:N):M.grow w w=M:=by
 unfold ay.grow;have:(λb=>M.O b\/(w.heap.size<=b/\b<w.heap.size))=M.O:=funext λb=>propext ⟨λh=>h.elim id λh=>absurd h.1 (by omega),.inl⟩
 rw[this]
section
variable {P:ϗ}{main:Bool}{Stop:ay->ϐ->N->Prop}{M:ay}{w:N}
def lL(T:g.status=.running)(h:∀aa,ϙ P main g aa=.go g' aa #[])(k:Walk P main Stop M g' w):Walk P main Stop M g w:=
 .step T (λaa=>(g',aa,#[])) (λaa _=>⟨h aa,eZ.idle M aa⟩) λaa hk=>by show Walk P main Stop (M.grow aa aa) g' aa;rw[BP];exact k.rely hk
variable {f:Æ}{t:Array z}{k:List Item}{θ:List Ê}{kd:Ů}{cs:List ϝ}
def fZ{x y:Ϙ}(h:Walk P main Stop M (rg f t (.code x:: .code y::k) θ kd cs) w):Walk P main Stop M (rg f t (.code (.seq x y)::k) θ kd cs) w:=
 lL rfl (λaa=>by simp[ϙ,ϻ]) h
def Q7(h:Walk P main Stop M (rg f t k θ kd cs) w):Walk P main Stop M (rg f t (.code .skip::k) θ kd cs) w:=
 lL rfl (λaa=>by simp[ϙ,ϻ]) h
def De{id:Nat}(h:Walk P main Stop M (rg f t (.code c:: .inBlock id::k) θ kd cs) w):Walk P main Stop M (rg f t (.code (.block id c)::k) θ kd cs) w:=
 lL rfl (λaa=>by simp[ϙ,ϻ]) h
def acj{id:Nat}(h:Walk P main Stop M (rg f t k θ kd cs) w):Walk P main Stop M (rg f t (.inBlock id::k) θ kd cs) w:=
 lL rfl (λaa=>by simp[ϙ,ϻ]) h
def Q6(h:Walk P main Stop M (rg f t (.code c:: .inLoop c::k) θ kd cs) w):Walk P main Stop M (rg f t (.code (.loop c)::k) θ kd cs) w:=
 lL rfl (λaa=>by simp[ϙ,ϻ]) h
def Q5(h:Walk P main Stop M (rg f t (.code c:: .inLoop c::k) θ kd cs) w):Walk P main Stop M (rg f t (.inLoop c::k) θ kd cs) w:=
 lL rfl (λaa=>by simp[ϙ,ϻ]) h
def Q3{id:Nat}(hk:exitTo id k=J k')(h:Walk P main Stop M (rg f t k' θ kd cs) w):Walk P main Stop M (rg f t (.code (.exit id)::k) θ kd cs) w:=
 lL rfl (λaa=>by simp[ϙ,ϻ,hk]) h
def Df{x y:Ϙ}{q:Bool}(hq:t.getD n L=.bool q)(h:Walk P main Stop M (rg f t (.code (if q then x else y)::k) θ kd cs) w):Walk P main Stop M (rg f t (.code (.cond (.tmp n) x y)::k) θ kd cs) w:=
 lL rfl (λaa=>by
  have:á ⟨f,t,.code (.cond (.tmp n) x y)::k,θ,.run,kd,H⟩ (.tmp n)=.bool q:=hq;simp[ϙ,ϻ,this]) h
def aqL(h:Walk P main Stop M (aT ⟨f,t,.code .ret::k,θ,.returning,kd,H⟩ cs) w):Walk P main Stop M (rg f t (.code .ret::k) θ kd cs) w:=
 lL rfl (λaa=>by simp[ϙ,ϻ]) h
def aqJ(h:Walk P main Stop M (aT ⟨f,t,[],θ,.returning,kd,H⟩ cs) w):Walk P main Stop M (rg f t [] θ kd cs) w:=
 lL rfl (λaa=>by simp[ϙ,ϻ]) h
def iu{id:Nat}(h:Walk P main Stop M (rg f t (.inRegion ops (List.range ops.size)::k) θ kd cs) w):Walk P main Stop M (rg f t (.code (.region id ops U)::k) θ kd cs) w:=
 lL rfl (λaa=>by simp[ϙ,ϻ]) h
def jl(h:Walk P main Stop M (rg f t k θ kd cs) w):Walk P main Stop M (rg f t (.inRegion ops []::k) θ kd cs) w:=
 lL rfl (λaa=>by simp[ϙ,ϻ]) h
end
def aX(t:Array z):î->z:=(Act.mk t []).eval
def uU:á ⟨f,t,k,θ,.run,kd,H⟩=aX t:=by funext x;cases x<;>rfl
def aA(t:Array z)(d:Option Tmp)(v:z):Array z:=match d with
 |some d=>t.setIfInBounds d v
 |none=>t
section
variable {P:ϗ}{main:Bool}{Stop:ay->ϐ->N->Prop}{M:ay}{w:N}
variable {f:Æ}{t:Array z}{k:List Item}{θ:List Ê}{kd:Ů}{cs:List ϝ}
def J8(ho:ops[i]?=J o)(hg:ϸ o (À ops t)=D)(hk:(kd==.early)=U)
 (T:(execOp (aX t) o).runT P aa #[]=(.ok (.value v) au,es)):
 ϙ P main (rg f t (.inRegion ops (i::rest)::k) θ kd cs) aa=.go (rg f (aA t o.dst v) (.inRegion ops rest::k) θ kd cs) au (seen P f es):=by
 have e1:á ⟨f,t,.inRegion ops (i::rest)::k,θ,.run,kd,H⟩=aX t:=uU;simp only[ϙ,ϻ,ho,ó,hg,Λ,if_true,ů,Ş,Ù,e1,T];cases hd:o.dst<;>simp[ē,ho,hd,aA,hk,â]
def YT(ho:ops[i]?=J o)(hg:ϸ o (À ops t)=D)(hk:(kd==.early)=U)
 (T:(execOp (aX t) o).runT P aa #[]=(.ok .skip au,es)):
 ϙ P main (rg f t (.inRegion ops (i::rest)::k) θ kd cs) aa=.go (rg f (aA t o.dst L) (.inRegion ops rest::k) θ kd cs) au (seen P f es):=by
 have e1:á ⟨f,t,.inRegion ops (i::rest)::k,θ,.run,kd,H⟩=aX t:=uU;simp only[ϙ,ϻ,ho,ó,hg,Λ,if_true,ů,Ş,Ù,e1,T];cases hd:o.dst<;>simp[ē,ho,hd,aA,hk,â]
def apu(ho:ops[i]?=J o)(hg:ϸ o (À ops t)=D)(hk:(kd==.early)=U)
 {d:Ê}(T:(execOp (aX t) o).runT P aa #[]=(.ok (.defer d) aa,#[])):
 ϙ P main (rg f t (.inRegion ops (i::rest)::k) θ kd cs) aa=.go (rg f (aA t o.dst L) (.inRegion ops rest::k) (d::θ) kd cs) aa #[]:=by
 have e1:á ⟨f,t,.inRegion ops (i::rest)::k,θ,.run,kd,H⟩=aX t:=uU;simp only[ϙ,ϻ,ho,ó,hg,Λ,if_true,ů,Ş,Ù,e1,T];cases hd:o.dst<;>simp[ē,ho,hd,aA,hk,â,seen]
def YU(ho:ops[i]?=J o)(hg:ϸ o (À ops t)=D)(hk:(kd==.early)=U)
 {d:Ê}(hn:d.target≠ .nil)(T:(execOp (aX t) o).runT P aa #[]=(.ok (.spawn d) aa,#[])):
 ϙ P main (rg f t (.inRegion ops (i::rest)::k) θ kd cs) aa=.spawn (rg f (aA t o.dst L) (.inRegion ops rest::k) θ kd cs)
  {frame:={ (default:ϝ) with fn:=P.funcs.size,defers:=[d],mode:=.panicking [Aj7]},callers:=[],status:=.running,dying:=H} aa #[]:=by
 have e1:á ⟨f,t,.inRegion ops (i::rest)::k,θ,.run,kd,H⟩=aX t:=uU;simp only[ϙ,ϻ,ho,ó,hg,Λ,if_true,ů,Ş,Ù,e1,T];obtain⟨tg,ar⟩:=d;cases tg<;>first|exact absurd rfl hn| (cases hd:o.dst<;>simp[ē,ho,hd,aA,hk,â,seen])
def Gi(ho:ops[i]?=J o)(hg:ϸ o (À ops t)=D)(hk:(kd==.early)=U)
 {cases:Array CommCase}{bl:Bool}{sh:CommShape}(T:(execOp (aX t) o).runT P aa #[]=(.ok (.comm cases bl sh) aa,#[])):
 ϙ P main (rg f t (.inRegion ops (i::rest)::k) θ kd cs) aa=.comm (rg f t (.inRegion ops (i::rest)::k) θ kd cs) cases bl sh aa #[]:=by
 have e1:á ⟨f,t,.inRegion ops (i::rest)::k,θ,.run,kd,H⟩=aX t:=uU;simp only[ϙ,ϻ,ho,ó,hg,Λ,if_true,ů,Ş,Ù,e1,T];simp[hk,â,seen]
def Dg(ho:ops[i]?=J o)(hg:ϸ o (À ops t)=D)(hk:(kd==.early)=U)
 (h:∀aa,bR M w aa->∃v au es,((execOp (aX t) o).runT P aa #[]=(.ok (.value v) au,es)\/v=L/\(execOp (aX t) o).runT P aa #[]=(.ok .skip au,es))/\eZ M aa au es/\
   Walk P main Stop (M.grow aa au) (rg f (aA t o.dst v) (.inRegion ops rest::k) θ kd cs) au):
 Walk P main Stop M (rg f t (.inRegion ops (i::rest)::k) θ kd cs) w:=by
 have key:∀aa,∃y:ϐ×N×Array Event,bR M w aa->ϙ P main (rg f t (.inRegion ops (i::rest)::k) θ kd cs) aa=.go y.1 y.2.1 y.2.2/\eZ M aa y.2.1 y.2.2/\Walk P main Stop (M.grow aa y.2.1) y.1 y.2.1:=by
  intro aa;by_cases hw:bR M w aa
  ·obtain⟨v,au,es,T,hd,hW⟩:=h aa hw;have gh:eZ M aa au (seen P f es):=⟨hd.size,hd.kept,hd.tape,hd.os,hd.e,λe he=>hd.ev e (mem_seen he)⟩
   rcases T with T| ⟨rfl,T⟩
   ·exact⟨(_,au,seen P f es),λ_=>⟨J8 ho hg hk T,gh,hW⟩⟩
   ·exact⟨(_,au,seen P f es),λ_=>⟨YT ho hg hk T,gh,hW⟩⟩
  ·exact⟨(rg f t k θ kd cs,w,#[]),λh=>absurd h hw⟩
 refine .step rfl (λaa=>ì (key aa)) (λaa hw=>?_) λaa hw=>?_
 ·exact⟨(Ï (key aa) hw).1,(Ï (key aa) hw).2.1⟩
 ·exact(Ï (key aa) hw).2.2
def dJ(ho:ops[i]?=J o)(hg:ϸ o (À ops t)=D)(hk:(kd==.early)=U)
 (T:∀aa,bR M w aa->∃es,(execOp (aX t) o).runT P aa #[]=(.ok (.value v) aa,es)/\∀e∈es,yP M e)
 (h:Walk P main Stop M (rg f (aA t o.dst v) (.inRegion ops rest::k) θ kd cs) w):Walk P main Stop M (rg f t (.inRegion ops (i::rest)::k) θ kd cs) w:=
 Dg ho hg hk λaa hw=>by obtain⟨es,h1,h2⟩:=T aa hw;refine⟨v,aa,es,.inl h1,⟨ϊ _,λ_ _ _=>rfl,rfl,rfl,rfl,λe he=>by rw[BP];exact h2 e he⟩,?_⟩;rw[BP];exact h.rely hw
def aqI{d:Ê}(ho:ops[i]?=J o)(hg:ϸ o (À ops t)=D)(hk:(kd==.early)=U)
 (T:∀aa,(execOp (aX t) o).runT P aa #[]=(.ok (.defer d) aa,#[]))
 (h:Walk P main Stop M (rg f (aA t o.dst L) (.inRegion ops rest::k) (d::θ) kd cs) w):Walk P main Stop M (rg f t (.inRegion ops (i::rest)::k) θ kd cs) w:=
 lL rfl (λaa=>apu ho hg hk (T aa)) h
end
end Go.Jn
namespace Go.Jn
open Go Go.Sim Go.Conc
open Go.ConcN (sumTo upd sumTo_upd upd_ne upd_same)
def Dz(Ψ:Nat)(es:Array Event):Prop:=∀e∈es,∀b,Ψ<=b->e.loc≠ .obj b
inductive WalkE(P:ϗ)(main:Bool)(Ψ:Nat)(Stop:ay->ϐ->N->Prop):ay->ϐ->N->Prop
 |stop {M:ay} {g:ϐ} {w:N} (h:∀aa,bR M w aa->Stop M g aa):WalkE P main Ψ Stop M g w
 |step {M:ay} {g:ϐ} {w:N} (run:g.status=.running) (nx:N->ϐ×N×Array Event)
   (h:∀aa,bR M w aa->ϙ P main g aa=.go (nx aa).1 (nx aa).2.1 (nx aa).2.2/\eZ M aa (nx aa).2.1 (nx aa).2.2/\Dz Ψ (nx aa).2.2)
   (V:∀aa,bR M w aa->WalkE P main Ψ Stop (M.grow aa (nx aa).2.1) (nx aa).1 (nx aa).2.1):WalkE P main Ψ Stop M g w
section
variable {P:ϗ}{main:Bool}{Ψ:Nat}{Stop:ay->ϐ->N->Prop}
def WalkE.rely(h:WalkE P main Ψ Stop M g w)(k:bR M w aa):WalkE P main Ψ Stop M g aa:=by
 cases h with
 |stop h=>exact .stop λau k2=>h au (k.trans k2)
 |step run nx h V=>exact .step run nx (λau k2=>h au (k.trans k2)) λau k2=>V au (k.trans k2)
def Zy(T:g.status=.running)(h:∀aa,ϙ P main g aa=.go g' aa #[])(k:WalkE P main Ψ Stop M g' w):WalkE P main Ψ Stop M g w:=
 .step T (λaa=>(g',aa,#[])) (λaa _=>⟨h aa,eZ.idle M aa,λe he=>absurd he (by simp)⟩) λaa hk=>by show WalkE P main Ψ Stop (M.grow aa aa) g' aa;rw[BP];exact k.rely hk
variable {f:Æ}{k:List Item}{θ:List Ê}{kd:Ů}{cs:List ϝ}
def Zz(h:WalkE P main Ψ Stop M (rg f t k θ kd cs) w):WalkE P main Ψ Stop M (rg f t (.inRegion ops []::k) θ kd cs) w:=
 Zy rfl (λaa=>by simp[ϙ,ϻ]) h
def aqF(ho:ops[i]?=J o)(hg:ϸ o (À ops t)=D)(hk:(kd==.early)=U)
 (h:∀aa,bR M w aa->∃v au es,((execOp (aX t) o).runT P aa #[]=(.ok (.value v) au,es)\/v=L/\(execOp (aX t) o).runT P aa #[]=(.ok .skip au,es))/\eZ M aa au es/\(∀e∈es,∀b,e.loc≠ .obj b)/\
   WalkE P main Ψ Stop (M.grow aa au) (rg f (aA t o.dst v) (.inRegion ops rest::k) θ kd cs) au):
 WalkE P main Ψ Stop M (rg f t (.inRegion ops (i::rest)::k) θ kd cs) w:=by
 have key:∀aa,∃y:ϐ×N×Array Event,bR M w aa->(ϙ P main (rg f t (.inRegion ops (i::rest)::k) θ kd cs) aa=.go y.1 y.2.1 y.2.2/\eZ M aa y.2.1 y.2.2/\Dz Ψ y.2.2)/\WalkE P main Ψ Stop (M.grow aa y.2.1) y.1 y.2.1:=by
  intro aa;by_cases hw:bR M w aa
  ·obtain⟨v,au,es,T,hd,aw,hW⟩:=h aa hw;have gh:eZ M aa au (seen P f es):=⟨hd.size,hd.kept,hd.tape,hd.os,hd.e,λe he=>hd.ev e (Sim.mem_seen he)⟩
   have dn:Dz Ψ (seen P f es):=λe he b _=>aw e (Sim.mem_seen he) b;rcases T with T| ⟨rfl,T⟩
   ·exact⟨(_,au,seen P f es),λ_=>⟨⟨J8 ho hg hk T,gh,dn⟩,hW⟩⟩
   ·exact⟨(_,au,seen P f es),λ_=>⟨⟨YT ho hg hk T,gh,dn⟩,hW⟩⟩
  ·exact⟨(rg f t k θ kd cs,w,#[]),λh=>absurd h hw⟩
 refine .step rfl (λaa=>ì (key aa)) (λaa hw=>?_) λaa hw=>?_
 ·exact(Ï (key aa) hw).1
 ·exact(Ï (key aa) hw).2
def aqE(hk:(kd==.early)=U)(κ:Nat->Array Bool->Array z->ay->N->Prop)
 (Oj:∀n l t M w aa,κ n l t M w->bR M w aa->κ n l t M aa)
 (dH:∀n l t M w i,κ n l t M w->i∈ϯ .any ops l->∃o v au es,ops[i]?=J o/\ϸ o (À ops t)=D/\
   ((execOp (aX t) o).runT P w #[]=(.ok (.value v) au,es)\/v=L/\(execOp (aX t) o).runT P w #[]=(.ok .skip au,es))/\eZ M w au es/\(∀e∈es,∀b,e.loc≠ .obj b)/\κ (n+1) (l.setIfInBounds i D) (aA t o.dst v) (M.grow w au) au)
 (rP:∀n l t M w,κ n l t M w->(ϯ .any ops l=[]\/n=ops.size)->WalkE P main Ψ Stop M (rg f t k θ kd cs) w):
 ∀(fuel n s:Nat) (l:Array Bool) (t:Array z) (M:ay) (w:N),n+fuel=ops.size->κ n l t M w->
  WalkE P main Ψ Stop M (rg f t (.inRegion ops (Akd .any ops fuel s l [])::k) θ kd cs) w:=by
 intro fuel;induction fuel with
 |zero=>
  intro n s l t M w hn hI;have:Akd .any ops 0 s l []=[]:=by simp[Akd]
  rw[this];exact Zz (rP n l t M w hI (.inr (by omega)))
 |succ fuel ih=>
  intro n s l t M w hn hI;simp only[Akd];change WalkE P main Ψ Stop M (rg f t (.inRegion ops (match(ϯ .any ops l)[s % (ϯ .any ops l).length]? with
   |some i=>Akd .any ops fuel (s / (ϯ .any ops l).length) (l.setIfInBounds i D) [i]
   |none=> [].reverse)::k) θ kd cs) w
  cases hi:(ϯ .any ops l)[s % (ϯ .any ops l).length]? with
  |none=>
   have OD:ϯ .any ops l=[]:=by
    cases T:ϯ .any ops l with
    |nil=>rfl
    |cons x xs=>
     rw[T] at hi;have ao:s % (x::xs).length<(x::xs).length:=Nat.mod_lt _ (by simp)
     simp at hi;simp at ao;omega
   exact Zz (rP n l t M w hI (.inl OD))
  |some i=>
   simp only[];rw[linearise_go_acc,List.reverse_singleton,List.singleton_append];have ma:= ϡ hi;obtain⟨o0,-,-,-,WX,IA,-,-,-,-⟩:=dH n l t M w i hI ma;refine aqF WX IA hk λaa hw=>?_
   obtain⟨o,v,au,es,ho,hg,T,hd,aw,zF⟩:=dH n l t M aa i (Oj _ _ _ _ _ _ hI hw) ma;rw[WX] at ho;cases ho;exact⟨v,au,es,T,hd,aw,ih (n+1) _ _ _ _ _ (by omega) zF⟩
def aqD(hm:P.follows .mixedOrders=D){id:Nat}(hk:(kd==.early)=U)(κ:Nat->Array Bool->Array z->ay->N->Prop)
 (Oj:∀n l t M w aa,κ n l t M w->bR M w aa->κ n l t M aa)
 (dH:∀n l t M w i,κ n l t M w->i∈ϯ .any ops l->∃o v au es,ops[i]?=J o/\ϸ o (À ops t)=D/\
   ((execOp (aX t) o).runT P w #[]=(.ok (.value v) au,es)\/v=L/\(execOp (aX t) o).runT P w #[]=(.ok .skip au,es))/\eZ M w au es/\(∀e∈es,∀b,e.loc≠ .obj b)/\κ (n+1) (l.setIfInBounds i D) (aA t o.dst v) (M.grow w au) au)
 (rP:∀n l t M w,κ n l t M w->(ϯ .any ops l=[]\/n=ops.size)->WalkE P main Ψ Stop M (rg f t k θ kd cs) w)
 (h0:κ 0 (ϱ ops.size U) t M w):
 WalkE P main Ψ Stop M (rg f t (.code (.region id ops D)::k) θ kd cs) w:=by
 have key:=aqE (P:=P) (main:=main) (Ψ:=Ψ) (Stop:=Stop) (f:=f) (k:=k) (θ:=θ) (cs:=cs) hk κ Oj dH rP;refine .step rfl (λaa=>(rg f t (.inRegion ops (Akc D ops ((Question.order f id).cut (aa.tape aa.drawn (.order f id))))::k) θ kd cs,aa.at (aa.drawn+1),#[])) (λaa hw=>⟨?_,?_,λe he=>absurd he (by simp)⟩) λaa hw=>?_
 ·simp[ϙ,ϻ,choose,Sem.run,Question.forced,hm];rfl
 ·exact⟨ϊ _,λ_ _ _=>rfl,rfl,rfl,rfl,λe he=>absurd he (by simp)⟩
 ·have hg:M.grow aa (aa.at (aa.drawn+1))=M:=BP M aa;show WalkE P main Ψ Stop (M.grow aa (aa.at (aa.drawn+1))) _ _;rw[hg];have:WalkE P main Ψ Stop M (rg f t (.inRegion ops (Akc D ops ((Question.order f id).cut (aa.tape aa.drawn (.order f id))))::k) θ kd cs) w:=by
   simp only[Akc,Bool.true_or,if_true];exact key ops.size 0 _ _ _ _ _ (by simp) h0
  exact this.rely (hw.trans (bR.of_heap rfl rfl rfl rfl))
def mE(Ψ:Nat)(t:ε):Prop:=∀op∈t,∀a,op.act.touch? =J a->∀b,Ψ<=b->a.loc≠ .obj b
def mE.app{t u:ε}(h:mE Ψ t)(k:mE Ψ u):mE Ψ (t++u):=λop ag=>(Array.mem_append.1 ag).elim (h op) (k op)
def mE.events{g:Nat}{fn:Æ}{pos:String}(h:Dz Ψ es):mE Ψ (MemOp.ofEvents g fn pos es):=by
 intro op ag a ha b hb;obtain⟨e,he,rfl⟩:=Go.Conc.mem_ofEvents ag;have:=h e he b hb;simp only at ha;obtain⟨loc,wr,sy⟩:=e;cases loc with
 |mark m=>cases m<;>cases wr<;>cases sy<;>simp[MemAct.ofEvent,MemAct.touch?] at ha<;>(subst ha;intro hx;cases hx)
 |_=>cases wr<;>cases sy<;>simp[MemAct.ofEvent,MemAct.touch?] at ha<;>subst ha<;>first|exact this| (intro hx;cases hx)
def mE.of_low{t:ε}(h:∀op∈t,op.act.low Ψ):mE Ψ t:=by
 intro op ag a ha b hb e;obtain⟨k,hk⟩:=Ajz ag;have:touchAt t k=J a:=by rw[touchAt_of hk];exact ha
 have:=QR h this (.inl e);omega
def Um{sl:Option (Nat×Nat)}{t:ε}{q:Nat->Nat}{dP:ϐ}(h:Fr P gs w t q g)(V:ϙ P D g w=.go dP aa es)(hd:eZ M w aa es)(hM:∀b,M.has b->b<w.heap.size)
 (aw:Dz Ψ es)(ht:mE Ψ t):∃aY ops,runT P (ϫ gs w sl) 0=(.next (ϫ aY aa sl),ops)/\aY.size=gs.size/\Fr P aY aa (t++ops) q dP/\mE Ψ (t++ops):=by
 obtain⟨h0,hL,hP,hN,hG⟩:=h;have vy:=runT_crowd_go (P:=P) (sl:=sl) (i:=0) h0 (show ϙ P (0==0) g w=_ from V)
 have ao:0<gs.size:=(Ϝ.1 h0).1;refine⟨_,_,vy,by simp,⟨by simp[ao],λj x hj hx=>?_,(hP.mono hd.size).own λe he=>MT (hd.ev e he) λb hb=>?_,hN.app (PY hd.ev),λop ag=>?_⟩,ht.app (.events aw)⟩
 ·have aw:0≠j:=by omega
  rw[Ě aw,Ē] at hx;obtain⟨y,hy,rfl⟩:=ď.1 hx;have hq:=hL j y hj hy;rw[Sim.woken_quits hq];exact hq
 ·exact BO hd hM b hb
 ·rw[Ĕ,Array.size_map];rcases Array.mem_append.1 ag with ag|ag
  ·exact hG op ag
  ·obtain⟨e,_,rfl⟩:=Go.Conc.mem_ofEvents ag;exact ao
def Uo{sl:Option (Nat×Nat)}{t:ε}{q:Nat->Nat}(h:Fr P gs w t q g)(bh:g.status=.running):
 (∃d bB,stepT P (ϫ gs w sl)=runT P (ϫ gs (w.at d) bB) 0)\/
 ∃aY d bB q',stepT P (ϫ gs w sl)=(.next (ϫ aY (w.at d) bB),#[])/\aY.size=gs.size/\sumTo aY.size q'<sumTo gs.size q/\Fr P aY (w.at d) t q' g:=by
 obtain⟨h0,hL,hP,hN,hG⟩:=h;have vc:∀g∈gs,awake g:=by
  intro x hx;obtain⟨i,hi,rfl⟩:=Aay.1 hx;rcases Akl i with rfl|te
  ·have:gs[0]=g:=by simpa [ā hi] using h0
   rw[this];exact awake_of (.inl bh)
  ·exact awake_of ((hL i _ te (ā hi)).status.elim .inl λx=>.inr (.inr x))
 obtain⟨i,x,d,bB,hi,hg,eW⟩:=crowd_pick (P:=P) (w:=w) (sl:=sl) vc ⟨0,g,h0,bh⟩;rcases Akl i with rfl|te
 ·exact .inl ⟨d,bB,eW⟩
 ·right;have hq:=hL i x te hi;have cJ:(i==0)=U:=by simp;omega
  have ao:i<gs.size:=(Ϝ.1 hi).1;cases qH:q i with
  |zero=>rw[qH] at hq;rw[show x.status=.finished from hq] at hg;cases hg
  |succ k=>
   rw[qH] at hq;rcases hq with hf| ⟨_,g',Fa,oQ⟩
   ·rw[hf] at hg;cases hg
   have vy:=runT_crowd_go (P:=P) (sl:=bB) (i:=i) hi (by rw[cJ];exact Fa (w.at d));rw[oW] at vy;have aN:((gs.map (woken P x g' (w.at d))).setIfInBounds i g').size=gs.size:=by simp
   have I2:sumTo gs.size (upd q i k)+(k+1)=sumTo gs.size q+k:=(by have:=sumTo_upd q k id ao;simpa [qH] using this);refine⟨(gs.map (woken P x g' (w.at d))).setIfInBounds i g',d,bB,upd q i k,eW.trans vy,aN,by rw[aN];omega,?_,λj y hj hy=>?_,hP,hN,λop ag=>by rw[aN];exact hG op ag⟩
   ·have aw:i≠0:=by omega
    rw[Ě aw,Ē,h0];simp[woken_run bh]
   ·by_cases qv:i=j
    ·subst qv;rw[Aj0 (by simpa using ao)] at hy;obtain rfl:=ϟ hy;rw[upd_same];exact oQ
    ·rw[Ě qv,Ē] at hy;obtain⟨υ,hz,rfl⟩:=ď.1 hy;have Aj:=hL j υ hj hz;rw[Sim.woken_quits Aj,upd_ne q k (Θ qv)];exact Aj
def acy(h:WalkE P D Ψ Stop M g w):
 ∀(gs:Array ϐ) (sl:Option (Nat×Nat)) (t:ε) (q:Nat->Nat),Fr P gs w t q g->(∀b,M.has b->b<w.heap.size)->mE Ψ t->
  ∃(n:Nat) (aY:Array ϐ) (M':ay) (g':ϐ) (w':N) (bB:Option (Nat×Nat)) (t':ε) (q':Nat->Nat),
    Ā P n (ϫ gs w sl) t=(.next (ϫ aY w' bB),t')/\aY.size=gs.size/\Stop M' g' w'/\Fr P aY w' t' q' g'/\mE Ψ t':=by
 induction h with
 | @stop M g w h=>exactλgs sl t q hF hM hT=>⟨0,gs,M,g,w,sl,t,q,rfl,rfl,h w (bR.refl M w),hF,hT⟩
 | @step M g w run nx h V ih=>
   have key:∀(n:Nat) (gs:Array ϐ) (sl:Option (Nat×Nat)) (t:ε) (q:Nat->Nat) (au:N),sumTo gs.size q<=n->bR M w au->Fr P gs au t q g->(∀b,M.has b->b<au.heap.size)->mE Ψ t->
    ∃(n:Nat) (aY:Array ϐ) (M':ay) (g':ϐ) (w':N) (bB:Option (Nat×Nat)) (t':ε) (q':Nat->Nat),
     Ā P n (ϫ gs au sl) t=(.next (ϫ aY w' bB),t')/\aY.size=gs.size/\Stop M' g' w'/\Fr P aY w' t' q' g'/\mE Ψ t':=by
    intro n;induction n with
    |zero=>
     intro gs sl t q au hn k hF hM hT;rcases Uo (sl:=sl) hF run with⟨d,bB,eW⟩ | ⟨aY,d,bB,q',_,_,ao,_⟩
     ·have k2:=k.trans (AA M au d);obtain⟨h1,h2,h3⟩:=h _ k2;obtain⟨jw,ops,T,aN,mL,zH⟩:=Um (sl:=bB) (w:=au.at d) (M:=M) ⟨hF.zero,hF.lv,hF.il,hF.nd,hF.gb⟩ h1 h2 hM h3 hT;obtain⟨N',aY,M',g',w',oc,t',q',r1,r2,r3,r4⟩:=ih _ k2 jw bB _ q mL (BO h2 hM) zH;exact⟨N'+1,aY,M',g',w',oc,t',q',by simp only[Ā,eW,T];exact r1,r2.trans aN,r3,r4⟩
     ·omega
    |succ n Fy=>
     intro gs sl t q au hn k hF hM hT;rcases Uo (sl:=sl) hF run with⟨d,bB,eW⟩ | ⟨aY,d,bB,q',eW,aN,ao,mL⟩
     ·have k2:=k.trans (AA M au d);obtain⟨h1,h2,h3⟩:=h _ k2;obtain⟨jw,ops,T,aN,mL,zH⟩:=Um (sl:=bB) (w:=au.at d) (M:=M) ⟨hF.zero,hF.lv,hF.il,hF.nd,hF.gb⟩ h1 h2 hM h3 hT;obtain⟨N',aY,M',g',w',oc,t',q',r1,r2,r3,r4⟩:=ih _ k2 jw bB _ q mL (BO h2 hM) zH;exact⟨N'+1,aY,M',g',w',oc,t',q',by simp only[Ā,eW,T];exact r1,r2.trans aN,r3,r4⟩
     ·obtain⟨N',zw,M',g',w',oc,t',Qa,r1,r2,r3,r4⟩:=Fy aY bB t q' (au.at d) (by omega) (k.trans (AA M au d)) mL hM hT;exact⟨N'+1,zw,M',g',w',oc,t',Qa,by simp only[Ā,eW,ç];exact r1,r2.trans aN,r3,r4⟩
   exactλgs sl t q hF hM hT=>key _ gs sl t q w (ϊ _) (bR.refl M w) hF hM hT
end
end Go.Jn
namespace Go.Jn
open Go Go.Sim Go.Conc
def G7(w:N):Base w w:=⟨ϊ _,rfl,rfl,rfl⟩
def sG{a b c:N}(h:Base a b)(k:Base b c):Base a c:=⟨Ϥ h.size k.size,k.tape.trans h.tape,k.os.trans h.os,k.e.trans h.e⟩
def Va{M:Sim.ay}{a b:N}(k:bR M a b):Base a b:=⟨k.size,k.tape,k.os,k.e⟩
def SO{M:Sim.ay}{a b:N}(k:eZ M a b es):Base a b:=⟨k.size,k.tape,k.os,k.e⟩
def Gp{Stop:Sim.ay->ϐ->N->Prop}{M:Sim.ay}(h:Walk P main Stop M g w):∀ {w0:N},Base w0 w->Walk P main (λM g w'=>Stop M g w'/\Base w0 w') M g w:=by
 induction h with
 |stop h=>exactλhb=>.stop λaa k=>⟨h aa k,sG hb (Va k)⟩
 |step run nx h V ih=>exactλhb=>.step run nx h λaa k=>ih aa k (sG (sG hb (Va k)) (SO (h aa k).2))
def aqA{Stop:Sim.ay->ϐ->N->Prop}{M:Sim.ay}(h:WalkE P main Ψ Stop M g w):∀ {w0:N},Base w0 w->WalkE P main Ψ (λM g w'=>Stop M g w'/\Base w0 w') M g w:=by
 induction h with
 |stop h=>exactλhb=>.stop λaa k=>⟨h aa k,sG hb (Va k)⟩
 |step run nx h V ih=>exactλhb=>.step run nx h λaa k=>ih aa k (sG (sG hb (Va k)) (SO (h aa k).2.1))
def vO{b:Nat}{m':Machine}{t':ε}{r:Stepped×ε}:∀(a:Nat) (m:Machine) (t:ε),Ā P a m t=(.next m',t')->Ā P b m' t'=r->Ā P (a+b) m t=r:=by
 intro a;induction a with
 |zero=>intro m t h k;simp only[Ā,Prod.mk.injEq,Stepped.next.injEq] at h;obtain⟨rfl,rfl⟩:=h;rw[Nat.zero_add];exact k
 |succ a ih=>
  intro m t h k;rw[Nat.succ_add];simp only[Ā] at h |-;cases V:Go.stepT P m with
  |mk e ops=>
   rw[V] at h;cases e with
   |next m1=>exact ih _ _ h k|ended o w=>simp at h
def cS(P:ϗ):ϝ:={ (default:ϝ) with fn:=P.funcs.size,defers:=[],mode:=.panicking [Aj7]}
def born(P:ϗ)(d:Ê):ϐ:={frame:={ (default:ϝ) with fn:=P.funcs.size,defers:=[d],mode:=.panicking [Aj7]},callers:=[],status:=.running,dying:=H}
def vR(P:ϗ)(f:Æ):seen P f #[]=#[]:=by simp[seen]
section
variable {P:ϗ}{main:Bool}{Stop:ay->ϐ->N->Prop}{M:ay}{w:N}
def aps(T:(callFunc f (args++fe)).runT P aa #[]=(.ok (.enter f (args++fe)) aa,#[])):
 ϙ P main (born P {target:=.fn (.func f) fe,args}) aa=.go (aT (à P f (args++fe) .deferred) [cS P]) aa #[]:=by
 have hi:invoke (.fn (.func f) fe) args=callFunc f (args++fe):=rfl;have e:Ĩ P (cS P) [] H {target:=.fn (.func f) fe,args} aa=.go (aT (à P f (args++fe) .deferred) [cS P]) aa #[]:=by unfold Ĩ;simp only[hi,T,vR,â,Bool.false_and,è,if_false];rfl
 exact e
def OE(hf:P.funcs[f]?=J fn)(hb:fn.body=J c)(x:Array z)(kd:Ů):
 à P f x kd=⟨f,x++ϱ (fn.ntmps - x.size) L,[.code c],[],.run,kd,H⟩:=by
 simp[à,hf,hb]
def ZA(hf:P.funcs[f]?=J fn)(hb:fn.body=J c)(T:∀aa,(callFunc f (args++fe)).runT P aa #[]=(.ok (.enter f (args++fe)) aa,#[]))
 (h:Walk P main Stop M (rg f ((args++fe)++ϱ (fn.ntmps - (args++fe).size) L) [.code c] [] .deferred [cS P]) w):Walk P main Stop M (born P {target:=.fn (.func f) fe,args}) w:=
 lL rfl (λaa=>(aps (T aa)).trans (by rw[OE hf hb])) h
def DU(hf:P.funcs[f]?=J fn)(hb:fn.body=J c)(hn:(fn.name== "runtime.NumGoroutine")=U)(args:Array z)(aa:N):(callFunc f args).runT P aa #[]=(.ok (.enter f args) aa,#[]):=by simp only[callFunc,Go.program,bind,Ϭ,ϧ,hf,hb,hn,Option.isNone_some,è,if_false];rfl
def results_none(T:fn.results=#[])(t:Array z)(aa:N):(results fn t).runT P aa #[]=(.ok (μ #[]) aa,#[]):=by
 have e:results fn t=ł (μ #[]):=by unfold results;rw[T];simp only[ķ,Akg];rfl
 rw[e];rfl
def apy(hf:P.funcs[f]?=J fn)(T:fn.results=#[])(aa:N):
 ϙ P U (aT ⟨f,t,k,[],.returning,.deferred,H⟩ [cS P]) aa=.go (aT (cS P) []) aa #[]:=by
 have e:Ð P U ⟨f,t,k,[],.returning,.deferred,H⟩ [cS P] H aa=.go (aT (cS P) []) aa #[]:=by unfold Ð;simp only[hf,results_none T,vR,â,doReturn];rfl
 exact e
def apw(aa:N)(hc:(cS P).catches P=U):ϙ P U (aT (cS P) []) aa=.go {frame:=cS P,callers:=[],status:=.finished,dying:=H} aa #[]:=by
 have e:Ð P U (cS P) [] H aa=.go {frame:=cS P,callers:=[],status:=.finished,dying:=H} aa #[]:=by have e1:(cS P).defers=[]:=rfl;have e2:(cS P).mode=.panicking [Aj7]:=rfl;unfold Ð;simp only[e1,e2,hc,è,if_false];rfl
 exact e
def afZ(P:ϗ):(cS P).catches P=U:=by
 have e:(cS P).todo=[]:=rfl;have e2:P.funcs[(cS P).fn]?=H:=by show P.funcs[P.funcs.size]?=H;simp
 unfold Frame.catches;rw[e,e2]
def ahj(hf:P.funcs[f]?=J fn)(T:fn.results=#[]):QuitsIn P 2 (aT ⟨f,t,k,[],.returning,.deferred,H⟩ [cS P]):=
 .inr ⟨rfl,_,λaa=>apy hf T aa,.inr ⟨rfl,_,λaa=>apw aa (afZ P),rfl⟩⟩
end
end Go.Jn
namespace Go.Jn
open Go Go.Proofs Go.Sim
def bp:Ϙ->Ϙ
 | .seq a _=>a
 |c=>c
def aS:Ϙ->Ϙ
 | .seq _ b=>b
 |c=>c
def opsOf:Ϙ->Array Ó
 | .region _ ops _=>ops
 |_=>#[]
def BB:Ϙ:=(Tryz.f38.body).getD .skip
def jB:Array Ó:=opsOf (bp (aS (aS BB)))
def bn(b:Bool):Nat:=if b then 1 else 0
def wQ(i:Nat)(a0 a1 a2 a3 a4 a5:Bool):Bool:=match i with
 |0=> !a0
 |1=> !a1
 |2=> !a2
 |3=> !a3
 |4=> !a4 && a0 && a2
 |5=> !a5 && a1 && a3
 |_=>U
def wL:List Bool:=[U,D]
def aad(p:Bool->Bool->Bool->Bool->Bool->Bool->Bool):Bool:=wL.all λa0=>wL.all λa1=>wL.all λa2=>wL.all λa3=>wL.all λa4=>wL.all λa5=>p a0 a1 a2 a3 a4 a5
def Sz{p:Bool->Bool->Bool->Bool->Bool->Bool->Bool}(h:aad p=D)(a0 a1 a2 a3 a4 a5:Bool):p a0 a1 a2 a3 a4 a5=D:=by
 unfold aad at h;simp only[Ħ] at h;have hb:∀b:Bool,b∈wL:=by intro b;cases b<;>simp[wL]
 exact h a0 (hb _) a1 (hb _) a2 (hb _) a3 (hb _) a4 (hb _) a5 (hb _)
def anf:aad (λa0 a1 a2 a3 a4 a5=>(ϯ .any jB #[a0,a1,a2,a3,a4,a5]).all λi=>wQ i a0 a1 a2 a3 a4 a5)=D:=by decide+kernel
def aer:aad (λa0 a1 a2 a3 a4 a5=> !(ϯ .any jB #[a0,a1,a2,a3,a4,a5]).isEmpty|| (a0 && a1 && a2 && a3 && a4 && a5))=D:=by decide+kernel
def amF:∃o,jB[0]?=J o/\o.op=.makeChan 154 (.const (Y I 0))/\o.dst=J 19/\o.guard=H:=⟨_,rfl,rfl,rfl,rfl⟩
def amG:∃o,jB[1]?=J o/\o.op=.makeChan 155 (.const (Y I 0))/\o.dst=J 20/\o.guard=H:=⟨_,rfl,rfl,rfl,rfl⟩
def amH:∃o,jB[2]?=J o/\o.op=.alloc 154/\o.dst=J 6/\o.guard=H:=⟨_,rfl,rfl,rfl,rfl⟩
def amI:∃o,jB[3]?=J o/\o.op=.alloc 155/\o.dst=J 7/\o.guard=H:=⟨_,rfl,rfl,rfl,rfl⟩
def amJ:∃o,jB[4]?=J o/\o.op=.store 154 (.tmp 6) (.tmp 19)/\o.dst=H/\o.guard=H:=⟨_,rfl,rfl,rfl,rfl⟩
def amK:∃o,jB[5]?=J o/\o.op=.store 155 (.tmp 7) (.tmp 20)/\o.dst=H/\o.guard=H:=⟨_,rfl,rfl,rfl,rfl⟩
def ao2:jB.size=6:=rfl
def cx{y:Nat->Option Bool}(h:o.guard=H):ϸ o y=D:=by unfold ϸ;rw[h]
def Yi(t:Array z)(ho:o.op=.makeChan ty (.const (Y I 0)))(hu:P.underlying ty=J (.chan dir e))(w:N)
 (hi:∃i,P.info? e=J i):(execOp (aX t) o).runT P w #[]=(.ok (.value (.chan (J w.heap.size))) (w.alloc (.chan 0 #[] U 0 0 U)),#[]):=by
 obtain⟨i,hi⟩:=hi;have h1:¬ ((0:Int)<0\/(0:Int)>IntKind.i64.max\/(i.bytes:Int) * 0>2 ^ 48 - 112):=by
  rintro(h|h|h)
  ·omega
  ·exact absurd h (by decide)
  ·omega
 unfold execOp;rw[ho];simp only[Instr.makeChan,aX,Act.eval,asInt,asIntOf,Go.underlying,Go.typeInfo,Go.program,bind,Ϭ,ϧ,hu,hi,pure,newObj,World.alloc];rw[if_neg h1];rfl
def Qj(t:Array z)(ho:o.op=.alloc ty){i:ă}(hi: P.info? ty=J i)(hz:i.zero=J v)(hv:v.cells=#[v])(w:N):
 (execOp (aX t) o).runT P w #[]=(.ok (.value (π (J ⟨w.heap.size,0,H⟩))) (w.alloc (Ξ #[v] ty)),#[]):=by
 unfold execOp;rw[ho];simp only[Instr.alloc,Go.zeroValue,Go.typeInfo,Go.program,bind,Ϭ,ϧ,hi,hz,pure,newVar,newRow,newObj,World.alloc,hv]
def P5:TypeDesc->Bool
 | .struct _| .array _ _=>U
 |_=>D
def ajs{d:TypeDesc}(hu:P.underlying ty=J d)(hd:P5 d=D)(w:N)(es:Array Event):(Go.isAgg ty).runT P w es=(.ok U w,es):=by
 simp only[Go.isAgg,Go.underlying,Go.program,bind,Ϭ,ϧ,hu,pure];cases d<;>first|rfl|exact absurd hd (by simp[P5])
def Qm(t:Array z)(ho:o.op=.store ty (.tmp n) (.tmp m)){b:Nat}(ht:t.getD n L=π (J ⟨b,0,H⟩))(hm:t.getD m L=v)(hv:v.cells=#[v])(h1:T8 v=D)
 {i:ă}(hi: P.info? ty=J i)(V:i.size=1)
 (w:N)(hw:w.heap[b]?=J (Ξ #[v0] e (0,0))):
 (execOp (aX t) o).runT P w #[]=(.ok .skip {w with heap:=w.heap.setIfInBounds b (Ξ #[v] e (0,0))},#[⟨.cell ⟨b,0,H⟩,D,U⟩]):=by
 have hc: w.cell? ⟨b,0,H⟩=J v0:=mH hw rfl rfl;have hf: w.frozen? ⟨b,0,H⟩=U:=by rw[zp hw];rfl
 have e1:aX t (.tmp n)=π (J ⟨b,0,H⟩):=ht;have e3:aX t (.tmp m)=v:=hm;have I0:w.setCell ⟨b,0,H⟩ v={w with heap:=w.heap.setIfInBounds b (Ξ #[v] e (0,0))}:=by
  have hh:(w.setCell ⟨b,0,H⟩ v).heap=w.heap.setIfInBounds b (Ξ #[v] e (0,0)):=by
   apply ţ;intro i;rw[C4 hw rfl i,Ü];by_cases hi:i=b
   ·subst hi;have ao:=(Ϝ.1 hw).1;simp only[if_true,ao];rfl
   ·simp only[hi,Θ hi,if_false]
  rw[<-hh];rfl
 have e2:execOp (aX t) o=(storeVar ty ⟨b,0,H⟩ v>>=λ_=>pure .skip):=by unfold execOp;rw[ho];simp only[Instr.storeAt,e1,e3,Instr.sureAddr,bind,Ϭ,pure]
 rw[e2];have eW:∀es,(Go.store ⟨b,0,H⟩ v).runT P w es=(.ok () (w.setCell ⟨b,0,H⟩ v),es.push ⟨.cell ⟨b,0,H⟩,D,U⟩):=by
  intro es;cases v<;>first| (unfold Go.store;simp only[ϧ,hc,hf,è,if_false];rfl) |cases h1
 rw[<-I0];have aw:¬ (#[v].size≠1):=by simp
 simp only[storeVar,hv,storeCells,sizeOf,Go.typeInfo,Go.program,bind,Ϭ,ϧ,hi,V,pure];rw[if_neg aw];have ha:(⟨b,0,H⟩:Addr).add 0=⟨b,0,H⟩:=rfl;rw[ha];show(((Go.store ⟨b,0,H⟩ v).bind λ_=>ł ()).bind λ_=>ł Next.skip).runT P w #[]=_
 rw[qR,qR,eW];rfl
end Go.Jn
namespace Go.Jn
open Go Go.Sim Go.Conc
section
variable {P:ϗ}(t:Array z){o:Ó}(w:N)
def run_move{x:î}(ho:o.op=.move x):(execOp (aX t) o).runT P w #[]=(.ok (.value (aX t x)) w,#[]):=by unfold execOp;rw[ho];rfl
def run_assign{x:î}(ho:o.op=.assign x):(execOp (aX t) o).runT P w #[]=(.ok (.value (aX t x)) w,#[]):=by unfold execOp;rw[ho];rfl
def Qk{cp:Array î}(ho:o.op=.makeFunc (.func f) #[] cp):(execOp (aX t) o).runT P w #[]=(.ok (.value (.func (.func f) #[] (cp.map (aX t)))) w,#[]):=by unfold execOp;rw[ho];simp only[Aj1,Instr.makeFunc];rfl
def Yf{n:Nat}{ts:Array ώ}{f:Æ}{fe:Array z}(ho:o.op=.go {callee:=.value (.tmp n),args:=#[],argTypes:=ts})(hn:t.getD n L=.func (.func f) #[] fe):
 (execOp (aX t) o).runT P w #[]=(.ok (.spawn {target:=.fn (.func f) fe,args:=#[]}) w,#[]):=by
 have e1:aX t (.tmp n)=.func (.func f) #[] fe:=hn;unfold execOp;rw[ho];simp only[resolve,e1,Deferred.ofValue,Aj1,ç];rfl
def anY{n:Nat}{ts:Array ώ}{f:Æ}{fe:Array z}(ho:o.op=.defer {callee:=.value (.tmp n),args:=#[],argTypes:=ts})(hn:t.getD n L=.func (.func f) #[] fe):
 (execOp (aX t) o).runT P w #[]=(.ok (.defer {target:=.fn (.func f) fe,args:=#[]}) w,#[]):=by
 have e1:aX t (.tmp n)=.func (.func f) #[] fe:=hn;unfold execOp;rw[ho];simp only[resolve,e1,Deferred.ofValue,Aj1,ç];rfl
def Yj{x:î}{c:Nat}(ho:o.op=.send (.tmp n) x)(hn:t.getD n L=.chan (J c)):
 (execOp (aX t) o).runT P w #[]=(.ok (.comm #[scase c (aX t x) (μ #[])] D .send) w,#[]):=by
 have e1:aX t (.tmp n)=.chan (J c):=hn;unfold execOp;rw[ho];simp only[e1];rfl
def Ql{c:Nat}(ho:o.op=.recv ty (.tmp n) ok)(hn:t.getD n L=.chan (J c))(hu:P.underlying ty=J (.chan dir e)){i:ă}(hi: P.info? e=J i)(hz:i.zero=J υ):
 (execOp (aX t) o).runT P w #[]=(.ok (.comm #[rcase c υ] D (.recv ok)) w,#[]):=by
 have e1:aX t (.tmp n)=.chan (J c):=hn;unfold execOp;rw[ho];simp only[e1,Go.underlying,Go.zeroValue,Go.typeInfo,Go.program,bind,Ϭ,ϧ,hu,hi,hz,pure];rfl
def F9{x:Array z}(ho:o.op=.extract (.tmp n) i)(hn:t.getD n L=.tuple x)(hx:x[i]?=J v):
 (execOp (aX t) o).runT P w #[]=(.ok (.value v) w,#[]):=by
 have e1:aX t (.tmp n)=.tuple x:=hn;unfold execOp;rw[ho];simp only[e1,Instr.extract,hx];rfl
def JU{x y:î}{a b:Int}(ho:o.op=.binOp .lss ty x y Q0)(hx:aX t x=Y I a)(hy:aX t y=Y I b):
 (execOp (aX t) o).runT P w #[]=(.ok (.value (.bool (decide (a<b)))) w,#[]):=by
 unfold execOp;rw[ho];simp only[hx,hy];rfl
def Yc{x y:î}{a b:Int}(ho:o.op=.binOp .add ty x y Q0)(hx:aX t x=Y I a)(hy:aX t y=Y I b):
 (execOp (aX t) o).runT P w #[]=(.ok (.value (Y I (IntKind.i64.wrap (a+b)))) w,#[]):=by
 unfold execOp;rw[ho];simp only[hx,hy];rfl
def Yg{n:Nat}{ty e:ώ}{b:Option Addr}{l c:Nat}(ho:o.op=.call {callee:=.builtin .len,args:=#[.tmp n],argTypes:=#[ty]})(hn:t.getD n L=.slice b l c)(hu:P.underlying ty=J (.slice e)):
 (execOp (aX t) o).runT P w #[]=(.ok (.value (goInt l)) w,#[]):=by
 have e1:aX t (.tmp n)=.slice b l c:=hn;unfold execOp;rw[ho];simp only[resolve,ī,Ę,ĥ,e1];show((Builtin.len_ #[ty] o.type #[.slice b l c]).bind λv=>ł (Next.value v)).runT P w #[]=_;have e2:(Builtin.len_ #[ty] o.type #[.slice b l c]).runT P w #[]=(.ok (goInt l) w,#[]):=by unfold Builtin.len_;simp only[Go.underlying,Go.program,bind,Ϭ,ϧ,pure,List.getElem?_toArray,List.getElem?_cons_zero,hu]
 rw[qR,e2];rfl
def Ye{f:Nat}(ho:o.op=.fieldAddr ty (.tmp n) f){a:Addr}(hn:t.getD n L=π (J a))(hu:P.underlying ty=J (.struct fs)){fd:Field}(hf:fs[f]?=J fd){i:ă}(hi: P.info? fd.type=J i)(V:i.size≠0):
 (execOp (aX t) o).runT P w #[]=(.ok (.value (π (J (a.add fd.offset)))) w,#[]):=by
 have e1:aX t (.tmp n)=π (J a):=hn;unfold execOp;rw[ho];simp only[e1,Instr.fieldAt,Instr.sureAddr,fieldPlace,sizeOf,Go.underlying,Go.typeInfo,Go.program,bind,Ϭ,ϧ,pure,hu,hf,hi,if_neg V]
def yz(ho:o.op=.load ty (.tmp n)){a:Addr}(hn:t.getD n L=π (J a)){d:TypeDesc}(hu:P.underlying ty=J d)(hd:P5 d=D)(hc: w.cell? a=J v):
 (execOp (aX t) o).runT P w #[]=(.ok (.value v) w,#[⟨.cell a,U,U⟩]):=by
 have e1:aX t (.tmp n)=π (J a):=hn;have e2:execOp (aX t) o=(do let x <-(do if <-Go.isAgg ty then pure (.agg (<-loadCells a (<-sizeOf ty))) else Go.load a);pure (.value x)):=by unfold execOp;rw[ho];simp only[Instr.loadAt,e1,Instr.sureAddr,loadVar,bind,Ϭ,pure]
 rw[e2];simp only[bind,Go.load];rw[qR,qR,ajs hu hd];simp only[è,if_false,ϧ,hc,ŕ];rfl
def anX{n:Nat}{ty:ώ}{c s r:Nat}(ho:o.op=.call {callee:=.builtin .close,args:=#[.tmp n],argTypes:=#[ty]})(hn:t.getD n L=.chan (J c))(hw:w.heap[c]?=J (.chan 0 #[] U s r U)):
 (execOp (aX t) o).runT P w #[]=(.ok (.value (μ #[])) (w.shut c s r U),#[⟨.obj c,U,D⟩,⟨.obj c,D,D⟩]):=by
 have e1:aX t (.tmp n)=.chan (J c):=hn;unfold execOp;rw[ho];simp only[resolve,ī,Ę,ĥ,e1];show((Builtin.close_ #[ty] o.type #[.chan (J c)]).bind λv=>ł (Next.value v)).runT P w #[]=_;have e2:(Builtin.close_ #[ty] o.type #[.chan (J c)]).runT P w #[]=(.ok (μ #[]) (w.shut c s r U),#[⟨.obj c,U,D⟩,⟨.obj c,D,D⟩]):=by
  have e3:Builtin.close_ #[ty] o.type #[.chan (J c)]=(do
   let .chan room buf closed aoS anh timer <-Go.getObj c|Go.stuck "close: no channel in this block"
   if closed then runtimePanic (.plain "close of closed channel")
   Go.setObj c (.chan room buf D aoS anh timer)
   pure (μ #[])):=rfl
  rw[e3];simp only[Go.getObj,Go.setObj,bind,Ϭ,ϧ,hw,è,if_false,pure,ŕ];rfl
 rw[qR,e2];rfl
end
end Go.Jn
namespace Go.Jn
open Go Go.Proofs Go.Sim
def ChanAt(t:Array z)(M:ay)(w0 w:N)(s c:Nat):Prop:=t[s]?=J (.chan (J c))/\M.O c/\w0.heap.size<=c/\w.heap[c]?=J (.chan 0 #[] U 0 0 U)
def pd(t:Array z)(M:ay)(w0 w:N)(s p:Nat)(v:z)(ty:ώ):Prop:=t[s]?=J (π (J ⟨p,0,H⟩))/\M.O p/\w0.heap.size<=p/\w.heap[p]?=J (Ξ #[v] ty (0,0))
def lz{o:Obj}{b:Nat}(h:b<w.heap.size):(w.alloc o).heap[b]?=w.heap[b]?:=by show(w.heap.push o)[b]?=_;rw[Š,if_neg (by omega)]
def kQ{o:Obj}:(w.alloc o).heap[w.heap.size]?=J o:=by show(w.heap.push o)[w.heap.size]?=_;rw[Š,if_pos rfl]
def fy{o:Obj}:(w.alloc o).heap.size=w.heap.size+1:=by show(w.heap.push o).size=_;rw[Array.size_push]
def zg{o:Obj}:eZ M w (w.alloc o) #[]:=
 ⟨by rw[fy];omega,λb hb _=>lz hb,rfl,rfl,rfl,λe he=>absurd he (by simp)⟩
def jV(w:N)(p:Nat)(o:Obj):N:={w with heap:=w.heap.setIfInBounds p o}
def sk{o:Obj}:(jV w p o).heap.size=w.heap.size:=Ĕ
def yA{b:Nat}{o:Obj}(h:p≠b):(jV w p o).heap[b]?=w.heap[b]?:=by show(w.heap.setIfInBounds p o)[b]?=_;rw[Ü,if_neg h]
def Qt{o:Obj}(h:p<w.heap.size):(jV w p o).heap[p]?=J o:=by show(w.heap.setIfInBounds p o)[p]?=_;rw[Ü,if_pos rfl,if_pos h]
def MM{o:Obj}(hO:M.O p):eZ M w (jV w p o) #[⟨.cell ⟨p,0,H⟩,D,U⟩]:=
 ⟨by rw[sk];exact ϊ _,λb _ hb=>yA (by rintro rfl;exact hb hO),rfl,rfl,rfl,λe he=>by
   simp only[ê,Ô] at he;subst he;exact .inl ⟨p,.inr ⟨⟨p,0,H⟩,rfl,rfl⟩,rfl,.inl (.inl hO),λ_=>.inl hO⟩⟩
def Hx{o:Obj}:M.grow w (jV w p o)=M:=by
 have:=BP M w;unfold ay.grow at this |-;rw[sk];exact this
section
variable {t:Array z}{M:ay}{w0 w:N}{s c:Nat}
def ChanAt.alloc(h:ChanAt t M w0 w s c)(hl:∀b,M.has b->b<w.heap.size){d:Nat}(hd:d≠s){v:z}{o:Obj}:ChanAt (t.setIfInBounds d v) (M.grow w (w.alloc o)) w0 (w.alloc o) s c:=
 ⟨by rw[Ü,if_neg hd];exact h.1,.inl h.2.1,h.2.2.1,(lz (hl _ (.inl h.2.1))).trans h.2.2.2⟩
def pd.alloc{v0:z}{ty:ώ}(h:pd t M w0 w s c v0 ty)(hl:∀b,M.has b->b<w.heap.size){d:Nat}(hd:d≠s){v:z}{o:Obj}:pd (t.setIfInBounds d v) (M.grow w (w.alloc o)) w0 (w.alloc o) s c v0 ty:=
 ⟨by rw[Ü,if_neg hd];exact h.1,.inl h.2.1,h.2.2.1,(lz (hl _ (.inl h.2.1))).trans h.2.2.2⟩
def ChanAt.set(h:ChanAt t M w0 w s c)(hp:w.heap[p]?=J (Ξ #[v] ty (0,0))){o:Obj}:ChanAt t M w0 (jV w p o) s c:=
 ⟨h.1,h.2.1,h.2.2.1,(yA (by rintro rfl;rw[h.2.2.2] at hp;exact absurd hp (by simp))).trans h.2.2.2⟩
def pd.set(h:pd t M w0 w s c v0 ty)(hp:p≠c){o:Obj}:pd t M w0 (jV w p o) s c v0 ty:=
 ⟨h.1,h.2.1,h.2.2.1,(yA hp).trans h.2.2.2⟩
def ChanAt.keep(h:ChanAt t M w0 w s c)(k:bR M w aa):ChanAt t M w0 aa s c:=⟨h.1,h.2.1,h.2.2.1,(k.kept _ (.inl h.2.1)).trans h.2.2.2⟩
def pd.keep(h:pd t M w0 w s c v0 ty)(k:bR M w aa):pd t M w0 aa s c v0 ty:=⟨h.1,h.2.1,h.2.2.1,(k.kept _ (.inl h.2.1)).trans h.2.2.2⟩
end
structure I4(t0:Array z)(M0:ay)(w0:N)(n:Nat)(l:Array Bool)(t:Array z)(M:ay)(w:N):Prop where
 ex:∃a0 a1 a2 a3 a4 a5:Bool,∃cN cL p6 p7:Nat,l=#[a0,a1,a2,a3,a4,a5]/\n=bn a0+bn a1+bn a2+bn a3+bn a4+bn a5/\
  (a0=D->ChanAt t M w0 w 19 cN)/\(a1=D->ChanAt t M w0 w 20 cL)/\
  (a2=D->pd t M w0 w 6 p6 (if a4 then .chan (J cN) else .chan H) 154)/\(a3=D->pd t M w0 w 7 p7 (if a5 then .chan (J cL) else .chan H) 155)/\
  (a4=D->a0=D/\a2=D)/\(a5=D->a1=D/\a3=D)/\(a0=D->a1=D->cN≠cL)/\(a2=D->a3=D->p6≠p7)
 o8:t.size=41
 same:∀j,j≠19->j≠20->j≠6->j≠7->t[j]?=t0[j]?
 O:∀b,M0.O b->M.O b
 On:∀b,M.O b->M0.O b\/w0.heap.size<=b
 R:M.R=M0.R
 kept:∀b,M0.has b->w.heap[b]?=w0.heap[b]?
 size:w0.heap.size<=w.heap.size
 pP:∀b,M0.has b->b<w0.heap.size
 low:∀b,M.has b->b<w.heap.size
 tape:w.tape=w0.tape
 os:w.os=w0.os
 e:w.output=w0.output
section
variable {t0 t:Array z}{M0 M:ay}{w0 w:N}{n:Nat}{l:Array Bool}
def I4.keep(h:I4 t0 M0 w0 n l t M w){aa:N}(k:bR M w aa):I4 t0 M0 w0 n l t M aa:=by
 obtain⟨⟨a0,a1,a2,a3,a4,a5,cN,cL,p6,p7,e1,e2,f0,f1,f2,f3,f4,f5,f6,f7⟩,o8,same,O,On,R,kept,size,pP,low,tape,os,out⟩:=h;exact⟨⟨a0,a1,a2,a3,a4,a5,cN,cL,p6,p7,e1,e2,λh=>(f0 h).keep k,λh=>(f1 h).keep k,λh=>(f2 h).keep k,λh=>(f3 h).keep k,f4,f5,f6,f7⟩,o8,same,O,On,R,
  λb hb=>(k.kept b (hb.imp (O b) λx=>by rw[R];exact x)).trans (kept b hb),Ϥ size k.size,pP,λb hb=>Ϣ (low b hb) k.size,k.tape.trans tape,k.os.trans os,k.e.trans out⟩
end
def Da:∃dir,ϋ.underlying 154=J (.chan dir 3):=⟨_,rfl⟩
def QZ:∃dir,ϋ.underlying 155=J (.chan dir 4):=⟨_,rfl⟩
def in3:∃i,ϋ.info? 3=J i:=⟨_,rfl⟩
def in4:∃i,ϋ.info? 4=J i:=⟨_,rfl⟩
def WE:∃i,ϋ.info? 154=J i/\i.zero=J (.chan H)/\i.size=1:=⟨_,rfl,rfl,rfl⟩
def WG:∃i,ϋ.info? 155=J i/\i.zero=J (.chan H)/\i.size=1:=⟨_,rfl,rfl,rfl⟩
section
variable {t0 t:Array z}{M0 M:ay}{w0 w:N}{n:Nat}{l:Array Bool}
def I4.step(h:I4 t0 M0 w0 n l t M w){i:Nat}(hi:i∈ϯ .any jB l):
 ∃o v au es,jB[i]?=J o/\ϸ o (À jB t)=D/\
  ((execOp (aX t) o).runT ϋ w #[]=(.ok (.value v) au,es)\/v=L/\(execOp (aX t) o).runT ϋ w #[]=(.ok .skip au,es))/\eZ M w au es/\(∀e∈es,∀b,e.loc≠ .obj b)/\I4 t0 M0 w0 (n+1) (l.setIfInBounds i D) (aA t o.dst v) (M.grow w au) au:=by
 obtain⟨⟨a0,a1,a2,a3,a4,a5,cN,cL,p6,p7,rfl,e2,f0,f1,f2,f3,f4,f5,f6,f7⟩,o8,same,O,On,R,kept,size,pP,low,tape,os,out⟩:=h;have T:=Sz anf a0 a1 a2 a3 a4 a5;rw[Ħ] at T;have hc:=T i hi;have Jx:∀(o:Obj) b,(M.grow w (w.alloc o)).has b->b<(w.alloc o).heap.size:=by
  intro o b hb;rw[fy];rcases hb with(hb|hb) |hb
  ·have:=low b (.inl hb);omega
  ·rw[fy] at hb;omega
  ·have:=low b (.inr hb);omega
 have Jv:∀(o:Obj) b,(M.grow w (w.alloc o)).O b->M0.O b\/w0.heap.size<=b:=by
  rintro o b (hb|hb)
  ·exact On b hb
  ·right;omega
 have Ju:∀(o:Obj) b,M0.has b->(w.alloc o).heap[b]?=w0.heap[b]?:=λo b hb=>(lz (by have:=pP b hb;omega)).trans (kept b hb);have Jw:∀o:Obj,w0.heap.size<=(w.alloc o).heap.size:=λo=>by rw[fy];omega
 have own:∀o:Obj,(M.grow w (w.alloc o)).O w.heap.size:=λo=>.inr ⟨ϊ _,by rw[fy];omega⟩;have sm:∀(d:Nat) (v:z),(d=19\/d=20\/d=6\/d=7)->∀j,j≠19->j≠20->j≠6->j≠7->(t.setIfInBounds d v)[j]?=t0[j]?:=by intro d v hd j h1 h2 h3 h4;rw[Ü,if_neg (by rcases hd with rfl|rfl|rfl|rfl<;>omega)];exact same j h1 h2 h3 h4
 have at_:∀(d:Nat) (v:z),d<41->(t.setIfInBounds d v)[d]?=J v:=by intro d v hd;rw[Ü,if_pos rfl,if_pos (by omega)]
 have cT:∀ {s:Nat} {v:z},t[s]?=J v->t.getD s L=v:=by intro s v h;rw[æ,h];rfl
 match i,hc with
 |0,hc=>
  have ha:a0=U:=by simpa [wQ] using hc
  subst ha;obtain⟨o,ho,ag,hd,hg⟩:=amF;obtain⟨dir,hu⟩:=Da;have h4:a4=U:=by cases a4;rfl;exact absurd (f4 rfl).1 (by simp)
  subst h4;refine⟨o,_,_,_,ho,cx hg,.inl (Yi t ag hu w in3),zg,by simp,?_⟩;rw[hd];refine⟨⟨D,a1,a2,a3,U,a5,w.heap.size,cL,p6,p7,rfl,by simp only[bn] at *;simp at *;omega,λ_=>⟨at_ 19 _ (by omega),own _,size,kQ⟩,λh=>(f1 h).alloc low (by omega),λh=>?_,λh=>(f3 h).alloc low (by omega),by simp,f5,λ_ h=>?_,f7⟩,
   by simp[aA,o8],sm 19 _ (by simp),λb hb=>.inl (O b hb),Jv _,R,Ju _,Jw _,pP,Jx _,tape,os,out⟩
  ·have:=(f2 h).alloc low (d:=19) (v:=.chan (J w.heap.size)) (o:=.chan 0 #[] U 0 0 U) (by omega);simpa [aA] using this
  ·have:=low cL (.inl (f1 h).2.1);omega
 |1,hc=>
  have ha:a1=U:=by simpa [wQ] using hc
  subst ha;obtain⟨o,ho,ag,hd,hg⟩:=amG;obtain⟨dir,hu⟩:=QZ;have h5:a5=U:=by cases a5;rfl;exact absurd (f5 rfl).1 (by simp)
  subst h5;refine⟨o,_,_,_,ho,cx hg,.inl (Yi t ag hu w in4),zg,by simp,?_⟩;rw[hd];refine⟨⟨a0,D,a2,a3,a4,U,cN,w.heap.size,p6,p7,rfl,by simp only[bn] at *;simp at *;omega,λh=>(f0 h).alloc low (by omega),λ_=>⟨at_ 20 _ (by omega),own _,size,kQ⟩,λh=>(f2 h).alloc low (by omega),λh=>?_,f4,by simp,λh _=>?_,f7⟩,
   by simp[aA,o8],sm 20 _ (by simp),λb hb=>.inl (O b hb),Jv _,R,Ju _,Jw _,pP,Jx _,tape,os,out⟩
  ·have:=(f3 h).alloc low (d:=20) (v:=.chan (J w.heap.size)) (o:=.chan 0 #[] U 0 0 U) (by omega);simpa [aA] using this
  ·have:=low cN (.inl (f0 h).2.1);omega
 |2,hc=>
  have ha:a2=U:=by simpa [wQ] using hc
  subst ha;obtain⟨o,ho,ag,hd,hg⟩:=amH;obtain⟨ti,mS,hz,_⟩:=WE;have h4:a4=U:=by cases a4;rfl;exact absurd (f4 rfl).2 (by simp)
  subst h4;refine⟨o,_,_,_,ho,cx hg,.inl (Qj t ag mS hz rfl w),zg,by simp,?_⟩;rw[hd];refine⟨⟨a0,a1,D,a3,U,a5,cN,cL,w.heap.size,p7,rfl,by simp only[bn] at *;simp at *;omega,λh=>(f0 h).alloc low (by omega),λh=>(f1 h).alloc low (by omega),λ_=>⟨at_ 6 _ (by omega),own _,size,kQ⟩,λh=>(f3 h).alloc low (by omega),by simp,f5,f6,λ_ h=>?_⟩,
   by simp[aA,o8],sm 6 _ (by simp),λb hb=>.inl (O b hb),Jv _,R,Ju _,Jw _,pP,Jx _,tape,os,out⟩
  have:=low p7 (.inl (f3 h).2.1);omega
 |3,hc=>
  have ha:a3=U:=by simpa [wQ] using hc
  subst ha;obtain⟨o,ho,ag,hd,hg⟩:=amI;obtain⟨ti,mS,hz,_⟩:=WG;have h5:a5=U:=by cases a5;rfl;exact absurd (f5 rfl).2 (by simp)
  subst h5;refine⟨o,_,_,_,ho,cx hg,.inl (Qj t ag mS hz rfl w),zg,by simp,?_⟩;rw[hd];refine⟨⟨a0,a1,a2,D,a4,U,cN,cL,p6,w.heap.size,rfl,by simp only[bn] at *;simp at *;omega,λh=>(f0 h).alloc low (by omega),λh=>(f1 h).alloc low (by omega),λh=>(f2 h).alloc low (by omega),λ_=>⟨at_ 7 _ (by omega),own _,size,kQ⟩,f4,by simp,f6,λh _=>?_⟩,
   by simp[aA,o8],sm 7 _ (by simp),λb hb=>.inl (O b hb),Jv _,R,Ju _,Jw _,pP,Jx _,tape,os,out⟩
  have:=low p6 (.inl (f2 h).2.1);omega
 |4,hc=>
  have ha:(a4=U/\a0=D)/\a2=D:=by simpa [wQ] using hc
  obtain⟨⟨rfl,rfl⟩,rfl⟩:=ha;obtain⟨o,ho,ag,hd,hg⟩:=amJ;obtain⟨ti,mS,_,V⟩:=WE;have g0:=f0 rfl;have g2:=f2 rfl;refine⟨o,L,jV w p6 (Ξ #[.chan (J cN)] 154 (0,0)),_,ho,cx hg,.inr ⟨rfl,Qm t ag (cT g2.1) (cT g0.1) rfl rfl mS V w g2.2.2.2⟩,MM g2.2.1,by simp,?_⟩
  rw[hd,Hx];refine⟨⟨D,a1,D,a3,D,a5,cN,cL,p6,p7,rfl,by simp only[bn] at *;simp at *;omega,λ_=>g0.set g2.2.2.2,λh=>(f1 h).set g2.2.2.2,λ_=>⟨g2.1,g2.2.1,g2.2.2.1,Qt (low _ (.inl g2.2.1))⟩,λh=>(f3 h).set (f7 rfl h),λ_=>⟨rfl,rfl⟩,f5,f6,f7⟩,
   o8,same,O,On,R,λb hb=>(yA (by have:=pP b hb;have:=g2.2.2.1;omega)).trans (kept b hb),by rw[sk];exact size,pP,λb hb=>by rw[sk];exact low b hb,tape,os,out⟩
 |5,hc=>
  have ha:(a5=U/\a1=D)/\a3=D:=by simpa [wQ] using hc
  obtain⟨⟨rfl,rfl⟩,rfl⟩:=ha;obtain⟨o,ho,ag,hd,hg⟩:=amK;obtain⟨ti,mS,_,V⟩:=WG;have g1:=f1 rfl;have g3:=f3 rfl;refine⟨o,L,jV w p7 (Ξ #[.chan (J cL)] 155 (0,0)),_,ho,cx hg,.inr ⟨rfl,Qm t ag (cT g3.1) (cT g1.1) rfl rfl mS V w g3.2.2.2⟩,MM g3.2.1,by simp,?_⟩
  rw[hd,Hx];refine⟨⟨a0,D,a2,D,a4,D,cN,cL,p6,p7,rfl,by simp only[bn] at *;simp at *;omega,λh=>(f0 h).set g3.2.2.2,λ_=>g1.set g3.2.2.2,λh=>(f2 h).set (Θ (f7 h rfl)),λ_=>⟨g3.1,g3.2.1,g3.2.2.1,Qt (low _ (.inl g3.2.1))⟩,f4,λ_=>⟨rfl,rfl⟩,f6,f7⟩,
   o8,same,O,On,R,λb hb=>(yA (by have:=pP b hb;have:=g3.2.2.1;omega)).trans (kept b hb),by rw[sk];exact size,pP,λb hb=>by rw[sk];exact low b hb,tape,os,out⟩
 |n+6,hc=>exact absurd hc (by simp[wQ])
structure R4(t0:Array z)(M0:ay)(w0:N)(cN cL p6 p7:Nat)(t:Array z)(M:ay)(w:N):Prop where
 n:ChanAt t M w0 w 19 cN
 l:ChanAt t M w0 w 20 cL
 vn:pd t M w0 w 6 p6 (.chan (J cN)) 154
 vl:pd t M w0 w 7 p7 (.chan (J cL)) 155
 nl:cN≠cL
 np:p6≠p7
 o8:t.size=41
 same:∀j,j≠19->j≠20->j≠6->j≠7->t[j]?=t0[j]?
 O:∀b,M0.O b->M.O b
 On:∀b,M.O b->M0.O b\/w0.heap.size<=b
 R:M.R=M0.R
 kept:∀b,M0.has b->w.heap[b]?=w0.heap[b]?
 size:w0.heap.size<=w.heap.size
 low:∀b,M.has b->b<w.heap.size
 tape:w.tape=w0.tape
 os:w.os=w0.os
 e:w.output=w0.output
def I4.done(h:I4 t0 M0 w0 n l t M w)(hd:ϯ .any jB l=[]\/n=jB.size):∃cN cL p6 p7,R4 t0 M0 w0 cN cL p6 p7 t M w:=by
 obtain⟨⟨a0,a1,a2,a3,a4,a5,cN,cL,p6,p7,rfl,e2,f0,f1,f2,f3,f4,f5,f6,f7⟩,o8,same,O,On,R,kept,size,pP,low,tape,os,out⟩:=h;have eT:a0=D/\a1=D/\a2=D/\a3=D/\a4=D/\a5=D:=by
  rcases hd with hd|hd
  ·have:=Sz aer a0 a1 a2 a3 a4 a5;rw[hd] at this;simpa [and_assoc] using this
  ·rw[ao2] at hd;rw[e2] at hd;cases a0<;>cases a1<;>cases a2<;>cases a3<;>cases a4<;>cases a5<;>simp_all [bn]
 obtain⟨rfl,rfl,rfl,rfl,rfl,rfl⟩:=eT;exact⟨cN,cL,p6,p7,f0 rfl,f1 rfl,f2 rfl,f3 rfl,f6 rfl rfl,f7 rfl rfl,o8,same,O,On,R,kept,size,low,tape,os,out⟩
def mixed:ϋ.follows .mixedOrders=D:=by decide+kernel
def aqK{Stop:ay->ϐ->N->Prop}(hk:(kd==.early)=U)
 (V:t0.size=41)(iU:∀b,M0.has b->b<w0.heap.size)
 (h:∀cN cL p6 p7 t M w,R4 t0 M0 w0 cN cL p6 p7 t M w->WalkE ϋ main Ψ Stop M (rg f t k θ kd cs) w):
 WalkE ϋ main Ψ Stop M0 (rg f t0 (.code (.region 4 jB D)::k) θ kd cs) w0:=by
 refine aqD mixed hk (I4 t0 M0 w0) (λn l t M w aa hI kp=>hI.keep kp) (λn l t M w i hI hi=>hI.step hi) (λn l t M w hI hd=>?_) ?_
 ·obtain⟨cN,cL,p6,p7,hR⟩:=hI.done hd;exact h _ _ _ _ _ _ _ hR
 ·refine⟨⟨U,U,U,U,U,U,0,0,0,0,rfl,rfl,by simp,by simp,by simp,by simp,by simp,by simp,by simp,by simp⟩,V,λ_ _ _ _ _=>rfl,λ_ h=>h,λ_ h=>.inl h,rfl,λ_ _=>rfl,ϊ _,iU,iU,rfl,rfl,rfl⟩
end
end Go.Jn
namespace Go.Jn
open Go Go.Proofs Go.Sim Go.Conc
def so:Ϙ->Ϙ
 | .block _ c=>c
 | .loop c=>c
 |c=>c
def Mk:Ϙ:=(Tryz.f124.body).getD .skip
def ru:Ϙ:=so (so (aS (bp Mk)))
def qA:Array Ó:=opsOf (bp (bp Mk))
def qB:Array Ó:=opsOf (bp ru)
def qC:Array Ó:=opsOf (so (bp (aS (aS ru))))
def qD:Array Ó:=opsOf (aS (aS (aS ru)))
def qE:Array Ó:=opsOf (aS Mk)
def Tb:Tryz.f124.body=J (.seq (.seq (.region 0 qA U) (.block 0 (.loop ru))) (.region 4 qE U)):=rfl
def Si:ru=.seq (.region 1 qB U) (.seq (.cond (.tmp 7) .skip (.exit 0)) (.seq (.block 1 (.region 2 qC U)) (.region 3 qD U))):=rfl
def cA0:∃o,qA[0]?=J o/\o.op=.fieldAddr 26 (.tmp 0) 2/\o.dst=J 3/\o.guard=H:=⟨_,rfl,rfl,rfl,rfl⟩
def cA1:∃o,qA[1]?=J o/\o.op=.load 23 (.tmp 3)/\o.dst=J 4/\o.guard=H:=⟨_,rfl,rfl,rfl,rfl⟩
def cA2:∃o,qA[2]?=J o/\o.op=.call {callee:=.builtin .len,args:=#[.tmp 4],argTypes:=#[23]}/\o.dst=J 5/\o.guard=H:=⟨_,rfl,rfl,rfl,rfl⟩
def cA3:∃o,qA[3]?=J o/\o.op=.move (.const (Y I 0))/\o.dst=J 6/\o.guard=H:=⟨_,rfl,rfl,rfl,rfl⟩
def Tm:∃o,qB[0]?=J o/\o.op=.binOp .lss 3 (.tmp 6) (.tmp 5) 3/\o.dst=J 7/\o.guard=H:=⟨_,rfl,rfl,rfl,rfl⟩
def cC0:∃o,qC[0]?=J o/\o.op=.load 155 (.tmp 1)/\o.dst=J 8/\o.guard=H:=⟨_,rfl,rfl,rfl,rfl⟩
def cC1:∃o,qC[1]?=J o/\o.op=.recv 155 (.tmp 8) U/\o.dst=J 9/\o.guard=H:=⟨_,rfl,rfl,rfl,rfl⟩
def cD0:∃o,qD[0]?=J o/\o.op=.binOp .add 3 (.tmp 6) (.const (Y I 1)) 3/\o.dst=J 10/\o.guard=H:=⟨_,rfl,rfl,rfl,rfl⟩
def cD1:∃o,qD[1]?=J o/\o.op=.move (.tmp 10)/\o.dst=J 6/\o.guard=H:=⟨_,rfl,rfl,rfl,rfl⟩
def cE0:∃o,qE[0]?=J o/\o.op=.load 154 (.tmp 2)/\o.dst=J 11/\o.guard=H:=⟨_,rfl,rfl,rfl,rfl⟩
def Tn:∃o,qE[1]?=J o/\o.op=.call {callee:=.builtin .close,args:=#[.tmp 11],argTypes:=#[154]}/\o.dst=H/\o.guard=H:=⟨_,rfl,rfl,rfl,rfl⟩
def zA:qA.size=4:=rfl
def zB:qB.size=1:=rfl
def zC:qC.size=2:=rfl
def zD:qD.size=2:=rfl
def zE:qE.size=2:=rfl
def ajk:∃i,ϋ.info? 4=J i/\i.zero=J (.bool U):=⟨_,rfl,rfl⟩
def Zj:∃fs fd i,ϋ.underlying 26=J (.struct fs)/\fs[2]?=J fd/\fd.offset=2/\ ϋ.info? fd.type=J i/\i.size≠0:=⟨_,_,_,rfl,rfl,rfl,rfl,by decide⟩
def Zi:∃e,ϋ.underlying 23=J (.slice e):=⟨_,rfl⟩
def yx{b:Nat}(h:M.has b)(a:Addr)(ha:a.block=b):∀e∈(#[⟨.cell a,U,U⟩]:Array Event),yP M e:=λe he=>by simp only[ê,Ô] at he;subst he;exact .inl ⟨b,.inr ⟨a,rfl,ha⟩,rfl,h,λh=>absurd h (by simp)⟩
def eE:∀e∈(#[]:Array Event),yP M e:=λe he=>absurd he (by simp)
def cT(h:t[s]?=J v):t.getD s L=v:=by rw[æ,h];rfl
def eX(h:d<t.size):(t.setIfInBounds d v)[d]?=J v:=by rw[Ü,if_pos rfl,if_pos h]
def bP(h:d≠s):(t.setIfInBounds d v)[s]?=t[s]?:=by rw[Ü,if_neg h]
section
variable {n N0 cL cN:Nat}{cX:Nat->Bool}{val:Nat->z}{End:List Nat->ay->ϐ->N->Prop}
def adW(ht:t.getD 11 L=.chan (J cN)):
 AtClose (Pm.mk ϋ n N0 cL cN cX val End) M (rg 124 t [.inRegion qE [1]] [] .deferred [cS ϋ]) w:=by
 refine⟨rfl,?_,λs r hw=>?_⟩
 ·obtain⟨o,ho,ag,hd,hg⟩:=Tn;show mayWake ϋ (rg 124 t [.inRegion qE [1]] [] .deferred [cS ϋ])=D;simp[mayWake,Ş,ho,ag]
 ·obtain⟨o,ho,ag,hd,hg⟩:=Tn;have eW:=J8 (P:=ϋ) (main:=U) (f:=124) (k:=[]) (θ:=[]) (kd:=.deferred) (cs:=[cS ϋ]) (rest:=[]) ho (cx hg) rfl (anX t w ag ht hw);rw[hd] at eW;refine⟨rg 124 t [.inRegion qE []] [] .deferred [cS ϋ],4,eW.trans ?_,?_⟩
  ·have e:seen ϋ 124 #[⟨.obj cN,U,D⟩,⟨.obj cN,D,D⟩]=#[⟨.obj cN,U,D⟩,⟨.obj cN,D,D⟩]:=by simp[seen]
   rw[e];rfl
  ·refine .inr ⟨rfl,rg 124 t [] [] .deferred [cS ϋ],λaa=>by simp[ϙ,ϻ,aA],.inr ⟨rfl,aT ⟨124,t,[],[],.returning,.deferred,H⟩ [cS ϋ],λaa=>by simp[ϙ,ϻ],ahj Tryz.func124 rfl⟩⟩
def iT(h:d<t.size):(aA t (J d) v).getD d L=v:=cT (eX h)
def wrap_small{x:Int}(h0:0<=x)(h1:x<2 ^ 62):IntKind.i64.wrap x=x:=by rw[IntWalk.i64_left];exact IntWalk.wrap64_in x (by omega)
def adX{p6 p7:Nat}{f6 f7:Nat×Nat}(m6:M.has p6)(m7:M.has p7)(h6:w.heap[p6]?=J (Ξ #[.chan (J cN)] e6 f6))(h7:w.heap[p7]?=J (Ξ #[.chan (J cL)] e7 f7))(hn:n<2 ^ 61):
 ∀(r:Nat) (t:Array z),r<=n->t.size=12->t[1]?=J (π (J ⟨p7,0,H⟩))->t[2]?=J (π (J ⟨p6,0,H⟩))->t[5]?=J (Y I n)->t[6]?=J (Y I ((n:Int) - r))->
  Walk ϋ U (rC (Pm.mk ϋ n N0 cL cN cX val End) r) M (rg 124 t [.code ru,.inLoop ru,.inBlock 0,.code (.region 4 qE U)] [] .deferred [cS ϋ]) w:=by
 intro r;induction r with
 |zero=>
  intro t T V t1 t2 t5 t6;rw[Si];refine fZ (iu ?_);rw[zB];obtain⟨o,ho,ag,hd,hg⟩:=Tm;refine dJ ho (cx hg) rfl (λaa _=>⟨_,JU t aa ag (cT t6) (cT t5),eE⟩) ?_;rw[hd];refine jl (fZ (Df (q:=U) ?_ ?_))
  ·have:¬ ((n:Int) - ((0:Nat):Int)<n):=by omega
   exact(iT (by omega)).trans (congrArg Value.bool (by simp only[this,decide_true,decide_false]))
  ·refine Q3 (k':=[.code (.region 4 qE U)]) rfl (iu ?_);rw[zE];obtain⟨o,ho,ag,hd,hg⟩:=cE0;obtain⟨dir,hu⟩:=Da;refine dJ ho (cx hg) rfl (λaa hk=>⟨_,yz _ aa ag (cT ((bP (by omega)).trans t2)) hu rfl (mH ((hk.kept _ m6).trans h6) rfl rfl),yx m6 _ rfl⟩) ?_;rw[hd];exact .stop λaa _=>adW (cT (eX (by simp[aA];omega)))
 |succ r ih=>
  intro t T V t1 t2 t5 t6;rw[Si];refine fZ (iu ?_);rw[zB];obtain⟨o,ho,ag,hd,hg⟩:=Tm;refine dJ ho (cx hg) rfl (λaa _=>⟨_,JU t aa ag (cT t6) (cT t5),eE⟩) ?_;rw[hd];refine jl (fZ (Df (q:=D) ?_ ?_))
  ·have:(n:Int) - ((r+1:Nat):Int)<n:=by omega
   exact(iT (by omega)).trans (congrArg Value.bool (by simp only[this,decide_true,decide_false]))
  ·refine Q7 (fZ (De (iu ?_)));rw[zC];obtain⟨o,ho,ag,hd,hg⟩:=cC0;obtain⟨dir,hu⟩:=QZ;refine dJ ho (cx hg) rfl (λaa hk=>⟨_,yz _ aa ag (cT ((bP (by omega)).trans t1)) hu rfl (mH ((hk.kept _ m7).trans h7) rfl rfl),yx m7 _ rfl⟩) ?_;rw[hd];suffices rest:∀hr:Array z,hr.size=12->hr[8]?=J (.chan (J cL))->(∀j,j≠7->j≠8->hr[j]?=t[j]?)->
    Walk ϋ U (rC (Pm.mk ϋ n N0 cL cN cX val End) (r+1)) M (rg 124 hr (.inRegion qC [1]:: .inBlock 1:: .code (.region 3 qD U):: .inLoop ru:: .inBlock 0:: [.code (.region 4 qE U)]) [] .deferred [cS ϋ]) w from
    rest _ (by simp[aA,V]) (eX (by simp[aA];omega)) (λj h1 h2=>(bP (Θ h2)).trans (bP (Θ h1)))
   intro hr Nz hT8 hTo;obtain⟨o,ho,ag,hd,hg⟩:=cC1;obtain⟨i,hi,hz⟩:=ajk;refine .stop λaa hk=>⟨rfl,rfl,⟨.bool U,Gi ho (cx hg) rfl (Ql hr aa ag (cT hT8) hu hi hz)⟩,?_⟩
   have E8:ϩ (rg 124 hr (.inRegion qC [1]:: .inBlock 1:: .code (.region 3 qD U):: .inLoop ru:: .inBlock 0:: [.code (.region 4 qE U)]) [] .deferred [cS ϋ]) (recvd U (.bool D) D)=
    rg 124 (hr.setIfInBounds 9 (.bool D)) (.inRegion qC []:: .inBlock 1:: .code (.region 3 qD U):: .inLoop ru:: .inBlock 0:: [.code (.region 4 qE U)]) [] .deferred [cS ϋ]:=by
    simp[ϩ,ē,ho,hd,recvd]
   show Walk ϋ U (rC (Pm.mk ϋ n N0 cL cN cX val End) r) M (ϩ (rg 124 hr (.inRegion qC [1]:: .inBlock 1:: .code (.region 3 qD U):: .inLoop ru:: .inBlock 0:: [.code (.region 4 qE U)]) [] .deferred [cS ϋ]) (recvd U (.bool D) D)) aa;rw[E8];refine Walk.rely ?_ hk;refine jl (acj (iu ?_));rw[zD];obtain⟨o,ho,ag,hd,hg⟩:=cD0;have hU:∀j,j≠7->j≠8->j≠9->(hr.setIfInBounds 9 (.bool D))[j]?=t[j]?:=λj h1 h2 h3=>(bP (Θ h3)).trans (hTo j h1 h2)
   refine dJ ho (cx hg) rfl (λaa _=>⟨_,Yc _ aa ag (cT ((hU 6 (by omega) (by omega) (by omega)).trans t6)) rfl,eE⟩) ?_;rw[hd];obtain⟨o,ho,ag,hd,hg⟩:=cD1;refine dJ ho (cx hg) rfl (λaa _=>⟨_,run_move _ aa ag,eE⟩) ?_;rw[hd];refine jl (Q5 ?_);have hw:IntKind.i64.wrap ((n:Int) - ((r+1:Nat):Int)+1)=(n:Int) - r:=(by rw[wrap_small (by omega) (by omega)];omega);rw[hw];have Cs:(hr.setIfInBounds 9 (.bool D)).size=12:=by simp[Nz]
   refine ih _ (by omega) (by simp[aA,Nz]) ?_ ?_ ?_ ?_
   ·exact(bP (by omega)).trans ((bP (by omega)).trans ((hU 1 (by omega) (by omega) (by omega)).trans t1))
   ·exact(bP (by omega)).trans ((bP (by omega)).trans ((hU 2 (by omega) (by omega) (by omega)).trans t2))
   ·exact(bP (by omega)).trans ((bP (by omega)).trans ((hU 5 (by omega) (by omega) (by omega)).trans t5))
   ·refine(eX (by simp[aA,Nz])).trans ?_;exact congrArg J (cT (eX (by omega)))
def al6:(Tryz.f124.name== "runtime.NumGoroutine")=U:=by decide+kernel
def closer{p6 p7:Nat}{eb:ώ}{f6 f7 fb:Nat×Nat}{bc:Array z}{A:Option Addr}{c:Nat}(mb:M.has bk)(m6:M.has p6)(m7:M.has p7)(hb:w.heap[bk]?=J (.cells bc eb fb))(hc:bc[2]?=J (.slice A n c))
 (h6:w.heap[p6]?=J (Ξ #[.chan (J cN)] e6 f6))(h7:w.heap[p7]?=J (Ξ #[.chan (J cL)] e7 f7))(hn:n<2 ^ 61):
 Walk ϋ U (rC (Pm.mk ϋ n N0 cL cN cX val End) n) M (born ϋ {target:=.fn (.func 124) #[π (J ⟨bk,0,H⟩),π (J ⟨p7,0,H⟩),π (J ⟨p6,0,H⟩)],args:=#[]}) w:=by
 refine ZA Tryz.func124 Tb (λaa=>DU Tryz.func124 Tb al6 _ aa) ?_;have ht:((#[]++#[π (J ⟨bk,0,H⟩),π (J ⟨p7,0,H⟩),π (J ⟨p6,0,H⟩)])++ϱ (Tryz.f124.ntmps - (#[]++#[π (J ⟨bk,0,H⟩),π (J ⟨p7,0,H⟩),π (J ⟨p6,0,H⟩)]:Array z).size) L:Array z)=
  #[π (J ⟨bk,0,H⟩),π (J ⟨p7,0,H⟩),π (J ⟨p6,0,H⟩),L,L,L,L,L,L,L,L,L]:=rfl
 rw[ht];generalize hT:(#[π (J ⟨bk,0,H⟩),π (J ⟨p7,0,H⟩),π (J ⟨p6,0,H⟩),L,L,L,L,L,L,L,L,L]:Array z)=t;have V:t.size=12:=by rw[<-hT];rfl
 have t0:t[0]?=J (π (J ⟨bk,0,H⟩)):=by rw[<-hT];rfl
 have t1:t[1]?=J (π (J ⟨p7,0,H⟩)):=by rw[<-hT];rfl
 have t2:t[2]?=J (π (J ⟨p6,0,H⟩)):=by rw[<-hT];rfl
 clear hT ht;refine fZ (fZ (iu ?_));rw[zA];obtain⟨o,ho,ag,hd,hg⟩:=cA0;obtain⟨fs,fd,fi,hu,hf,ON,hi,aN⟩:=Zj;refine dJ ho (cx hg) rfl (λaa _=>⟨_,Ye t aa ag (cT t0) hu hf hi aN,eE⟩) ?_;rw[hd,ON];obtain⟨o,ho,ag,hd,hg⟩:=cA1;obtain⟨e,Ff⟩:=Zi;refine dJ ho (cx hg) rfl (λaa hk=>⟨_,yz _ aa ag (cT (eX (by omega))) Ff rfl (mH ((hk.kept _ mb).trans hb) rfl hc),yx mb _ rfl⟩) ?_;rw[hd];obtain⟨o,ho,ag,hd,hg⟩:=cA2;refine dJ ho (cx hg) rfl (λaa _=>⟨_,Yg _ aa ag (cT (eX (by simp[aA];omega))) Ff,eE⟩) ?_;rw[hd];obtain⟨o,ho,ag,hd,hg⟩:=cA3;refine dJ ho (cx hg) rfl (λaa _=>⟨_,run_move _ aa ag,eE⟩) ?_;rw[hd];refine jl (De (Q6 ?_));refine adX m6 m7 h6 h7 hn n _ (ϊ _) (by simp[aA,V]) ?_ ?_ ?_ ?_
 ·exact(bP (by omega)).trans ((bP (by omega)).trans ((bP (by omega)).trans ((bP (by omega)).trans t1)))
 ·exact(bP (by omega)).trans ((bP (by omega)).trans ((bP (by omega)).trans ((bP (by omega)).trans t2)))
 ·exact(bP (by omega)).trans ((eX (by simp[aA];omega)).trans rfl)
 ·refine(eX (by simp[aA];omega)).trans ?_;have:(n:Int) - n=0:=by omega
  rw[this];rfl
end
def AQ:Array Ó:=opsOf ((Tryz.f121.body).getD .skip)
def Ta:Tryz.f121.body=J (.region 0 AQ U):=rfl
def ac1:∃o,AQ[0]?=J o/\o.op=.load 155 (.tmp 0)/\o.dst=J 1/\o.guard=H:=⟨_,rfl,rfl,rfl,rfl⟩
def ac2:∃o,AQ[1]?=J o/\o.op=.send (.tmp 1) (.const (.bool D))/\o.dst=H/\o.guard=H:=⟨_,rfl,rfl,rfl,rfl⟩
def aq6:AQ.size=2:=rfl
def al5:(Tryz.f121.name== "runtime.NumGoroutine")=U:=by decide+kernel
def apv{g:Æ}{θ:List Ê}{kd:Ů}{cs:List ϝ}(hf:P.funcs[f]?=J fn)(hb:fn.body=J c)(T:(callFunc f (#[]++fe)).runT P aa #[]=(.ok (.enter f (#[]++fe)) aa,#[])):
 ϙ P main (aT ⟨g,t,k,{target:=.fn (.func f) fe,args:=#[]}::θ,.returning,kd,H⟩ cs) aa=.go (rg f ((#[]++fe)++ϱ (fn.ntmps - (#[]++fe:Array z).size) L) [.code c] [] .deferred (⟨g,t,k,θ,.returning,kd,H⟩::cs)) aa #[]:=by
 have hi:invoke (.fn (.func f) fe) #[]=callFunc f (#[]++fe):=rfl;have e:Ĩ P ⟨g,t,k,θ,.returning,kd,H⟩ cs H {target:=.fn (.func f) fe,args:=#[]} aa=.go (aT (à P f (#[]++fe) .deferred) (⟨g,t,k,θ,.returning,kd,H⟩::cs)) aa #[]:=by unfold Ĩ;simp only[hi,T,vR,â,Bool.false_and,è,if_false];rfl
 exact e.trans (by rw[OE hf hb])
def apr{g:Æ}(hf:P.funcs[f]?=J fn)(T:fn.results=#[])(aa:N):
 ϙ P U (aT ⟨f,t,k,[],.returning,.deferred,H⟩ (⟨g,t',k',[],.returning,kd,H⟩::cs)) aa=.go (aT ⟨g,t',k',[],.returning,kd,H⟩ cs) aa #[]:=by
 have e:Ð P U ⟨f,t,k,[],.returning,.deferred,H⟩ (⟨g,t',k',[],.returning,kd,H⟩::cs) H aa=.go (aT ⟨g,t',k',[],.returning,kd,H⟩ cs) aa #[]:=by unfold Ð;simp only[hf,results_none T,vR,â,doReturn];rfl
 exact e
section
variable {n N0 cL cN:Nat}{cX:Nat->Bool}{val:Nat->z}{End:List Nat->ay->ϐ->N->Prop}
def aqR{p7:Nat}{f7:Nat×Nat}(m7:M.has p7)(h7:w.heap[p7]?=J (Ξ #[.chan (J cL)] e7 f7))(aiz:Tryz.f120.results=#[]):
 Walk ϋ U (W2 (Pm.mk ϋ n N0 cL cN cX val End)) M (aT ⟨120,t,k,[{target:=.fn (.func 121) #[π (J ⟨p7,0,H⟩)],args:=#[]}],.returning,.deferred,H⟩ [cS ϋ]) w:=by
 refine lL rfl (λaa=>apv Tryz.func121 Ta (DU Tryz.func121 Ta al5 _ aa)) ?_;have ht:((#[]++#[π (J ⟨p7,0,H⟩)])++ϱ (Tryz.f121.ntmps - (#[]++#[π (J ⟨p7,0,H⟩)]:Array z).size) L:Array z)=#[π (J ⟨p7,0,H⟩),L]:=rfl;rw[ht];refine iu ?_;rw[aq6];obtain⟨o,ho,ag,hd,hg⟩:=ac1;obtain⟨dir,hu⟩:=QZ;refine dJ ho (cx hg) rfl (λaa hk=>⟨_,yz _ aa ag (v:=.chan (J cL)) (a:=⟨p7,0,H⟩) rfl hu rfl (mH ((hk.kept _ m7).trans h7) rfl rfl),yx m7 _ rfl⟩) ?_;rw[hd];obtain⟨o,ho,ag,hd,hg⟩:=ac2;refine .stop λaa _=>⟨rfl,rfl,⟨μ #[],Gi ho (cx hg) rfl (Yj _ aa ag rfl)⟩,5,?_⟩
 have E8:ϩ (rg 121 #[π (J ⟨p7,0,H⟩),.chan (J cL)] [.inRegion AQ [1]] [] .deferred [⟨120,t,k,[],.returning,.deferred,H⟩,cS ϋ]) L=
  rg 121 #[π (J ⟨p7,0,H⟩),.chan (J cL)] [.inRegion AQ []] [] .deferred [⟨120,t,k,[],.returning,.deferred,H⟩,cS ϋ]:=by
  simp[ϩ,ē,ho,hd]
 show QuitsIn ϋ 5 (ϩ (rg 121 #[π (J ⟨p7,0,H⟩),.chan (J cL)] [.inRegion AQ [1]] [] .deferred [⟨120,t,k,[],.returning,.deferred,H⟩,cS ϋ]) L);rw[E8];refine .inr ⟨rfl,rg 121 #[π (J ⟨p7,0,H⟩),.chan (J cL)] [] [] .deferred [⟨120,t,k,[],.returning,.deferred,H⟩,cS ϋ],λaa=>by simp[ϙ,ϻ],?_⟩;refine .inr ⟨rfl,aT ⟨121,#[π (J ⟨p7,0,H⟩),.chan (J cL)],[],[],.returning,.deferred,H⟩ [⟨120,t,k,[],.returning,.deferred,H⟩,cS ϋ],λaa=>by simp[ϙ,ϻ],?_⟩;exact .inr ⟨rfl,_,λaa=>apr Tryz.func121 rfl aa,ahj Tryz.func120 aiz⟩
def DN:Ϙ:=(Tryz.f120.body).getD .skip
def JL:Array Ó:=opsOf (bp DN)
def qQ:Array Ó:=opsOf (aS (aS (aS DN)))
def wa:Ϙ:=bp (aS DN)
def uC:Ϙ:=bp (aS (aS DN))
def aaL:Tryz.f120.body=J (.seq (.region 0 JL U) (.seq wa (.seq uC (.region 3 qQ U)))):=rfl
def acW:∃o,JL[0]?=J o/\o.op=.makeFunc (.func 121) #[] #[.tmp 0]/\o.dst=J 6/\o.guard=H:=⟨_,rfl,rfl,rfl,rfl⟩
def acX:∃o,JL[1]?=J o/\o.op=.defer {callee:=.value (.tmp 6),args:=#[],argTypes:=#[]}/\o.dst=H/\o.guard=H:=⟨_,rfl,rfl,rfl,rfl⟩
def acY:∃o,qQ[0]?=J o/\o.op=.load 154 (.tmp 3)/\o.dst=J 16/\o.guard=H:=⟨_,rfl,rfl,rfl,rfl⟩
def acZ:∃o,qQ[1]?=J o/\o.op=.load 3 (.tmp 2)/\o.dst=J 17/\o.guard=H:=⟨_,rfl,rfl,rfl,rfl⟩
def ac0:∃o,qQ[2]?=J o/\o.op=.send (.tmp 16) (.tmp 17)/\o.dst=H/\o.guard=H:=⟨_,rfl,rfl,rfl,rfl⟩
def aq7:JL.size=2:=rfl
def aq8:qQ.size=3:=rfl
def ty3:ϋ.underlying 3=J (.int .i64):=rfl
def al4:(Tryz.f120.name== "runtime.NumGoroutine")=U:=by decide+kernel
def aqS{Stop:ay->ϐ->N->Prop}{w:N}{p6 p7:Nat}
 (h:∀t:Array z,t.size=18->t[0]?=J (π (J ⟨p7,0,H⟩))->t[1]?=J (π (J ⟨bk,0,H⟩))->t[2]?=J (π (J ⟨pk,0,H⟩))->t[3]?=J (π (J ⟨p6,0,H⟩))->
   t[6]?=J (.func (.func 121) #[] #[π (J ⟨p7,0,H⟩)])->(∀j,4<=j->j<18->j≠6->t[j]?=J L)->
   Walk ϋ U Stop M (rg 120 t [.code (.seq wa (.seq uC (.region 3 qQ U)))] [{target:=.fn (.func 121) #[π (J ⟨p7,0,H⟩)],args:=#[]}] .deferred [cS ϋ]) w):
 Walk ϋ U Stop M (born ϋ {target:=.fn (.func 120) #[π (J ⟨p7,0,H⟩),π (J ⟨bk,0,H⟩),π (J ⟨pk,0,H⟩),π (J ⟨p6,0,H⟩)],args:=#[]}) w:=by
 refine ZA Tryz.func120 aaL (λaa=>DU Tryz.func120 aaL al4 _ aa) ?_;have hn:Tryz.f120.ntmps=18:=rfl;have ht:∀a b c d:z,((#[]++#[a,b,c,d])++ϱ (18 - (#[]++#[a,b,c,d]:Array z).size) L:Array z)=#[a,b,c,d,L,L,L,L,L,L,L,L,L,L,L,L,L,L]:=λ_ _ _ _=>by simp[ϱ]
 rw[hn];rw[ht];generalize hT:(#[π (J ⟨p7,0,H⟩),π (J ⟨bk,0,H⟩),π (J ⟨pk,0,H⟩),π (J ⟨p6,0,H⟩),L,L,L,L,L,L,L,L,L,L,L,L,L,L]:Array z)=hr;have V:hr.size=18:=by rw[<-hT];rfl
 have t0:hr[0]?=J (π (J ⟨p7,0,H⟩)):=by rw[<-hT];rfl
 have t1:hr[1]?=J (π (J ⟨bk,0,H⟩)):=by rw[<-hT];rfl
 have t2:hr[2]?=J (π (J ⟨pk,0,H⟩)):=by rw[<-hT];rfl
 have t3:hr[3]?=J (π (J ⟨p6,0,H⟩)):=by rw[<-hT];rfl
 have tu:∀j,4<=j->j<18->hr[j]?=J L:=by
  intro j h4 h18;have:j=4\/j=5\/j=6\/j=7\/j=8\/j=9\/j=10\/j=11\/j=12\/j=13\/j=14\/j=15\/j=16\/j=17:=by omega
  rw[<-hT];rcases this with rfl|rfl|rfl|rfl|rfl|rfl|rfl|rfl|rfl|rfl|rfl|rfl|rfl|rfl<;>rfl
 clear hT ht;refine fZ (iu ?_);rw[aq7];obtain⟨o,ho,ag,hd,hg⟩:=acW;have hv:(#[Operand.tmp 0].map (aX hr))=#[π (J ⟨p7,0,H⟩)]:=by have:aX hr (.tmp 0)=π (J ⟨p7,0,H⟩):=cT t0;simp only[ī,Ę,ĥ,this]
 refine dJ ho (cx hg) rfl (λaa _=>⟨_,(Qk hr aa ag).trans (by rw[hv]),eE⟩) ?_;rw[hd];obtain⟨o,ho,ag,hd,hg⟩:=acX;refine aqI ho (cx hg) rfl (d:={target:=.fn (.func 121) #[π (J ⟨p7,0,H⟩)],args:=#[]}) (λaa=>anY _ aa ag (iT (by omega))) ?_;rw[hd];refine jl (h _ ?_ ?_ ?_ ?_ ?_ ?_ ?_)
 ·simp[aA,V]
 ·exact(bP (by omega)).trans t0
 ·exact(bP (by omega)).trans t1
 ·exact(bP (by omega)).trans t2
 ·exact(bP (by omega)).trans t3
 ·exact eX (by omega)
 ·exactλj h4 h18 h6=>(bP (Θ h6)).trans (tu j h4 h18)
end
end Go.Jn
namespace Go.Sim
open Go
def Ui{α σ:Type}{f:α->σ->Option (ForInStep σ)}(κ:σ->Prop)(hf:∀x s r,κ s->f x s=J r->κ r.value):∀(l:List α) (s s':σ),κ s->forIn l s f=J s'->κ s'
 | [],s,s',V,h=>by simp only[List.forIn_nil] at h;cases h;exact V
 |x::l,s,s',V,h=>by
  rw[List.forIn_cons] at h;simp only[bind,đ] at h;obtain⟨r,h1,h2⟩:=h;have T:=hf x s r V h1;cases r with
  |done b=>cases h2;exact T
  |yield b=>exact Ui κ hf l b s' T h2
def Su(υ:Option (Array z)):Prop:=∀c,υ=J c->aV (λ_ _=>False) c c
def ani{info:ώ->Option ă}(hi:∀t i v,info t=J i->i.zero=J v->Flat v){i:ă}(h:Made.reckonStruct info fs=J i)(hv:i.zero=J v):Flat v:=by
 unfold Made.reckonStruct at h;simp only[bind,đ] at h;obtain⟨r,h1,h2⟩:=h;have inv:Su r.2.2.2.2.2.2.2.1:=by
  rw[<-Array.forIn_toList] at h1;refine Ui (λs=>Su s.2.2.2.2.2.2.2.1) ?_ _ _ _ ?_ h1
  ·intro x s r V h;simp only[đ] at h;obtain⟨j,hj,h⟩:=h;have key:r.value.2.2.2.2.2.2.2.1=(if s.2.1+j.size>Made.mostCells then H else s.2.2.2.2.2.2.2.1.bind λa=>j.zero.bind λb=>J (a++b.cells)):=by
    by_cases e1:j.str.isEmpty=D
    ·simp[e1] at h
    by_cases e2:x.embedded=D
    ·simp[e1,e2] at h
    by_cases e3:x.tag.isEmpty=D<;>by_cases e4:j.bytes=0<;>simp only[e1,e2,e3,e4,if_true,if_false,đ,pure,Đ,è] at h<;>obtain⟨tag,ht,rfl⟩:=h<;>rfl
   intro c hc;rw[key] at hc;split at hc
   ·exact absurd hc (by simp)
   ·simp only[đ] at hc;obtain⟨a,ha,b,hb,hc⟩:=hc;cases hc;exact(V a ha).append (aj.cells (hi _ _ _ hj hb))
  ·intro c hc;cases hc;exact .empty
 have hz:i.zero=Option.map Value.agg r.2.2.2.2.2.2.2.1:=by split at h2<;>cases h2<;>rfl
 rw[hz] at hv;cases T:r.2.2.2.2.2.2.2.1 with
 |none=>rw[T] at hv;exact absurd hv (by simp)
 |some c=>rw[T] at hv;cases hv;exact .wH (inv c T)
def anC{c:Array z}(h:aV (λ_ _=>False) c c):∀n:Nat,aV (λ_ _=>False) (ϱ n c).flatten (ϱ n c).flatten:=by intro n;refine cf.refl λa ha=>?_;simp only[Array.mem_flatten,Aav] at ha;obtain⟨x,⟨_,rfl⟩,hx⟩:=ha;obtain⟨i,hi,rfl⟩:=Aay.1 hx;exact h.2 i hi hi
def anj{info:ώ->Option ă}(hi:∀t i v,info t=J i->i.zero=J v->Flat v){d:TypeDesc}{i:ă}(h:Made.reckon info d=J i)(hv:i.zero=J v):Flat v:=by
 unfold Made.reckon at h;split at h
 ·simp only[bind,đ] at h;obtain⟨j,h1,h2⟩:=h;split at h2
  ·exact absurd h2 (by simp)
  ·split at h2
   ·exact absurd h2 (by simp)
   ·simp only[đ,pure,Đ] at h2;obtain⟨_,_,rfl⟩:=h2;cases hv;exact .ptrNone
  ·simp only[đ,pure,Đ] at h2;obtain⟨_,_,rfl⟩:=h2;cases hv;exact .ptrNone
 ·simp only[bind,đ,pure,Đ] at h;obtain⟨_,_,_,_,rfl⟩:=h;cases hv;exact .sliceNone _ _
 ·simp only[bind,đ,pure,Đ] at h;obtain⟨_,_,_,_,_,_,_,_,rfl⟩:=h;cases hv;exact .mapNone
 ·simp only[bind,đ,pure,Đ] at h;obtain⟨_,_,_,_,rfl⟩:=h;cases hv;exact .chanNone
 ·simp only[bind,đ,pure,Đ] at h;obtain⟨_,_,rfl⟩:=h;cases hv;exact .nilFunc
 ·simp only[bind,đ,pure,Đ] at h;obtain⟨j,hj,_,_,rfl⟩:=h;simp only at hv;split at hv
  ·exact absurd hv (by simp)
  ·split at hv
   ·cases hv;exact .wH .empty
   ·cases hz:j.zero with
    |none=>rw[hz] at hv;exact absurd hv (by simp)
    |some υ=>rw[hz] at hv;cases hv;exact .wH (anC (aj.cells (hi _ _ _ hj hz)) _)
 ·exact ani hi h hv
 ·exact absurd h (by simp)
def WN{hr:Tables}(h0:∀(t:Nat) (i:ă) (v:z),hr.types[t]?=J i->i.zero=J v->Flat v):∀(f:Nat) (t:ώ) (i:ă) (v:z),Made.infoAt hr f t=J i->i.zero=J v->Flat v
 |0,_,_,_,h,_=>absurd h (by simp[Made.infoAt])
 |f+1,t,i,v,h,hv=>by
  unfold Made.infoAt at h;split at h
  ·exact h0 _ _ _ h hv
  ·simp only[đ] at h;obtain⟨d,_,h2⟩:=h;exact anj (WN h0 f) h2 hv
def ajo(h0:∀(t:Nat) (i:ă) (v:z),P.types[t]?=J i->i.zero=J v->Flat v):pA P where
 zero t i v h hv:=by
  have h':(if t<P.types.size then P.types[t]? else Made.infoAt P.toTables Made.depth t)=J i:=h;split at h'
  ·exact h0 _ _ _ h' hv
  ·exact WN (hr:=P.toTables) h0 _ _ _ _ h' hv
end Go.Sim
namespace Go.Jn
open Go Go.Proofs Go.Sim
def G0:Nat->Bool:=λg=>g==0
def Td(P:ϗ)(fn:Func):Bool:=match fn.body with
 |some c=>cC P G0 c && !(fn.name== "runtime.NumGoroutine") && (readies c).isEmpty
 |none=>U
def okB(P:ϗ)(i:Nat):Bool:=Tw.vF i||match P.funcs[i]? with
 |some fn=>Td P fn
 |none=>U
def nF:Nat:=241
def amC:(List.range nF).all (okB ϋ)=D:=by decide+kernel
def few:ϋ.funcs.size=nF:=by decide+kernel
def jG(i:ă):Bool:=match i.zero with
 |some v=>lF 10 v
 |none=>D
def ara:ϋ.types.all jG=D:=by decide+kernel
def MY:ϋ.follows .staticDataAhead=D:=by decide+kernel
def Hl:RD Tw.dead where
 name:=by decide+kernel
 body:=rfl
 next:=by decide+kernel
 row:=by decide+kernel
 init:=by decide+kernel
def QW(P:ϗ)(F:Array Func):∀(d:Nat) (t:ώ),ix (tw P F) d t=ix P d t
 |0,_=>rfl
 |d+1,t=>by
  unfold ix;have e:ix (tw P F) d=ix P d:=funext λt=>QW P F d t
  rw[wx,kJ,e]
def Zc(P:ϗ)(F:Array Func)(G:Nat->Bool):∀c:Ϙ,cC (tw P F) G c=cC P G c:=by
 have e0:DZ (tw P F)=DZ P:=funext λt=>by unfold DZ;rw[QW,Kh,C9]
 have e1:BC (tw P F)=BC P:=funext λt=>by unfold BC;rw[kJ]
 have e2:BJ (tw P F)=BJ P:=funext λs=>funext λd=>by unfold BJ;rw[kJ,kJ,e1]
 have e3:D7 (tw P F)=D7 P:=funext λs=>funext λi=>by unfold D7;rw[kJ];have:(tw P F).info? = P.info? :=funext λt=>wx P F t;simp only[this]
 have e4:AH (tw P F)=AH P:=funext λt=>by unfold AH;rw[kJ];have:ix (tw P F) 20=ix P 20:=funext λt=>QW P F _ t;simp only[this]
 have e5:TN (tw P F)=TN P:=funext λt=>by
  unfold TN;have:(tw P F).underlying=P.underlying:=funext λt=>kJ P F t
  simp only[this]
 have e6:wN (tw P F)=wN P:=funext λts=>funext λn=>funext λb=>by unfold wN;rw[e5]
 have e7:jA (tw P F)=jA P:=funext λo=>by unfold jA;rw[e0,e2,e3,e4,e6]
 have e8:k8 (tw P F) G=k8 P G:=funext λo=>by unfold k8;rw[e7]
 intro c;induction c with
 |region id ops d=>simp only[cC,e8]
 |seq a b Fw Fx=>simp only[cC,Fw,Fx]
 |cond c a b Fw Fx=>simp only[cC,Fw,Fx]
 |block n b ih=>simp only[cC,ih]
 |loop b ih=>simp only[cC,ih]
 |scope b ih=>simp only[cC,ih]
 |rangeFunc f ps a b Fw Fx=>simp only[cC,Fw,Fx]
 |_=>simp only[cC]
def okF(f:Nat):Bool:=decide (f<nF) && !Tw.vF f
def self(P:ϗ)(F:Array Func):ϗ:={P with funcs:=F}
def QY(P:ϗ)(F:Array Func):tw (self P F) F=tw P F:=rfl
def Yy(P:ϗ)(F:Array Func):(self P F).funcs=F:=rfl
def Yx(P:ϗ)(F:Array Func)(G:Nat->Bool)(c:Ϙ):cC (self P F) G c=cC P G c:=by rw[<-Zc (self P F) F G c,QY,Zc]
def aoN(P:ϗ)(F:Array Func)(t:ώ):(self P F).info? t= P.info? t:=by rw[<-wx (self P F) F t,QY,wx]
def QX(P:ϗ)(F:Array Func):(tw P F).follows .staticDataAhead=P.follows .staticDataAhead:=rfl
def tV:pA ϋ:=ajo λt i v h hv=>by
 have hz:jG i=D:=by have:=ara;rw[ħ] at this;exact this i (Ń h)
 unfold jG at hz;rw[hv] at hz;exact Uf 10 hz
@[reducible] def jC:Tw.aK:=⟨Tw.dead⟩
def zb:Array Ó:=#[⟨J 1,.assign (.const (.bool D)),4,"",#[],H⟩,⟨H,.extract (.const (.bool D)) 0,4,"",#[],J (0,D)⟩,⟨J 0,.assign (.const (.bool D)),4,"",#[],H⟩]
def stub:Func:={Tryz.f21 with body:=J (.seq (.region 0 zb U) .ret),ntmps:=1,results:=#[.tmp 0]}
@[reducible] def jU:Tw.aK:=⟨stub⟩
section
variable [Tw.aK]
def JB{f:Nat}(h:okF f=D):∃fn c,ϋ.funcs[f]?=J fn/\Tw.F[f]?=J fn/\fn.body=J c/\cC ϋ G0 c=D/\(fn.name== "runtime.NumGoroutine")=U/\readies c=[]:=by
 unfold okF at h;simp only[Ä,decide_eq_true_eq,Aj5] at h;have h1:=amC;rw[Ħ] at h1;have h2:=h1 f (List.mem_range.2 h.1);unfold okB at h2;rw[h.2,Bool.false_or] at h2;cases e:ϋ.funcs[f]? with
 |none=>rw[e] at h2;exact absurd h2 (by simp)
 |some fn=>
  rw[e] at h2;simp only[Td] at h2;cases eb:fn.body with
  |none=>rw[eb] at h2;exact absurd h2 (by simp)
  |some c=>rw[eb] at h2;simp only[Ä,Aj5,List.isEmpty_iff] at h2;exact⟨fn,c,rfl,(Tw.RH f h.2).trans e,eb,h2.1.1,h2.1.2,h2.2⟩
def aa0:Tw.F.size=nF:=by unfold Tw.F;rw[Ĕ,Array.size_mapIdx,few]
def GH(f:Nat):okF f=D\/f=21\/Tw.F[f]?=H\/Tw.F[f]?=J Tw.dead:=by
 by_cases h:okF f=D
 ·exact .inl h
 by_cases sP:f=21
 ·exact .inr (.inl sP)
 right;right;by_cases hn:f<nF
 ·have:Tw.vF f=D:=by
   unfold okF at h;simp only[Ä,decide_eq_true_eq,Aj5,not_and,Bool.not_eq_false] at h;exact h hn
  exact Tw.aaZ f this (Θ sP)
 ·left;exact ę (by rw[aa0];omega)
def XE(V:∀c,Tw.aK.JY.body=J c->readies c=[])(g:Nat):Tw.prog.stepOf g=H:=by
 unfold Program.stepOf;rw[Tw.P6,Array.findIdx?_eq_none_iff];intro fn ED;obtain⟨f,hf⟩:=Ajz ED;rcases GH f with h|rfl|h|h
 ·obtain⟨fn',c,_,h1,h2,_,_,h3⟩:=JB h;rw[hf] at h1;cases h1;rw[h2];simp[h3]
 ·rw[Tw.Be] at hf;cases hf;cases e:Tw.aK.JY.body with
  |none=>rfl|some c=>simp[V c e]
 ·rw[hf] at h;exact absurd h (by simp)
 ·rw[hf] at h;cases h;rfl
end
def C0:bX:=⟨okF,λ_=>U,λc=>cC ϋ G0 c=D⟩
def Hp:Env ϋ (@Tw.F jC) C0 G0 where
 tV:=tV
 clean _:=Iff.rfl
 get f h:=by letI:=jC;obtain⟨fn,c,h1,h2,h3,h4,h5,_⟩:=JB h;exact⟨fn,c,h2,h1,h3,h4,h5⟩
 dead f h _:=by
  letI:=jC
  rcases GH f with k|rfl|k|k
  ·rw[show okF f=U from h] at k;exact absurd k (by simp)
  ·exact .inr ⟨_,Tw.Be,Hl⟩
  ·exact .inl k
  ·exact .inr ⟨_,k,Hl⟩
 EZ f h:=absurd h (by simp[C0])
 ahead:=(QX _ _).trans MY
 steps:=by letI:=jC;exact XE λc h=>absurd h (by show Tw.dead.body≠_;simp[Tw.dead])
def C1:bX:=⟨okF,λf=>f==21,λc=>cC ϋ G0 c=D⟩
def CA:bX:=⟨λf=>okF f||f==21,λ_=>U,λc=>cC ϋ G0 c=D⟩
def PA:ϗ:=self ϋ (@Tw.F jU)
def Kf:tw PA (@Tw.F jU)= @Tw.prog jU:=by unfold PA Tw.prog;exact QY _ _
def Ka:∃c,stub.body=J c/\cC ϋ G0 c=D/\readies c=[]:=⟨_,rfl,by decide+kernel,rfl⟩
def QJ:(stub.name== "runtime.NumGoroutine")=U:=by decide+kernel
def aoy:∃c,Tryz.f21.body=J c:=⟨_,rfl⟩
def aoB:(Tryz.f21.name== "runtime.NumGoroutine")=U:=by decide+kernel
def stepT(g:Nat):(@Tw.prog jU).stepOf g=H:=by
 letI:=jU
 refine XE (λc h=>?_) g;obtain⟨c',h1,_,h2⟩:=Ka;have:stub.body=J c:=h;rw[h1] at this;cases this;exact h2
def aeZ:Env ϋ (@Tw.F jU) C1 G0 where
 tV:=tV
 clean _:=Iff.rfl
 get f h:=by letI:=jU;obtain⟨fn,c,h1,h2,h3,h4,h5,_⟩:=JB h;exact⟨fn,c,h2,h1,h3,h4,h5⟩
 dead f h h':=by
  letI:=jU
  rcases GH f with k|rfl|k|k
  ·rw[show okF f=U from h] at k;exact absurd k (by simp)
  ·exact absurd h' (by decide)
  ·exact .inl k
  ·exact .inr ⟨_,k,Hl⟩
 EZ f h:=by
  have h:f=21:=by simpa [C1] using h
  subst h;obtain⟨c,h1,_⟩:=Ka;obtain⟨c',h2⟩:=aoy;exact⟨stub,_,c,c',@Tw.Be jU,Tryz.func21,h1,h2,QJ,aoB⟩
 ahead:=(QX _ _).trans MY
 steps:=stepT
def aeY:Env PA (@Tw.F jU) CA G0 where
 tV:=⟨λt i v h hv=>tV.zero t i v ((aoN ϋ _ t).symm.trans h) hv⟩
 clean c:=by show cC ϋ G0 c=D↔cC PA G0 c=D;rw[show cC PA G0 c=cC ϋ G0 c from Yx _ _ _ _]
 get f h:=by
  letI:=jU
  have hc:∀c,cC PA G0 c=cC ϋ G0 c:=λc=>Yx _ _ _ _;have h:okF f=D\/f=21:=by simpa [CA] using h
  rcases h with h|rfl
  ·obtain⟨fn,c,h1,h2,h3,h4,h5,_⟩:=JB h;exact⟨fn,c,h2,(congrArg (·[f]?) (Yy _ _)).trans h2,h3,by rw[hc];exact h4,h5⟩
  ·obtain⟨c,h1,h2,_⟩:=Ka;exact⟨stub,c,Tw.Be,(congrArg (·[21]?) (Yy _ _)).trans Tw.Be,h1,by rw[hc];exact h2,QJ⟩
 dead f h _:=by
  letI:=jU
  rcases GH f with k|rfl|k|k
  ·simp[CA,k] at h
  ·exact absurd h (by decide)
  ·exact .inl k
  ·exact .inr ⟨_,k,Hl⟩
 EZ f h:=absurd h (by simp[CA])
 ahead:=by rw[Kf];exact(QX _ _).trans MY
 steps g:=by rw[Kf];exact stepT g
end Go.Jn
namespace Go.Jn
open Go Go.Proofs Go.Sim Go.Conc
def adE:C0.clean wa:=by show cC ϋ G0 wa=D;decide+kernel
def adF:C0.clean uC:=by show cC ϋ G0 uC=D;decide+kernel
def QU:tw ϋ (@Tw.F jC)= @Tw.prog jC:=rfl
def piece(S:Tl)(hc:C0.clean c){a:Act}(hk:(S.kind==.early)=U)
 (hd:a.defers=[cQ]){QL:Exit->Act->N->Prop}
 (hl:∀hr,c.wp (@Tw.prog jC) (λe bJ aa=>(e=.normal/\bJ.defers=[cQ]\/e=.ret)/\QL e bJ aa) a (bq w hr))
 (hw:cg C0 Z w w')(hg:Z 0 0)(hf:Fits M Z w)(iU:∀b,M.has b->b<w'.heap.size)(hn:bO w.heap)(ht:aV Z a.tmps t')
 {Stop:ay->ϐ->N->Prop}
 (post:∀e bJ aa b6 aM fq aF,QL e bJ aa->iO M Z w w' b6 aM aa aF->cg C0 aM aa aF->Fits b6 aM aa->(∀b,b6.has b->b<aF.heap.size)->(∀g,G0 g=D->aM g g)->bO aa.heap->aV aM bJ.tmps fq->
   (e=.normal->bJ.defers=[cQ]->Walk ϋ main Stop b6 (aT ⟨f,fq,S.items,S.defers,.run,S.kind,H⟩ S.callers) aF)/\
   (e=.ret->∀tW D',kM S aM D bJ.defers D'->Walk ϋ main Stop b6 (aT ⟨f,fq,tW,D',.returning,S.kind,H⟩ S.callers) aF)):
 Walk ϋ main Stop M (aT ⟨f,t',.code c::S.items,S.defers,.run,S.kind,H⟩ S.callers) w':=by
 refine Walk.bind (aqC Hp (λ_=>rfl) S hc hk hd (λhr=>by rw[QU];exact hl hr) hw (λg nJ=>?_) hf iU hn ht post) λ_ _ _ h=>h;have:g=0:=by simpa [G0] using nJ
 subst this;exact hg
def an1(h:w.heap[r]?=J (.deferred (J []))):(Instr.takeDeferred r).runT P w #[]=(.ok [] (jV w r (.deferred H)),#[⟨.obj r,U,U⟩,⟨.obj r,D,U⟩]):=by unfold Instr.takeDeferred;simp only[Go.getObj,Go.setObj,bind,Ϭ,ϧ,h,pure,ŕ];rfl
def aen{o:Obj}(hO:M.O r)(sS:∀e∈es,e=⟨.obj r,U,U⟩\/e=⟨.obj r,D,U⟩):eZ M w (jV w r o) es:=
 ⟨by rw[sk];exact ϊ _,λb _ hb=>yA (by rintro rfl;exact hb hO),rfl,rfl,rfl,λe he=>by
   rcases sS e he with rfl|rfl
   ·exact .inl ⟨r,.inl rfl,rfl,.inl (.inl hO),λh=>absurd h (by simp)⟩
   ·exact .inl ⟨r,.inl rfl,rfl,.inl (.inl hO),λ_=>.inl hO⟩⟩
def aqH{Stop:ay->ϐ->N->Prop}{x:Array z}(hO:M.O r)(T:w.heap[r]?=J (.deferred (J [])))
 (h:∀aa,bR M w aa->Walk P main Stop M (aT ⟨f,t,k,θ,.returning,kd,H⟩ cs) (jV aa r (.deferred H))):
 Walk P main Stop M (aT ⟨f,t,k,⟨.collected r,x⟩::θ,.returning,kd,H⟩ cs) w:=by
 have eW:∀aa,bR M w aa->ϙ P main (aT ⟨f,t,k,⟨.collected r,x⟩::θ,.returning,kd,H⟩ cs) aa=.go (aT ⟨f,t,k,θ,.returning,kd,H⟩ cs) (jV aa r (.deferred H)) (seen P f #[⟨.obj r,U,U⟩,⟨.obj r,D,U⟩]):=by
  intro aa hk;have e:Ð P main ⟨f,t,k,⟨.collected r,x⟩::θ,.returning,kd,H⟩ cs H aa=.go (aT ⟨f,t,k,θ,.returning,kd,H⟩ cs) (jV aa r (.deferred H)) (seen P f #[⟨.obj r,U,U⟩,⟨.obj r,D,U⟩]):=by unfold Ð;simp only[an1 ((hk.kept r (.inl hO)).trans T),â,List.nil_append];simp
  exact e
 refine .step rfl (λaa=>(aT ⟨f,t,k,θ,.returning,kd,H⟩ cs,jV aa r (.deferred H),seen P f #[⟨.obj r,U,U⟩,⟨.obj r,D,U⟩])) (λaa hk=>⟨eW aa hk,aen hO λe he=>?_⟩) λaa hk=>?_
 ·have:=Sim.mem_seen he;simp only[ê,Ϡ,Á,or_false] at this;exact this
 ·show Walk P main Stop (M.grow aa (jV aa r (.deferred H))) _ _;rw[Hx];exact h aa hk
def chain:List Ϙ->Ϙ->Ϙ
 | [],υ=>υ
 |c::cs,υ=>.seq c (chain cs υ)
def fu(P:ϗ):List Ϙ->(Exit->Act->N->Prop)->Act->N->Prop
 | [],Q=>Q .normal
 |c::cs,Q=>c.wp P (Exit.then (fu P cs Q) Q)
def anW{υ:Ϙ}{Q:Exit->Act->N->Prop}(hQ:∀e a w,Q e a w->e=.normal\/e=.ret)(b:ϝ)(k:List Item)(fs:List ϝ):
 ∀(cs:List Ϙ) {a:Act} {w:N},fu P cs Q a w->∃e bJ aa,Q e bJ aa/\
  (e=.normal/\Steps P (lone (b.at a (.code (chain cs υ)::k)) fs w) (lone (b.at bJ (.code υ::k)) fs aa)\/
   e=.ret/\∃todo,Steps P (lone (b.at a (.code (chain cs υ)::k)) fs w) (lone {b.at bJ todo with mode:=.returning} fs aa)):=by
 intro cs;induction cs with
 |nil=>exactλ{a w} h=>⟨.normal,a,w,h,.inl ⟨rfl,⟨0,rfl⟩⟩⟩
 |cons c cs ih=>
  intro a w h;obtain⟨e,bJ,aa,hq,P7⟩:=h b (.code (chain cs υ)::k) fs;have eW:Steps P (lone (b.at a (.code (chain (c::cs) υ)::k)) fs w) (lone (b.at a (.code c:: .code (chain cs υ)::k)) fs w):=.one step_seq;cases e with
  |normal=>
   obtain⟨e2,a2,w2,rX,h2⟩:=ih hq;refine⟨e2,a2,w2,rX,?_⟩;rcases h2 with⟨rfl,h2⟩ | ⟨rfl,todo,h2⟩
   ·exact .inl ⟨rfl,eW.trans (Steps.trans P7 h2)⟩
   ·exact .inr ⟨rfl,todo,eW.trans (Steps.trans P7 h2)⟩
  |ret=>obtain⟨todo,h2⟩:=P7;exact⟨.ret,bJ,aa,hq,.inr ⟨rfl,todo,eW.trans h2⟩⟩
  |exit id=>rcases hQ _ _ _ hq with h|h<;>cases h
  |goto l=>rcases hQ _ _ _ hq with h|h<;>cases h
  |panic ch=>rcases hQ _ _ _ hq with h|h<;>cases h
  |outgrown=>rcases hQ _ _ _ hq with h|h<;>cases h
def TP{C:bX}{S:Tl}:∀(cs:List Ϙ),(∀c∈cs,C.clean c)->Cut C S (chain cs dt) (chain cs S.code)
 | [],_=>.stop
 |c::cs,h=>.seq (h c (by simp)) (TP cs λd hd=>h d (by simp[hd]))
section
variable {P:ϗ}{F:Array Func}{C:bX}{G:Nat->Bool}
def aeh{c':Ϙ}(h:Cut C S dt c'):c'=S.code:=by
 generalize e:dt=c at h;cases h with
 |stop=>rfl
 |seq _ _=>cases e
def ajH(hcut:¬C.clean dt)(h:py C S Z D [.code dt,.code dt] k'):k'=.code S.code::S.items:=by
 cases h with
 |cons hi t=>
  rw[Xd t];cases hi with
  |code _ hc=>exact absurd hc hcut|cut hc=>rw[aeh hc]
def aqB(ζ:Env P F C G)(hcut:¬C.clean dt)(hh:∀f,C.hole f=U)(S:Tl){cs:List Ϙ}(hc:∀c∈cs,C.clean c){a:Act}(hk:(S.kind==.early)=U)
 (hd:a.defers=[cQ]){QL:Exit->Act->N->Prop}(hQ:∀e a w,QL e a w->e=.normal\/e=.ret)
 (hl:∀hr,fu (tw P F) cs QL a (bq w hr))
 (hw:cg C Z w w')(hg:∀g,G g=D->Z g g)(hf:Fits M Z w)(iU:∀b,M.has b->b<w'.heap.size)(hn:bO w.heap)(ht:aV Z a.tmps t')
 {Stop:ay->ϐ->N->Prop}
 (post:∀e bJ aa b6 aM fq aF D',QL e bJ aa->iO M Z w w' b6 aM aa aF->cg C aM aa aF->Fits b6 aM aa->(∀b,b6.has b->b<aF.heap.size)->(∀g,G g=D->aM g g)->bO aa.heap->aV aM bJ.tmps fq->kM S aM D bJ.defers D'->
   (e=.normal->Stop b6 (aT ⟨f,fq,.code S.code::S.items,D',.run,S.kind,H⟩ S.callers) aF)/\
   (e=.ret->∀tW,Stop b6 (aT ⟨f,fq,tW,D',.returning,S.kind,H⟩ S.callers) aF)):
 Walk P main Stop M (aT ⟨f,t',.code (chain cs S.code)::S.items,S.defers,.run,S.kind,H⟩ S.callers) w':=by
 let b:ϝ:={ (default:ϝ) with fn:=f,kind:=.normal}
 let c:=chain cs dt
 let Q:ϐ->N->Prop:=λg w=>∃hr e bJ todo m,QL e bJ (bq w hr)/\g=aT ⟨f,bJ.tmps,todo,bJ.defers,m,.normal,H⟩ []/\
  (e=.normal/\todo=[.code dt,.code dt]/\m=.run\/e=.ret/\m=.returning)
 have cq:ee C S Z D (b.at a [.code c,.code dt]) ⟨f,t',.code (chain cs S.code)::S.items,S.defers,.run,S.kind,H⟩:=
  .mk f ht (.cons (.cut (TP cs hc)) .stop) (by rw[hd];exact .stop) .run .none ⟨λh=>by simp at h,λ_=>rfl,λh=>absurd rfl h,λh=>by simp at h,hk,λ_=>rfl⟩
 have ew:uG P (tw P F) C S Z (aT (b.at a [.code c,.code dt]) []) (aT ⟨f,t',.code (chain cs S.code)::S.items,S.defers,.run,S.kind,H⟩ S.callers):=.inside cq .base;have hi:Inv C S G (aT (b.at a [.code c,.code dt]) []) w:=⟨hn,Z,D,_,_,_,_,w',rfl,hg,cq,.base,hw⟩;have OU:Sim.Safe (tw P F) Q (aT (b.at a [.code c,.code dt]) []) w:=by
  refine Qn (S:=S) ζ hh ?_ ?_ hi ?_
  ·rintro g w hr ⟨T',e,bJ,todo,m,h1,h2,h3⟩;exact⟨T',e,bJ,todo,m,h1,h2,h3⟩
  ·rintro g w ⟨T',e,bJ,todo,m,h1,rfl,h3⟩ ch;rcases h3 with⟨_,_,rfl⟩ | ⟨_,rfl⟩<;>simp
  ·intro hr;obtain⟨e,bJ,aa,h1,h3⟩:=anW (υ:=dt) hQ b [.code dt] [] cs (hl hr);rcases h3 with⟨rfl,n,T⟩ | ⟨rfl,todo,n,T⟩
   ·exact⟨n,_,_,aa,T,aa.tape,.normal,bJ,[.code dt,.code dt],.run,h1,rfl,.inl ⟨rfl,rfl,rfl⟩⟩
   ·exact⟨n,_,_,aa,T,aa.tape,.ret,bJ,todo,.returning,h1,rfl,.inr ⟨rfl,rfl⟩⟩
 refine Zx ζ main (Ym ζ hh OU hi) ⟨ew,hw,hg,hf,iU⟩ ?_;intro b6 aM dP aa eB aF hR cr _ _ hq;obtain⟨gr,core,iy,fits,low⟩:=hR;cases gr with
 |hole f hf=>rw[hh] at hf;simp at hf
 |inside xt Eh=>
  obtain⟨⟨hr,e,bJ,todo,m,h1,h2,h3⟩,qF⟩:=hq.resolve_right λh=>h ⟨_,_,_,_,_,rfl,rfl,xt,Eh⟩;have e1:=congrArg Goroutine.frame h2;have e2:=congrArg Akb h2;simp only at e1 e2;subst e1 e2;obtain⟨rfl,rfl⟩:=Me Eh;have MH:cg C aM (bq aa hr) aF:=core.left rfl;cases xt with
  |mk _ Aq fj kT qy rY iz=>
   cases rY;have Qr:iO M Z w w' b6 aM (bq aa hr) aF:=⟨cr.le,cr.new,cr.oa,cr.gO,cr.lD,cr.jd,cr.R,cr.O,cr.On,cr.tape,cr.os,cr.e⟩;have rR:=iz.DJ rfl;subst rR;have:=post e bJ (bq aa hr) b6 aM _ aF _ h1 Qr MH fits low iy qF Aq kT;rcases h3 with⟨rfl,rfl,rfl⟩ | ⟨rfl,rfl⟩
   ·rw[ajH hcut fj];exact this.1 rfl
   ·exact this.2 rfl _
end
def aeg:¬C0.clean dt:=by intro h;have h:cC ϋ G0 dt=D:=h;exact absurd h (by decide)
def pieces(S:Tl){cs:List Ϙ}(hc:∀c∈cs,C0.clean c){a:Act}(hk:(S.kind==.early)=U)
 (hd:a.defers=[cQ]){QL:Exit->Act->N->Prop}(hQ:∀e a w,QL e a w->e=.normal\/e=.ret)
 (hl:∀hr,fu (@Tw.prog jC) cs QL a (bq w hr))
 (hw:cg C0 Z w w')(hg:Z 0 0)(hf:Fits M Z w)(iU:∀b,M.has b->b<w'.heap.size)(hn:bO w.heap)(ht:aV Z a.tmps t')
 {Stop:ay->ϐ->N->Prop}
 (post:∀e bJ aa b6 aM fq aF D',QL e bJ aa->iO M Z w w' b6 aM aa aF->cg C0 aM aa aF->Fits b6 aM aa->(∀b,b6.has b->b<aF.heap.size)->aM 0 0->bO aa.heap->aV aM bJ.tmps fq->kM S aM D bJ.defers D'->
   (e=.normal->Walk ϋ main Stop b6 (aT ⟨f,fq,.code S.code::S.items,D',.run,S.kind,H⟩ S.callers) aF)/\
   (e=.ret->∀tW,Walk ϋ main Stop b6 (aT ⟨f,fq,tW,D',.returning,S.kind,H⟩ S.callers) aF)):
 Walk ϋ main Stop M (aT ⟨f,t',.code (chain cs S.code)::S.items,S.defers,.run,S.kind,H⟩ S.callers) w':=by
 refine Walk.bind (aqB Hp aeg (λ_=>rfl) S hc hk hd hQ (λhr=>by rw[QU];exact hl hr) hw (λg nJ=>?_) hf iU hn ht λe bJ aa b6 aM fq aF D' h1 h2 h3 h4 h5 h6 h7 h8 h9=>post e bJ aa b6 aM fq aF D' h1 h2 h3 h4 h5 (h6 0 rfl) h7 h8 h9) λ_ _ _ h=>h;have:g=0:=by simpa [G0] using nJ
 subst this;exact hg
end Go.Jn
namespace Go.Jn
open Go Go.Sim Go.Tw
def Pv(S:Nat->Prop):z->Prop
 | .bool _| .int _ _| .string _| .pointer H| .slice H _ _| .map H| .chan H| .nilFunc| .nilIface=>True
 | .pointer (J a)=>S a.block
 | .slice (J a) n c=>S a.block\/(n=0/\c=0)
 | .func (.func _) x y=>x=#[]/\y=#[]
 |_=>False
def yl(Z:Ren)(S:Nat->Prop):Ren:=λa b=>Z a b/\S a
def Pv.rel{S:Nat->Prop}(h:aj Z v v')(hp:Pv S v):aj (yl Z S) v v':=by
 cases h;case bool b=>exact .bool b
 case int k n=>exact .int k n
 case string s=>exact .string s
 case ptrNone=>exact .ptrNone
 case ptr ha=>exact .ptr ⟨⟨ha.1,hp⟩,ha.2⟩
 case sliceNone n c=>exact .sliceNone n c
 case slice n c ha=>
  rcases hp with hp| ⟨rfl,rfl⟩
  ·exact .slice n c ⟨⟨ha.1,hp⟩,ha.2⟩
  ·exact .sliceDead _ _
 case sliceDead=>exact .sliceDead _ _
 case mapNone=>exact .mapNone
 case map=>exact hp.elim
 case chanNone=>exact .chanNone
 case chan=>exact hp.elim
 case func hf hx h1 hy h2=>
  cases hf with
  |func f=>obtain⟨rfl,rfl⟩:=hp;exact .func (.func f) hx (λi hi _=>absurd hi (by simp)) hy (λi hi _=>absurd hi (by simp))
  |yield=>exact hp.elim
 case nilFunc=>exact .nilFunc
 case iface=>exact hp.elim
 case nilIface=>exact .nilIface
 case agg=>exact hp.elim
 case tuple=>exact hp.elim
 case junk=>exact hp.elim
 case fjunk=>exact hp.elim
def sN(σ:Ren):∀v':z,∃u,aj σ u v'
 | .bool b=>⟨_,.bool b⟩
 | .int k n=>⟨_,.int k n⟩
 | .float k n=>⟨_,.junk rfl (by simp) (by simp)⟩
 | .complex k n m=>⟨_,.junk rfl (by simp) (by simp)⟩
 | .string s=>⟨_,.string s⟩
 | .pointer H=>⟨_,.ptrNone⟩
 | .pointer (J a)=>⟨_,.junk rfl (by simp) (by simp)⟩
 | .slice H n c=>⟨_,.sliceNone n c⟩
 | .slice (J a) n c=>⟨_,.junk rfl (by simp) (by simp)⟩
 | .map H=>⟨_,.mapNone⟩
 | .map (J a)=>⟨_,.junk rfl (by simp) (by simp)⟩
 | .chan H=>⟨_,.chanNone⟩
 | .chan (J a)=>⟨_,.junk rfl (by simp) (by simp)⟩
 | .func f x y=>⟨_,.fjunk f x y⟩
 | .nilFunc=>⟨_,.nilFunc⟩
 | .iface t v=>⟨_,.junk rfl (by simp) (by simp)⟩
 | .nilIface=>⟨_,.nilIface⟩
 | .tuple x=>⟨_,.junk rfl (by simp) (by simp)⟩
 | .agg x=>by have ih:∀i (h:i<x.size),∃u,aj σ u x[i]:=λi h=>sN σ x[i];refine⟨.agg (Aj2 λi:Fin x.size=>ì (ih i.1 i.2)),.agg (by simp) λi h1 h2=>?_⟩;rw[Aj3];exact Ï (ih i h2)
def mK(S:Nat->Prop)(h:aj Z v v'):∃u,aj (yl Z S) u v'/\(Pv S v->u=v):=by
 by_cases hp:Pv S v
 ·exact⟨v,Pv.rel h hp,λ_=>rfl⟩
 ·obtain⟨u,hu⟩:=sN (yl Z S) v';exact⟨u,hu,λh=>absurd h hp⟩
def aef(S:Nat->Prop){c c':Array z}(h:aV Z c c'):∃u:Array z,aV (yl Z S) u c'/\u.size=c.size/\∀(i:Nat) (v:z),c[i]?=J v->Pv S v->u[i]?=J v:=by
 have key:∀i (h1:i<c.size),∃u,(∀h2:i<c'.size,aj (yl Z S) u c'[i])/\(Pv S c[i]->u=c[i]):=λi h1=>by obtain⟨u,a,b⟩:=mK S (h.2 i h1 (h.1▸h1));exact⟨u,λ_=>a,b⟩
 refine⟨Aj2 λi:Fin c.size=>ì (key i.1 i.2),⟨by simp[h.1],λi h1 h2=>?_⟩,by simp,λi v hi hp=>?_⟩
 ·rw[Aj3];exact(Ï (key i (by simpa using h1))).1 h2
 ·obtain⟨ao,e⟩:=Ϝ.1 hi;rw[Aj4,dif_pos ao];exact congrArg J (((Ï (key i ao)).2 (by rw[e];exact hp)).trans e)
section
variable (Z:Ren)(w w':N)
def gY(a:Nat):Prop:=∃b c c' e fr ba,Z a b/\w.heap[a]?=J (.cells c e fr)/\w'.heap[b]?=J (.cells c' e ba)/\aV Z c c'
def K8(a:Nat)(o:Obj):Prop:=∃(b:Nat) (c c':Array z) (e:ώ) (fr ba:Nat×Nat) (u:Array z),Z a b/\w.heap[a]?=J (.cells c e fr)/\w'.heap[b]?=J (.cells c' e ba)/\aV (yl Z (gY Z w w')) u c'/\u.size=c.size/\(∀(i:Nat) (v:z),c[i]?=J v->Pv (gY Z w w') v->u[i]?=J v)/\o=.cells u e (0,u.size)
def agc(h:gY Z w w' a):∃o,K8 Z w w' a o:=by obtain⟨b,c,c',e,fr,ba,h1,h2,h3,h4⟩:=h;obtain⟨u,k1,k2,k3⟩:=aef (gY Z w w') h4;exact⟨_,b,c,c',e,fr,ba,u,h1,h2,h3,k1,k2,k3,rfl⟩
open Classical in
def aah(a:Nat):Obj:=if h:∃o,K8 Z w w' a o then ì h else .cells #[] 0 (0,0)
def rG:N:={w with heap:=w.heap.mapIdx λa _=>aah Z w w' a}
end
section
variable {Z:Ren}{w w':N}
def Us:(rG Z w w').heap.size=w.heap.size:=by simp[rG]
def M7(h:gY Z w w' a):∃o,(rG Z w w').heap[a]?=J o/\K8 Z w w' a o:=by
 have hx:=agc Z w w' h;obtain⟨b,c,c',e,fr,ba,h1,h2,h3,h4⟩:=h;refine⟨aah Z w w' a,?_,?_⟩
 ·unfold rG;simp only[Aeo,h2,ó]
 ·unfold aah;rw[dif_pos hx];exact Ï hx
def agf(h:cg C Z w w'):cg C (yl Z (gY Z w w')) (rG Z w w') w' where
 dL a b hab:=by rw[Us];exact h.dL a b hab.1
 dq a b hab:=h.dq a b hab.1
 fn a b b' x y:=h.fn a b b' x.1 y.1
 inj a a' b x y:=h.inj a a' b x.1 y.1
 obj a b o hab ho:=by obtain⟨o1,k1,b1,c,c',e,fr,ba,u,h1,h2,h3,h4,h5,h6,rfl⟩:=M7 hab.2;rw[k1] at ho;cases ho;rw[h.fn a b b1 hab.1 h1];exact⟨_,h3,.cells e h4 (.inr ⟨rfl,ϊ _⟩)⟩
def agh:bO (rG Z w w').heap:=by
 intro o ho hb;obtain⟨a,ha⟩:=Ajz ho;unfold rG at ha;simp only[Aeo] at ha;obtain⟨o1,_,rfl⟩:=ď.1 ha;unfold aah at hb;split at hb
 ·rename_i hx;obtain⟨b1,c,c',e,fr,ba,u,_,_,_,_,_,_,e2⟩:=Ï hx;rw[e2] at hb;exact hb
 ·exact hb
def age{a:Addr}(ha:gY Z w w' a.block)(h: w.cell? a=J v)(hp:Pv (gY Z w w') v):(rG Z w w').cell? a=J v:=by
 obtain⟨o1,k1,b1,c,c',e,fr,ba,u,h1,h2,h3,h4,h5,h6,rfl⟩:=M7 ha;unfold World.cell? at h |-;rw[h2] at h;rw[k1];simp only at h |-;split at h
 ·cases h
 ·rename_i V;rw[if_neg V];exact h6 _ _ h hp
def Yb(h:cg C Z w w'){p:Addr}{u:z}(hc: w.cell? p=J u){b:Nat}(T:Z p.block b):gY Z w w' p.block:=by
 unfold World.cell? at hc;split at hc
 ·rename_i c e fr ho;obtain⟨o',h1,h2⟩:=h.obj _ _ _ T ho;cases h2 with
  |cells e hv hf=>exact⟨b,c,_,e,fr,_,T,ho,h1,hv⟩
 ·cases hc
def Ya{p:Addr}{u:z}(T:gY Z w w' p.block)(hc: w.cell? p=J u):∃u',aj Z u u':=by
 obtain⟨b,c,c',e,fr,ba,h1,h2,h3,h4⟩:=T;unfold World.cell? at hc;rw[h2] at hc;simp only at hc;split at hc
 ·cases hc
 ·obtain⟨ao,e⟩:=Ϝ.1 hc;exact⟨_,by rw[<-e];exact h4.2 _ ao (h4.1▸ao)⟩
end
def Sv(S:Nat->Prop)(v:z):Prop:=∀A n c,v=E (J A) n c->n=0->S A.block\/c=0
section
variable {α:Type}{Z:Ren}{w w':N}{B sz:Nat}{R R':α->List z->Prop}{v:z}{xs:List α}
def F7(hW:cg C Z w w')(aN:0<sz)(h:Row w B sz R v xs)(hv:∃v',aj Z v v')(he:Sv (gY Z w w') v):Pv (gY Z w w') v:=by
 obtain⟨A,c,rfl,h1,h2,h3⟩:=h;cases A with
 |none=>exact trivial
 |some A=>
  by_cases hx:xs=[]
  ·subst hx;exact(he A _ c rfl rfl).imp id λh=>⟨rfl,h⟩
  ·obtain⟨ad,e,hb,h4⟩:=h3 hx;cases e;cases xs with
   |nil=>exact absurd rfl hx
   |cons x xs=>
    obtain⟨cs,_,hl,hc⟩:=h4 0 x rfl;obtain⟨u,hu⟩:∃u,cs[0]?=J u:=⟨cs[0]'(by omega),Ñ _⟩
    have:=hc 0 u hu;obtain⟨v',hv⟩:=hv;cases hv with
    |slice _ _ ha=>
     have e:(A.add (0 * sz+0)).block=A.block:=b9 _ _;have:=Yb hW this (b:=_) (by rw[e];exact ha.1)
     rw[e] at this;exact .inl this
def Ed(aN:0<sz)(h:Row w B sz R v xs)(hv:Pv (gY Z w w') v)(hR:∀x cs,R x cs->(∀u∈cs,∃p:Addr,gY Z w w' p.block/\ w.cell? p=J u)->R' x cs/\∀u∈cs,Pv (gY Z w w') u):Row (rG Z w w') B sz R' v xs:=by
 obtain⟨A,c,e,h1,h2,h3⟩:=h;refine⟨A,c,e,h1,h2,λhx=>?_⟩;obtain⟨ad,hA,hb,h4⟩:=h3 hx;have V:gY Z w w' ad.block:=by
  rw[e,hA] at hv;rcases hv with hv| ⟨h0,_⟩
  ·exact hv
  ·exact absurd (List.length_eq_zero_iff.1 h0) hx
 refine⟨ad,hA,hb,λi x hi=>?_⟩;obtain⟨cs,r,hl,aq⟩:=h4 i x hi;have:=hR x cs r λu hu=>by obtain⟨j,hj⟩:=List.getElem?_of_mem hu;exact⟨_,by rw[b9];exact V,aq j u hj⟩
 refine⟨cs,this.1,hl,λj u hu=>?_⟩;exact age (by rw[b9];exact V) (aq j u hu) (this.2 u (ϡ hu))
end
structure GF(S:Nat->Prop)(w:N)(B:Nat)(b:eR)(pv bv tv:z):Prop where
 pieces:Row w B 4 Piece.R pv b.pieces
 aC:Row w B 3 (λx cs=>bN.R w B x cs/\∀u∈cs,Sv S u) bv b.aC
 aI:Row w B 3 (λx cs=>Tw.Tape.R w B x cs/\∀u∈cs,Sv S u) tv b.aI
 sp:Sv S pv
 sb:Sv S bv
 st:Sv S tv
def agd(hW:cg C Z w w')(h:GF (gY Z w w') w B b pv bv tv)(h1:∃v',aj Z pv v')(h2:∃v',aj Z bv v')(h3:∃v',aj Z tv v'):
 aQ (rG Z w w') B b pv bv tv/\Pv (gY Z w w') pv/\Pv (gY Z w w') bv/\Pv (gY Z w w') tv:=by
 have p1:=F7 hW (by omega) h.pieces h1 h.sp;have p2:=F7 hW (by omega) h.aC h2 h.sb;have p3:=F7 hW (by omega) h.aI h3 h.st;refine⟨⟨Ed (by omega) h.pieces p1 λx cs r _=>⟨r,λu hu=>?_⟩,Ed (by omega) h.aC p2 λx cs r hc=>?_,Ed (by omega) h.aI p3 λx cs r hc=>?_⟩,p1,p2,p3⟩
 ·obtain⟨rfl,_⟩:=r;simp only[Ϡ,Á,or_false] at hu;rcases hu with rfl|rfl|rfl|rfl<;>exact trivial
 ·obtain⟨⟨kv,rfl,k1,k2⟩,k3⟩:=r;have hp:Pv (gY Z w w') kv:=F7 hW (by omega) k2 (by obtain⟨p,hp,hu⟩:=hc kv (by simp);exact Ya hp hu) (k3 kv (by simp));refine⟨⟨kv,rfl,k1,Ed (by omega) k2 hp λx cs r _=>⟨r,λu hu=>?_⟩⟩,λu hu=>?_⟩
  ·rw[show cs=_ from r] at hu;simp only[Ϡ,Á,or_false] at hu;rcases hu with rfl|rfl<;>exact trivial
  ·simp only[Ϡ,Á,or_false] at hu;rcases hu with rfl|rfl|rfl
   ·exact trivial
   ·exact trivial
   ·exact hp
 ·obtain⟨⟨kv,rfl,k2⟩,k3⟩:=r;have hp:Pv (gY Z w w') kv:=F7 hW (by omega) k2 (by obtain⟨p,hp,hu⟩:=hc kv (by simp);exact Ya hp hu) (k3 kv (by simp));refine⟨⟨kv,rfl,Ed (by omega) k2 hp λx cs r _=>⟨r,λu hu=>?_⟩⟩,λu hu=>?_⟩
  ·rw[show cs=_ from r] at hu;simp only[Ϡ,Á,or_false] at hu;rcases hu with rfl;exact trivial
  ·simp only[Ϡ,Á,or_false] at hu;rcases hu with rfl|rfl|rfl
   ·exact hp
   ·exact trivial
   ·exact trivial
end Go.Jn
namespace Go.Tw
variable [Go.Tw.aK]
open Go Go.Proofs Go.RowKit
def ajt{g k x:Nat}(g0: w.cell? ⟨g,0,H⟩=J (Y I x))(h0:g<w.heap.size):
 Calls prog 123 (#[Y I k]++#[π (J ⟨g,0,H⟩)]) w λe w'=>e=Ω (.bool (decide (k=x)))/\φ w w':=by
 go_enter func123,Tryz.ntmps123;go_wp2;refine bodyPost_ret (v:=.bool (decide (k=x))) (by
  have he:((k:Int)==(x:Int))=decide (k=x):=by rw[Bool.eq_iff_iff];simp;omega
  simp[results,Tryz.results123,go_sem,he]) rfl ⟨rfl,Below.refl _ _⟩
end Go.Tw
namespace Go.Jn
open Go Go.Proofs Go.Sim Go.Conc Go.Tw Go.RowKit
attribute [local go_sem] AZ AY Oper.semAt_some
def then_self(Q:Exit->Act->N->Prop):Exit.then (Q .normal) Q=Q:=by funext e a w;cases e<;>rfl
section
variable [Go.Tw.aK]
def GV(b:eR)(i:Nat)(v0 v1 v2 v3:z)(e:Exit)(a:Act)(w:N):Prop:=
 (∃r x,a.defers=[⟨.collected r,x⟩,cQ]/\w.heap[r]?=J (.deferred (J [])))/\a.tmps.size=18/\a.tmps[0]?=J v0/\a.tmps[1]?=J v1/\a.tmps[2]?=J v2/\a.tmps[3]?=J v3/\
   ((search b (cB (aB b)) (λk=>decide (k=i)) b.pieces.length []=H/\e=.normal)\/((search b (cB (aB b)) (λk=>decide (k=i)) b.pieces.length []).isSome=D/\e=.ret))
def middle{v3 v6:z}(hB:B<=w.heap.size)(ah:aQ w B b pv bv tv)(h:bT b 0=0)
 (c0: w.cell? ⟨bk,0,H⟩=J (Y I b.ab))(c1: w.cell? ⟨bk,1,H⟩=J pv)(c2: w.cell? ⟨bk,2,H⟩=J bv)(c3: w.cell? ⟨bk,3,H⟩=J tv)(hk: w.cell? ⟨pk,0,H⟩=J (Y I i))
 (ai:bk<w.heap.size)(ej:pk<w.heap.size):
 fu prog [wa,uC] (GV b i v0 (π (J ⟨bk,0,H⟩)) (π (J ⟨pk,0,H⟩)) v3) ⟨#[v0,π (J ⟨bk,0,H⟩),π (J ⟨pk,0,H⟩),v3,L,L,v6,L,L,L,L,L,L,L,L,L,L,L],[cQ]⟩ w:=by
 have aG:=K (Qw hB ah h);have bD:=K ah;have hv:=K (fG (mX h).1);obtain⟨A1,n1,k1,A2,n2,k2,A3,n3,k3,rfl,rfl,rfl⟩:=ah.op;clear ah h;have HK:=K hk;clear hk;unfold fu fu fu;rw[then_self];refine(wpIn_wide (n:=0)).1 ?_
 refine wpIn_mono (Q:=Exit.then (uC.wpIn Fence.wide 0 prog (GV b i v0 (π (J ⟨bk,0,H⟩)) (π (J ⟨pk,0,H⟩)) v3)) (GV b i v0 (π (J ⟨bk,0,H⟩)) (π (J ⟨pk,0,H⟩)) v3)) ?_ (λe a w h=>by cases e<;>first|exact wpIn_wide.1 h|exact h);simp only[wa,uC,DN,Tryz.f120,bp,aS,Λ]
 gi_wp2_with (first
  | (gi_at_call 119;refine(callsIn_wide.2 aG.e).mono ?_;rintro e w1 ⟨sv,g,rfl,aH,cP,hg,ai⟩
     obtain⟨A9,m9,c9,rfl⟩:=iI aH;have aO:w.heap.size<=w1.heap.size:=ai.size;have OT:w.heap.size<w1.heap.size+1:=by omega
     have FR:=K (And.intro aH (And.intro cP (And.intro hg ai)));have oK:g<w1.heap.size:=cP.lt;have dE:Row (w1.alloc (Ξ #[Y I b.ab,.slice A1 n1 k1,.slice A2 n2 k2,.slice A3 n3 k3,.slice A9 m9 c9,.map (J g)] 151)) w1.heap.size 3 al.R (.slice A9 m9 c9) (aB b):=aH.row.still ((Δ.refl w1).alloc (ϊ _) _) λ_ _ h=>h
     clear ai aH cP hg)
  | (gi_at_call 122;refine(callsIn_wide.2 (ML (B:=w1.heap.size) (ps:=aB b) dE (by simp) ⟨_,_,_,rfl⟩ ⟨_,_,_,rfl⟩ ⟨_,_,_,rfl⟩)).mono ?_;rintro e w2 ⟨gn,rfl,q0,q1,q2,xz,an⟩))
 clear dE;have aZ:w1.heap.size+1<=w2.heap.size:=by have:=an.size;simpa using this
 have xy:w1.grownBy w2 (J g):=(Â w1 _ _).trans (jQ an (ϊ _) _);have IA:w.grownBy w2 H:=(jQ FR.e.2.2.2 (ϊ _) _).trans ((Â w1 _ _).trans (jQ an (ϊ _) _));have qw:dS w2 g b:=FR.e.2.1.grown (row:=H) ((Â w1 _ _).trans (jQ an (ϊ _) _)) (by simp)
 have Nk:B<=g:=Ϥ hB FR.e.2.2.1;have aiG:Δ B w w2:=λp hp=>Ai1 (IA.block p.block (by omega) (by simp))
 have ais: w2.cell? ⟨pk,0,H⟩=J (Y I i):=(Ai1 (IA.block pk (by omega) (by simp))).trans HK.e;have hX0:=Qq (Wa:=w1.alloc (Ξ #[Y I b.ab,.slice A1 n1 k1,.slice A2 n2 k2,.slice A3 n3 k3,.slice A9 m9 c9,.map (J g)] 151)) (w2:=w2) (KO:=123) (kE:=#[π (J ⟨pk,0,H⟩)]) (out:=λk=>decide (k=i)) (B:=B) (bD.e.still aiG) hv.e (wI hv.e) ⟨_,_,_,rfl⟩ Nk (by simp;omega) q0 q1 q2 xz call123
  (λk W hk ew=>ajt ((Ai1 (ew.block pk (by have:=FR.e.2.2.2.size;omega) (by simp;have:=FR.e.2.2.1;omega))).trans ais) (by have:=ew.size;omega))
 refine Qf (gf:=174) (pre:=#[]) (lb:=#[π (J ⟨w1.heap.size+1,0,H⟩),π (J ⟨w1.heap.size+1+1,0,H⟩),π (J ⟨gn,0,H⟩)]) (by simp[Act.eval]) call174 λfn rc iD=>?_;have Cl:=((hX0.alloc (by show B<=w2.heap.size;omega) (.deferred (J []))).alloc (by simp[CZ];omega) (.loop rc)).SK (w2.heap.size+1);obtain⟨W1,eS⟩:∃W1,W1=(w2.alloc (Obj.deferred (J []))).alloc (Obj.loop rc):=⟨_,rfl⟩
 obtain⟨X,hX⟩:∃X:cY,X={CZ w2 b (.slice A1 n1 k1) (.slice A2 n2 k2) (.slice A3 n3 k3) (.slice A9 m9 c9) (aB b) (w1.heap.size+1) gn g 123 #[π (J ⟨pk,0,H⟩)] (λk=>decide (k=i)) with w:=W1,l:=w2.heap.size+1}:=⟨_,rfl⟩
 have cD:X.Ok B:=by rw[hX,eS];simpa [CZ] using Cl
 have xw:X.w=W1:=by rw[hX]
 have xl:X.l=w2.heap.size+1:=by rw[hX]
 have xb:X.b=b:=by rw[hX];rfl
 have xg:X.gm=g:=by rw[hX];rfl
 have di:W1.heap.size=w2.heap.size+2:=by rw[eS];simp
 have xs:X.s=w2.heap.size+2:=by unfold cY.s;rw[xw,di]
 have zZ:W1.heap[w2.heap.size+1]?=J (.loop rc):=by rw[eS];exact wK (by simp)
 have kT:W1.heap[w2.heap.size]?=J (.deferred (J [])):=by rw[eS];exact nB (wK (by simp))
 have fj:dS X.w X.gm X.b:=by rw[xw,xg,xb,eS];exact qw.grown (row:=H) ((Â _ _ _).trans (Â _ _ _)) (by simp)
 have hgg:g<w2.heap.size:=qw.lt;have xn:X.n=cB (aB b):=by rw[hX];rfl
 have xo:X.e=λk=>decide (k=i):=by rw[hX];rfl
 have xp:X.np=b.pieces.length:=by unfold cY.np;rw[xb]
 have xgs:X.gs=w1.heap.size+1:=by rw[hX];rfl
 have xgo:X.go=w1.heap.size+1+1:=by rw[hX];rfl
 have xgn:X.gn=gn:=by rw[hX];rfl
 rw[<-eS];clear hX eS;have hZ:Bq X (λ_ W=>W.heap[w2.heap.size]?=J (.deferred (J []))/\W.heap[w2.heap.size+1]?=J (.loop {rc with state:=.done,pending:=J .ret})/\∃i,Bk W (X.s+2) 27 #[E (J ⟨X.s+1,0,H⟩) i X.np]):=by
  refine⟨λfull W hz=>hz.2.2,λfull W i hz=>?_,λm full W hlen hD=>?_⟩
  ·obtain⟨z1,z2,j,z3⟩:=hz;exact⟨(Below.heap_setCell _ _ _ _ (by simp;omega)).trans z1,(Below.heap_setCell _ _ _ _ (by simp;omega)).trans z2,i,z3.set 0 _⟩
  ·have ew:=hD.gr;rw[xw,xg] at ew;have pH:W.heap[w2.heap.size+1]?=J (.loop rc):=(ew.block _ (by omega) (by simp;omega)).trans zZ
   have gh:W.heap[w2.heap.size]?=J (.deferred (J [])):=(ew.block _ (by omega) (by simp;omega)).trans kT;have pI:=hD.lv;rw[xs,xp] at pI;have aN:=ew.size;rw[xl];refine Rh (n:=0) iD pH rfl ?_
   gi_wp2
   refine⟨_,Mn iD pH,?_⟩
   gi_wp2
   have xH:(W.putObj (w2.heap.size+1) (.loop {rc with state:=.busy})).heap[w2.heap.size+1]?=J (.loop {rc with state:=.busy}):=ŏ (by omega);refine⟨_,_,TU .ret xH,rfl,?_,ŏ (by simp;omega),full.length,?_⟩
   ·exact(Å (by omega)).trans ((Å (by omega)).trans gh)
   ·exact(Å (by omega)).trans ((Å (by omega)).trans pI)
 have call:=TQ cD (by rw[xs];omega) hZ fj;rw[xl,xgs,xgo,xgn,xw,xn,xo,xb,xp] at call;refine(callsIn_wide.2 call).mono ?_;rintro e W2 ⟨⟨v,rfl⟩,(⟨full,vC,aO,aZ,_⟩ | ⟨vC,hD⟩)⟩
 ·refine⟨J .ret,_,TY aZ,?_⟩
  gi_wp2
  refine⟨⟨w2.heap.size,_,rfl,(Å (by omega)).trans aO⟩,rfl,rfl,rfl,rfl,rfl,.inr ⟨by rw[vC];rfl,rfl⟩⟩
 ·have ew:=hD.gr;rw[xw,xg] at ew;have pH:W2.heap[w2.heap.size+1]?=J (.loop rc):=(ew.block _ (by omega) (by simp;omega)).trans zZ
  have gh:W2.heap[w2.heap.size]?=J (.deferred (J [])):=(ew.block _ (by omega) (by simp;omega)).trans kT;refine⟨H,_,MR iD pH,?_⟩;exact⟨⟨w2.heap.size,_,rfl,(Å (by omega)).trans gh⟩,rfl,rfl,rfl,rfl,rfl,.inl ⟨vC,rfl⟩⟩
end
end Go.Jn
namespace Go.Jn
open Go Go.Proofs Go.Sim Go.Conc Go.Tw
def anw(hW:cg C Z w w'){b o:Nat}(hab:Z a b)(h:aj Z (π (J ⟨a,o,H⟩)) v'):v'=π (J ⟨b,o,H⟩):=by
 cases h with
 |ptr ha=>rename_i q;obtain⟨q1,q2,q3⟩:=q;obtain⟨h1,h2,h3⟩:=ha;simp only at h1 h2 h3;subst h2 h3;rw[hW.fn _ _ _ h1 hab]
def JO(h:aV Z t t')(hi:t[i]?=J v):∃v',t'[i]?=J v'/\aj Z v v':=by
 rcases h.get? i with⟨h1,_⟩ | ⟨a,b,h1,h2,h3⟩
 ·rw[h1] at hi;cases hi
 ·rw[h1] at hi;cases hi;exact⟨b,h2,h3⟩
def QB(hW:cg C Z w w')(h:aV Z t t'){b o:Nat}(hab:Z a b)(hi:t[i]?=J (π (J ⟨a,o,H⟩))):t'[i]?=J (π (J ⟨b,o,H⟩)):=by obtain⟨v',h1,h2⟩:=JO h hi;rw[h1,anw hW hab h2]
def anu{M:Sim.ay}(hW:cg C Z w w')(hf:Fits M Z w){r':Nat}(T:Z r r')(h:w.heap[r]?=J (.deferred (J []))):M.O r'/\w'.heap[r']?=J (.deferred (J [])):=by obtain⟨o',h1,h2⟩:=hW.obj _ _ _ T h;cases h2;refine⟨(hf _ _ T).resolve_right ?_,h1⟩;rintro⟨_,o,ho,fo⟩;rw[h] at ho;cases ho;exact fo
section
variable {n N0 cL cN:Nat}{cX:Nat->Bool}{val:Nat->z}{End:List Nat->Sim.ay->ϐ->N->Prop}
def d121(p7:Nat):Ê:={target:=.fn (.func 121) #[π (J ⟨p7,0,H⟩)],args:=#[]}
def ZC{M:Sim.ay}{p7:Nat}{x:Array z}{f7:Nat×Nat}(m7:M.has p7)(h7:w.heap[p7]?=J (Ξ #[.chan (J cL)] e7 f7))(hO:M.O r)(T:w.heap[r]?=J (.deferred (J []))):
 Walk ϋ U (W2 (Pm.mk ϋ n N0 cL cN cX val End)) M (aT ⟨120,t,k,[⟨.collected r,x⟩,d121 p7],.returning,.deferred,H⟩ [cS ϋ]) w:=
 aqH hO T λaa hk=>aqR m7 ((yA (by rintro rfl;rw[T] at h7;cases h7)).trans ((hk.kept _ m7).trans h7)) rfl
def aqT{M:Sim.ay}{p6 p7:Nat}{x:Array z}{f6 f7 fk:Nat×Nat}(m6:M.has p6)(m7:M.has p7)(mk:M.has pk)(h6:w.heap[p6]?=J (Ξ #[.chan (J cN)] e6 f6))(h7:w.heap[p7]?=J (Ξ #[.chan (J cL)] e7 f7))
 (hk:w.heap[pk]?=J (Ξ #[val i] ek fk))(VY:cX i=D)(hO:M.O r)(T:w.heap[r]?=J (.deferred (J [])))(V:t.size=18)(t2:t[2]?=J (π (J ⟨pk,0,H⟩)))(t3:t[3]?=J (π (J ⟨p6,0,H⟩))):
 Walk ϋ U (W1 (Pm.mk ϋ n N0 cL cN cX val End) i) M (rg 120 t [.code (.region 3 qQ U)] [⟨.collected r,x⟩,d121 p7] .deferred [cS ϋ]) w:=by
 refine iu ?_;rw[aq8];obtain⟨o,ho,ag,hd,hg⟩:=acY;obtain⟨dir,hu⟩:=Da;refine dJ ho (cx hg) rfl (λaa hk=>⟨_,yz _ aa ag (cT t3) hu rfl (mH ((hk.kept _ m6).trans h6) rfl rfl),yx m6 _ rfl⟩) ?_;rw[hd];obtain⟨o,ho,ag,hd,hg⟩:=acZ;refine dJ ho (cx hg) rfl (λaa IG=>⟨_,yz _ aa ag (cT ((bP (by omega)).trans t2)) ty3 rfl (mH ((IG.kept _ mk).trans hk) rfl rfl),yx mk _ rfl⟩) ?_;rw[hd];suffices rest:∀hr:Array z,hr[16]?=J (.chan (J cN))->hr[17]?=J (val i)->
  Walk ϋ U (W1 (Pm.mk ϋ n N0 cL cN cX val End) i) M (rg 120 hr [.inRegion qQ [2]] [⟨.collected r,x⟩,d121 p7] .deferred [cS ϋ]) w from
  rest _ ((bP (by omega)).trans (eX (by omega))) (eX (by simp[aA];omega))
 intro hr h16 h17;obtain⟨o,ho,ag,hd,hg⟩:=ac0;have hx:aX hr (.tmp 17)=val i:=cT h17;refine .stop λaa IG=>.inl ⟨VY,rfl,rfl,⟨μ #[],Gi ho (cx hg) rfl ((Yj hr aa ag (cT h16)).trans (by rw[hx]))⟩,?_⟩
 have E8:ϩ (rg 120 hr [.inRegion qQ [2]] [⟨.collected r,x⟩,d121 p7] .deferred [cS ϋ]) L=
  rg 120 hr [.inRegion qQ []] [⟨.collected r,x⟩,d121 p7] .deferred [cS ϋ]:=by
  simp[ϩ,ē,ho,hd]
 show Walk ϋ U (W2 (Pm.mk ϋ n N0 cL cN cX val End)) M (ϩ (rg 120 hr [.inRegion qQ [2]] [⟨.collected r,x⟩,d121 p7] .deferred [cS ϋ]) L) aa;rw[E8];exact(jl (aqJ (ZC m7 h7 hO T))).rely IG
def worker{M:Sim.ay}{lk l6 l7 p6 p7:Nat}{fk f6 f7:Nat×Nat}
 (hW:cg C0 Z w w')(hg:Z 0 0)(hf:Fits M Z w)(hM:∀b,¬M.O b)(iU:∀b,M.has b->b<w'.heap.size)(hn:bO w.heap)
 (rb:Z lb bk)(rk:Z lk pk)(r6:Z l6 p6)(r7:Z l7 p7)(m6:M.has p6)(m7:M.has p7)(mk:M.has pk)
 (hB:B<=w.heap.size)(ah:aQ w B b pv bv tv)(ag:bT b 0=0)
 (c0: w.cell? ⟨lb,0,H⟩=J (Y I b.ab))(c1: w.cell? ⟨lb,1,H⟩=J pv)(c2: w.cell? ⟨lb,2,H⟩=J bv)(c3: w.cell? ⟨lb,3,H⟩=J tv)(ck: w.cell? ⟨lk,0,H⟩=J (Y I i))
 (h6:w'.heap[p6]?=J (Ξ #[.chan (J cN)] e6 f6))(h7:w'.heap[p7]?=J (Ξ #[.chan (J cL)] e7 f7))(hk:w'.heap[pk]?=J (Ξ #[val i] ek fk))
 (xL:cX i=(search b (cB (aB b)) (λk=>decide (k=i)) b.pieces.length []).isNone):
 Walk ϋ U (W1 (Pm.mk ϋ n N0 cL cN cX val End) i) M (born ϋ {target:=.fn (.func 120) #[π (J ⟨p7,0,H⟩),π (J ⟨bk,0,H⟩),π (J ⟨pk,0,H⟩),π (J ⟨p6,0,H⟩)],args:=#[]}) w':=by
 letI:=jC
 refine aqS λt V t0 t1 t2 t3 t6 tu=>?_;obtain⟨v6,hv6⟩:=sN Z (.func (.func 121) #[] #[π (J ⟨p7,0,H⟩)]);have lb1:lb<w.heap.size:=hW.dL _ _ rb;have lk1:lk<w.heap.size:=hW.dL _ _ rk;have ptr:∀ {a b:Nat},Z a b->aj Z (π (J ⟨a,0,H⟩)) (π (J ⟨b,0,H⟩)):=λh=>.ptr ⟨h,rfl,rfl⟩
 have Fj:aV Z #[π (J ⟨l7,0,H⟩),π (J ⟨lb,0,H⟩),π (J ⟨lk,0,H⟩),π (J ⟨l6,0,H⟩),L,L,v6,L,L,L,L,L,L,L,L,L,L,L] t:=by
  refine⟨V.symm,λj h1 h2=>?_⟩;have hj:j<18:=by rw[<-V];exact h2
  have hu:∀q,4<=q->q<18->q≠6->∀h:q<t.size,aj Z L t[q]:=by
   intro q h4 h18 h6 h;have:=tu q h4 h18 h6;rw[ā h] at this
   rw[ϟ this];exact .undef
  have he:∀ {q:Nat} {v:z} (h:q<t.size),t[q]?=J v->t[q]=v:=λh e=>by rw[ā h] at e;exact ϟ e
  have:j=0\/j=1\/j=2\/j=3\/j=6\/(4<=j/\j≠6):=by omega
  rcases this with rfl|rfl|rfl|rfl|rfl| ⟨h4,h6⟩
  ·rw[he _ t0];exact ptr r7
  ·rw[he _ t1];exact ptr rb
  ·rw[he _ t2];exact ptr rk
  ·rw[he _ t3];exact ptr r6
  ·rw[he _ t6];exact hv6
  ·have:=hu j h4 hj h6 h2;have:j=4\/j=5\/j=7\/j=8\/j=9\/j=10\/j=11\/j=12\/j=13\/j=14\/j=15\/j=16\/j=17:=(by omega);rcases this with rfl|rfl|rfl|rfl|rfl|rfl|rfl|rfl|rfl|rfl|rfl|rfl|rfl<;>assumption
 have hl:∀hr,fu (@Tw.prog jC) [wa,uC] (GV b i (π (J ⟨l7,0,H⟩)) (π (J ⟨lb,0,H⟩)) (π (J ⟨lk,0,H⟩)) (π (J ⟨l6,0,H⟩))) ⟨#[π (J ⟨l7,0,H⟩),π (J ⟨lb,0,H⟩),π (J ⟨lk,0,H⟩),π (J ⟨l6,0,H⟩),L,L,v6,L,L,L,L,L,L,L,L,L,L,L],[cQ]⟩ (bq w hr):=λhr=>
  middle (B:=B) hB (ah.still λ_ _=>rfl) ag c0 c1 c2 c3 ck lb1 lk1
 refine pieces (S:=⟨.region 3 qQ U,[],[d121 p7],[cS ϋ],.deferred⟩) (cs:=[wa,uC]) ?_ rfl rfl ?_ hl hW hg hf iU hn Fj ?_
 ·intro c hc;simp only[Ϡ,Á,or_false] at hc;rcases hc with rfl|rfl
  ·exact adE
  ·exact adF
 ·rintro e a w ⟨_,_,_,_,_,_,⟨_,rfl⟩ | ⟨_,rfl⟩⟩
  ·exact .inl rfl
  ·exact .inr rfl
 ·rintro e bJ aa b6 aM fq aF D' ⟨⟨r,x,hd,T⟩,us,u0,u1,u2,u3,Ca⟩ cr eS iz ER fD qF qJ hD;rw[hd] at hD;obtain⟨r',x',rr,rfl⟩:∃r' x',aM r r'/\D'=[⟨.collected r',x'⟩,d121 p7]:=by
   cases hD with
   |cons h1 h2=>
    cases h1 with
    |collected T=>rw[zh h2];exact⟨_,_,T,rfl⟩
  obtain⟨hO,X2⟩:=anu eS iz rr T;have kept:∀q,M.has q->aF.heap[q]?=w'.heap[q]?:=λq hq=>cr.jd q hq λa ha=>((hf a q ha).resolve_left (hM q)).2
  have Im:∀q,M.has q->b6.has q:=λq hq=>ay.vb cr.R cr.O hq;refine⟨λhe=>?_,λhe tW=>?_⟩
  ·subst he;obtain⟨Ad,_⟩:=Ca.resolve_right (by rintro⟨_,h⟩;cases h);refine aqT (Im _ m6) (Im _ m7) (Im _ mk) ((kept _ m6).trans h6) ((kept _ m7).trans h7) ((kept _ mk).trans hk) (by rw[xL,Ad];rfl) hO X2 (qJ.1.symm.trans us) (QB eS qJ (cr.le _ _ rk) u2) (QB eS qJ (cr.le _ _ r6) u3)
  ·subst he;obtain⟨Wl,_⟩:=Ca.resolve_left (by rintro⟨_,h⟩;cases h);refine Walk.mono (ZC (Im _ m7) ((kept _ m7).trans h7) hO X2) λM g w h=>.inr ⟨?_,h⟩;show cX i=U;rw[xL];cases e:search b (cB (aB b)) (λk=>decide (k=i)) b.pieces.length [] with
   |none=>rw[e] at Wl;cases Wl
   |some _=>rfl
end
end Go.Jn
namespace Go.Jn
open Go Go.Sim Go.Conc
open Go.ConcN (sumTo upd sumTo_upd upd_ne upd_same)
def apG(n:Nat):sumTo n (λ_=>0)=0:=by
 induction n with
 |zero=>rfl
 |succ n ih=>simp only[sumTo,ih]
def afM{X:Pm}{t:ε}{q:Nat->Nat}(hF:Fr X.P gs w t q g)(hN0:X.N0=gs.size)
 (iU:∀b,M.has b->b<w.heap.size/\b≠X.cL/\b≠X.cN)(bh:g.status=.running)(hW:Walk X.P D (StopA X X.n) M g w)
 (hL:w.heap[X.cL]?=J (.chan 0 #[] U 0 0 U))(hN:w.heap[X.cN]?=J (.chan 0 #[] U 0 0 U))(aw:X.cL≠X.cN)(hT:mE Ψ t)(zN:Ψ<=X.cN):
 ∃G,FI X w gs w t G:=by
 obtain⟨hr,mM⟩:=hW.tree;have h0:0<gs.size:=(Ϝ.1 hF.zero).1
 have known:∀k a,touchAt t k=J a->a.loc.isMemory=D->Knows t 0 k:=λk a ha hm=>(hF.il.known k a ha hm).elim id λh=>h.1.elim;refine⟨{j:=0,st:=λ_=>.no,mp:=.spawn,cp:=.no,act:=λi=>if i=0 then J ⟨M,g,w⟩ else H,q:=q,tr:=λ_=>hr},?_⟩;refine⟨hN0.symm,by omega,Nat.zero_le _,λh=>(by cases h),⟨λ⟨_,_,e⟩=>(by rcases e with e|e<;>cases e),λh=>(by cases h)⟩,λi _=>⟨λ_=>Nat.zero_le _,λ_=>rfl⟩,⟨g,hF.zero,M,w,rfl,bh,mM⟩,λi hi=>absurd hi (Nat.not_lt_zero _),λh=>(by cases h),
  λi x h1 _ hx=>hF.lv i x h1 hx,λi h1 _=>?_,λi hi=>?_,apG _,λ_ _ _=>rfl,λ⟨_,_,e⟩=>(by cases e),λ⟨_,e⟩=>(by cases e),λ⟨_,_,e⟩=>(by cases e),⟨λi j hj=>?_,λi i' j j' hii hj rQ=>?_,λi j hj=>?_,hF.il.seen,hF.nd,hF.il.clean,λi j hj k a ha b hb _=>?_,?_,?_⟩,
  ⟨0,hL⟩,⟨0,hN⟩,aw,⟨ϊ _,rfl,rfl,rfl⟩,λk a ha hm i _ _=>known k a ha hm,λk i hi=>?_,λi _ hq=>(by cases hq),λ_ k a ha=>?_,λh=>(by cases h)⟩
 ·exact if_neg (by omega)
 ·exact if_neg (by omega)
 ·by_cases e:i=0
  ·simp only[e,if_true,Đ] at hj;subst hj;exact bR.refl _ _
  ·simp only[e,if_false] at hj;cases hj
 ·by_cases e:i=0
  ·have e':i'≠0:=λx=>hii (e.trans x.symm);simp only[e',if_false] at rQ;cases rQ
  ·simp only[e,if_false] at hj;cases hj
 ·by_cases e:i=0
  ·simp only[e,if_true,Đ] at hj;subst hj;exact iU
  ·simp only[e,if_false] at hj;cases hj
 ·by_cases e:i=0
  ·subst e;refine known k a ha ?_;rcases hb with hb| ⟨c,hb,_⟩<;>rw[hb]<;>rfl
  ·simp only[e,if_false] at hj;cases hj
 ·exact(Ϝ.1 hL).1
 ·exact(Ϝ.1 hN).1
 ·unfold Trace.g? at hi;obtain⟨op,ag,e⟩:=ď.1 hi;rw[<-e];exact hF.gb op (Ń ag)
 ·obtain⟨op,ag,cH⟩:=touch_of ha;exact hT op (mem_of_getElem? ag) a cH _ zN
end Go.Jn
namespace Go.Jn
open Go Go.Proofs Go.Sim Go.Conc
def oY:Ϙ:=aS (aS (aS BB))
def rv:Ϙ:=bp (aS BB)
def p0:Array Ó:=opsOf (bp BB)
def p5:Array Ó:=opsOf (bp (bp oY))
def wE:Ϙ:=so (so (aS (bp oY)))
def p6:Array Ó:=opsOf (bp wE)
def p7:Array Ó:=opsOf (bp (so (bp (aS (aS wE)))))
def p8:Array Ó:=opsOf (aS (so (bp (aS (aS wE)))))
def p9:Array Ó:=opsOf (aS (aS (aS wE)))
def yy:Ϙ:=aS oY
def JI:Array Ó:=opsOf (bp yy)
def CU:Array Ó:=opsOf (bp (aS yy))
def vN:Ϙ:=aS (aS yy)
def F5:Array Ó:=opsOf (bp (bp vN))
def rq:Ϙ:=so (so (aS (bp vN)))
def vL:Array Ó:=opsOf (bp rq)
def JJ:Array Ó:=opsOf (bp (so (aS (aS rq))))
def sj:Array Ó:=opsOf (aS (so (aS (aS rq))))
def tB:Ϙ:=aS vN
def CV:Array Ó:=opsOf (bp tB)
def AP:Array Ó:=opsOf (bp (aS tB))
def SL:Tryz.f38.body=J (.seq (.region 0 p0 U) (.seq rv (.seq (.region 4 jB D) oY))):=rfl
def anJ:oY=.seq (.seq (.region 5 p5 U) (.block 0 (.loop wE))) yy:=rfl
def Sj:wE=.seq (.region 6 p6 U) (.seq (.cond (.tmp 25) .skip (.exit 0)) (.seq (.block 1 (.seq (.region 7 p7 U) (.region 8 p8 U))) (.region 9 p9 U))):=rfl
def anG:yy=.seq (.region 10 JI U) (.seq (.region 11 CU U) vN):=rfl
def anH:vN=.seq (.seq (.region 12 F5 U) (.block 2 (.loop rq))) tB:=rfl
def anI:tB=.seq (.region 16 CV U) (.seq (.region 17 AP U) .ret):=rfl
def m00:∃o,p0[0]?=J o/\o.op=.box 26 (.tmp 0)/\o.dst=J 1/\o.guard=H:=⟨_,rfl,rfl,rfl,rfl⟩
def m01:∃o,p0[1]?=J o/\o.op=.assign (.const (E H 0 0))/\o.dst=J 2/\o.guard=H:=⟨_,rfl,rfl,rfl,rfl⟩
def m02:∃o,p0[2]?=J o/\o.op=.assign (.const (Y I 0))/\o.dst=J 3/\o.guard=H:=⟨_,rfl,rfl,rfl,rfl⟩
def m50:∃o,p5[0]?=J o/\o.op=.fieldAddr 26 (.tmp 1) 2/\o.dst=J 21/\o.guard=H:=⟨_,rfl,rfl,rfl,rfl⟩
def m51:∃o,p5[1]?=J o/\o.op=.load 23 (.tmp 21)/\o.dst=J 22/\o.guard=H:=⟨_,rfl,rfl,rfl,rfl⟩
def m52:∃o,p5[2]?=J o/\o.op=.call {callee:=.builtin .len,args:=#[.tmp 22],argTypes:=#[23]}/\o.dst=J 23/\o.guard=H:=⟨_,rfl,rfl,rfl,rfl⟩
def m53:∃o,p5[3]?=J o/\o.op=.move (.const (Y I 0))/\o.dst=J 24/\o.guard=H:=⟨_,rfl,rfl,rfl,rfl⟩
def Xt:∃o,p6[0]?=J o/\o.op=.binOp .lss 3 (.tmp 24) (.tmp 23) 3/\o.dst=J 25/\o.guard=H:=⟨_,rfl,rfl,rfl,rfl⟩
def m70:∃o,p7[0]?=J o/\o.op=.move (.tmp 24)/\o.dst=J 26/\o.guard=H:=⟨_,rfl,rfl,rfl,rfl⟩
def m71:∃o,p7[1]?=J o/\o.op=.alloc 3/\o.dst=J 8/\o.guard=H:=⟨_,rfl,rfl,rfl,rfl⟩
def m72:∃o,p7[2]?=J o/\o.op=.store 3 (.tmp 8) (.tmp 26)/\o.dst=H/\o.guard=H:=⟨_,rfl,rfl,rfl,rfl⟩
def m80:∃o,p8[0]?=J o/\o.op=.makeFunc (.func 120) #[] #[.tmp 7,.tmp 1,.tmp 8,.tmp 6]/\o.dst=J 27/\o.guard=H:=⟨_,rfl,rfl,rfl,rfl⟩
def m81:∃o,p8[1]?=J o/\o.op=.go {callee:=.value (.tmp 27),args:=#[],argTypes:=#[]}/\o.dst=H/\o.guard=H:=⟨_,rfl,rfl,rfl,rfl⟩
def m90:∃o,p9[0]?=J o/\o.op=.binOp .add 3 (.tmp 24) (.const (Y I 1)) 3/\o.dst=J 28/\o.guard=H:=⟨_,rfl,rfl,rfl,rfl⟩
def m91:∃o,p9[1]?=J o/\o.op=.move (.tmp 28)/\o.dst=J 24/\o.guard=H:=⟨_,rfl,rfl,rfl,rfl⟩
def akH:∃o,JI[0]?=J o/\o.op=.makeFunc (.func 124) #[] #[.tmp 1,.tmp 7,.tmp 6]/\o.dst=J 29/\o.guard=H:=⟨_,rfl,rfl,rfl,rfl⟩
def akI:∃o,JI[1]?=J o/\o.op=.go {callee:=.value (.tmp 29),args:=#[],argTypes:=#[]}/\o.dst=H/\o.guard=H:=⟨_,rfl,rfl,rfl,rfl⟩
def akJ:∃o,CU[0]?=J o/\o.op=.assign (.const (E H 0 0))/\o.dst=J 9/\o.guard=H:=⟨_,rfl,rfl,rfl,rfl⟩
def akK:∃o,F5[0]?=J o/\o.op=.load 154 (.tmp 6)/\o.dst=J 30/\o.guard=H:=⟨_,rfl,rfl,rfl,rfl⟩
def PH:∃o,vL[0]?=J o/\o.op=.recv 154 (.tmp 30) D/\o.dst=J 31/\o.guard=H:=⟨_,rfl,rfl,rfl,rfl⟩
def Xs:∃o,vL[1]?=J o/\o.op=.extract (.tmp 31) 1/\o.dst=J 32/\o.guard=H:=⟨_,rfl,rfl,rfl,rfl⟩
def akL:∃o,JJ[0]?=J o/\o.op=.extract (.tmp 31) 0/\o.dst=J 33/\o.guard=H:=⟨_,rfl,rfl,rfl,rfl⟩
def akM:∃o,JJ[1]?=J o/\o.op=.assign (.tmp 33)/\o.dst=J 10/\o.guard=H:=⟨_,rfl,rfl,rfl,rfl⟩
def akS:∃o,AP[0]?=J o/\o.op=.move (.tmp 9)/\o.dst=J 40/\o.guard=H:=⟨_,rfl,rfl,rfl,rfl⟩
def akT:∃o,AP[1]?=J o/\o.op=.assign (.tmp 40)/\o.dst=J 2/\o.guard=H:=⟨_,rfl,rfl,rfl,rfl⟩
def akU:∃o,AP[2]?=J o/\o.op=.assign (.const (Y I 0))/\o.dst=J 3/\o.guard=H:=⟨_,rfl,rfl,rfl,rfl⟩
def s0:p0.size=3:=rfl
def s5:p5.size=4:=rfl
def s6:p6.size=1:=rfl
def s7:p7.size=3:=rfl
def s8:p8.size=2:=rfl
def s9:p9.size=2:=rfl
def s10:JI.size=2:=rfl
def s11:CU.size=1:=rfl
def s12:F5.size=1:=rfl
def Yl:vL.size=2:=rfl
def s14:JJ.size=2:=rfl
def s17:AP.size=3:=rfl
def Ja:∃i,ϋ.info? 3=J i/\i.zero=J (Y I 0)/\i.size=1:=⟨_,rfl,rfl,rfl⟩
def anF:Tryz.f38.results=#[.tmp 2,.tmp 3]:=rfl
def al7:(Tryz.f38.name== "runtime.NumGoroutine")=U:=by decide+kernel
def adG:C0.clean rv:=by show cC ϋ G0 rv=D;decide+kernel
def adz:C0.clean (.region 15 sj U):=by show cC ϋ G0 (.region 15 sj U)=D;decide+kernel
def adA:C0.clean (.region 16 CV U):=by show cC ϋ G0 (.region 16 CV U)=D;decide+kernel
def anU(t:Array z)(w:N)(ho:o.op=.box e (.tmp n))(hn:t.getD n L=v):
 (execOp (aX t) o).runT P w #[]=(.ok (.value (π (J ⟨w.heap.size,0,H⟩))) (w.alloc (.cells v.cells e)),#[]):=by
 have e1:aX t (.tmp n)=v:=hn;unfold execOp;rw[ho];simp only[Instr.box,e1,newVar,newRow,newObj,bind,Ϭ,ϧ,pure,World.alloc]
def af7{G:Nat->Bool}(hG:∀g,G g=D->Z g g)(h:aV Z tl t):re G Z (aX tl) (aX t):=by have:=Ec (f:=0) (k:=[]) (k':=[]) (d:=[]) (d':=[]) (m:=.run) (kd:=.normal) (fl:=.normal) (r:=H) (r':=H) hG h;rwa[uU,uU] at this
section
variable {P:ϗ}{F:Array Func}{C:bX}{G:Nat->Bool}
def ZB(ζ:Env P F C G){Stop:Sim.ay->ϐ->N->Prop}{M:Sim.ay}
 (ho:ops[i]?=J o)(hg:ϸ o (À ops t)=D)(hk:(kd==.early)=U)(jy:k8 P G o=D)(ht:aV Z tl t)(hW:cg C Z wl w')(hG:∀g,G g=D->Z g g)(hf:Fits M Z wl)(iU:∀b,M.has b->b<w'.heap.size)
 {QL:z->N->Prop}(hl:∀hr,∃v aa,(execOp (aX tl) o).run (tw P F) (bq wl hr)=.ok (.value v) aa/\QL v aa)
 (h:∀v v' yG aM b6 aF,QL v yG->aj aM v v'->cg C aM yG aF->iO M Z wl w' b6 aM yG aF->Fits b6 aM yG->(∀b,b6.has b->b<aF.heap.size)->Walk P main Stop b6 (rg f (aA t o.dst v') (.inRegion ops rest::k) θ kd cs) aF):
 Walk P main Stop M (rg f t (.inRegion ops (i::rest)::k) θ kd cs) w':=by
 refine Dg ho hg hk λaa hw=>?_;have hR:=hW.keep hf hw
 let hr:Tape:=λj q=>aa.tape (aa.drawn+(j - wl.drawn)) q
 obtain⟨v,yG,T,hq⟩:=hl hr;have eL:iP C Z (bq wl hr) aa:=(hR.left (aa:=bq wl hr) rfl).rel λj q=>by show aa.tape (aa.drawn+(wl.drawn+j - wl.drawn)) q=aa.tape (aa.drawn+j) q;rw[Nat.add_sub_cancel_left]
 obtain⟨aM,n',aF,eM,k1,k2,k3,k4,k5⟩:=ep.execOp ζ o jy (af7 hG ht) Z Z.le_refl (bq wl hr) aa #[] eL (.value v) yG T;cases k2 with
 |value hv=>
  rename_i v';have ER:∀b,M.has b->b<aa.heap.size:=λb hb=>Ϣ (iU b hb) hw.size
  have MX:∀b,b<aa.heap.size->¬M.O b->∀a,Z a b->∃o,wl.heap[a]?=J o/\mw o:=λb _ hb a ha=>((hf a b ha).resolve_left hb).2;have Hm:eZ M aa aF eM:=by
   refine⟨k4.gO,λb hb hO=>k4.jd b hb (MX b hb hO),k4.nf,k4.yo,k4.yp,λe he=>?_⟩;rcases k5 e he with⟨b,a,e1,e2,e3,e4⟩ |x
   ·refine .inl ⟨b,e1,e2,?_⟩;rcases k4.new a b e3 with x| ⟨x,y⟩
    ·rcases hf a b x with o| ⟨r,o,ho,fo⟩
     ·exact⟨.inl (.inl o),λ_=>.inl o⟩
     ·refine⟨.inr r,λFl=>?_⟩;rcases e4 with e4| ⟨o',pJ,e4⟩
      ·have:=hW.dL a b x;have e4:wl.heap.size<=a:=e4;omega
      ·have e5:wl.heap[a]?=J o':=pJ;rw[ho] at e5;obtain rfl:=ϟ e5;exact absurd fo (e4 Fl)
    ·have hb:=k3.dq a b e3;exact⟨.inl (.inr ⟨y,hb⟩),λ_=>.inr ⟨y,hb⟩⟩
   ·exact .inr x
  have vG:(execOp (aX t) o).runT P aa #[]=(.ok (.value v') aF,eM):=by rw[k1];simp
  refine⟨v',aF,eM,.inl vG,Hm,?_⟩;refine h v v' yG aM (M.grow aa aF) aF hq hv ⟨k3.dL,k3.dq,k3.fn,k3.inj,k3.obj⟩ ((iO.keep hw).trans (ry:=M.grow aa aF) ⟨k4.le,k4.new,k4.oa,k4.gO,k4.lD,λb hb Iz=>k4.jd b (ER b hb) Iz,rfl,λ_ x=>.inl x,λ_ x=>x,k4.nf,k4.yo,k4.yp⟩ iU) (λa b hab=>?_) (BO Hm ER);rcases k4.new a b hab with x| ⟨x,y⟩
  ·rcases hf a b x with o| ⟨r,o,ho,fo⟩
   ·exact .inl (.inl o)
   ·exact .inr ⟨r,o,k4.lD a o ho fo,fo⟩
  ·exact .inl (.inr ⟨y,k3.dq a b hab⟩)
end
end Go.Jn
namespace Go.Jn
open Go Go.Proofs Go.Sim Go.Conc Go.Tw
def ext(Z:Ren)(a0 b0:Nat):Ren:=λa b=>Z a b\/(a=a0/\b=b0)
def zk(Z:Ren)(a0 b0:Nat):Z.le (ext Z a0 b0):=λ_ _ h=>.inl h
def wS{o:Obj}(hW:cg C Z wl w')(hq:w'.heap[q]?=J o')(Aa:∀a,¬Z a q)(ho:jq C (ext Z wl.heap.size q) o o'):
 cg C (ext Z wl.heap.size q) (wl.alloc o) w' where
 dL a b h:=by
  rw[fy];rcases h with h| ⟨rfl,rfl⟩
  ·have:=hW.dL a b h;omega
  ·omega
 dq a b h:=by
  rcases h with h| ⟨rfl,rfl⟩
  ·exact hW.dq a b h
  ·exact(Ϝ.1 hq).1
 fn a b b' h h':=by
  rcases h with h| ⟨rfl,rfl⟩
  ·rcases h' with h'| ⟨rfl,rfl⟩
   ·exact hW.fn a b b' h h'
   ·have:=hW.dL _ _ h;omega
  ·rcases h' with h'| ⟨_,rfl⟩
   ·have:=hW.dL _ _ h';omega
   ·rfl
 inj a a' b h h':=by
  rcases h with h| ⟨rfl,rfl⟩
  ·rcases h' with h'| ⟨rfl,rfl⟩
   ·exact hW.inj a a' b h h'
   ·exact absurd h (Aa a)
  ·rcases h' with h'| ⟨rfl,_⟩
   ·exact absurd h' (Aa a')
   ·rfl
 obj a b x h hx:=by
  rcases h with h| ⟨rfl,rfl⟩
  ·rw[lz (hW.dL a b h)] at hx;obtain⟨y,h1,h2⟩:=hW.obj a b x h hx;exact⟨y,h1,h2.mono (zk Z _ _)⟩
  ·rw[kQ] at hx;cases hx;exact⟨o',hq,ho⟩
def uQ(hW:cg C Z wl w')(V:w'.heap.size<=bz.heap.size)(hk:∀a b,Z a b->bz.heap[b]?=w'.heap[b]?):cg C Z wl bz where
 dL:=hW.dL
 dq a b h:=Ϣ (hW.dq a b h) V
 fn:=hW.fn
 inj:=hW.inj
 obj a b o h ho:=by obtain⟨o',h1,h2⟩:=hW.obj a b o h ho;exact⟨o',(hk a b h).trans h1,h2⟩
structure LW(b:eR)(Z:Ren)(wl:N)(pv bv tv:z)(B lb l6 l7 bk p6 p7:Nat)(M:Sim.ay)(w':N):Prop where
 core:cg C0 Z wl w'
 iy:Z 0 0
 nb:bO wl.heap
 has:∀a q,Z a q->M.has q
 fixed:∀a q,Z a q->∃o,wl.heap[a]?=J o/\mw o
 rb:Z lb bk
 r6:Z l6 p6
 r7:Z l7 p7
 hB:B<=wl.heap.size
 book:aQ wl B b pv bv tv
 c0: wl.cell? ⟨lb,0,H⟩=J (Y I b.ab)
 c1: wl.cell? ⟨lb,1,H⟩=J pv
 c2: wl.cell? ⟨lb,2,H⟩=J bv
 c3: wl.cell? ⟨lb,3,H⟩=J tv
structure St(b:eR)(Z:Ren)(wl:N)(pv bv tv:z)(B lb l6 l7 bk p6 p7 cN cL n NB:Nat)(wB:N)(M:Sim.ay)(w:N):Prop where
 lw:LW b Z wl pv bv tv B lb l6 l7 bk p6 p7 M w
 low:∀q,M.has q->q<w.heap.size
 m6:M.has p6
 m7:M.has p7
 mb:M.has bk
 h6:w.heap[p6]?=J (Ξ #[.chan (J cN)] 154 (0,0))
 h7:w.heap[p7]?=J (Ξ #[.chan (J cL)] 155 (0,0))
 hb:∃bc e fb A c,w.heap[bk]?=J (.cells bc e fb)/\bc[2]?=J (.slice A n c)
 old:∀q,q<NB->M.has q/\w.heap[q]?=wB.heap[q]?
 nb:NB<=w.heap.size
 nc:¬M.has cN/\¬M.has cL
 lc:cN<w.heap.size/\cL<w.heap.size
section
variable {b:eR}{Z:Ren}{wl wB w bz:N}{pv bv tv:z}{B lb l6 l7 bk p6 p7 cN cL n NB:Nat}{M M':Sim.ay}
def St.to(h:(St b Z wl pv bv tv B lb l6 l7 bk p6 p7 cN cL n NB wB) M w)(V:w.heap.size<=bz.heap.size)(hk:∀q,M.has q->bz.heap[q]?=w.heap[q]?)(hM:∀q,M.has q->M'.has q)(hl:∀q,M'.has q->q<bz.heap.size)(hc:¬M'.has cN/\¬M'.has cL):(St b Z wl pv bv tv B lb l6 l7 bk p6 p7 cN cL n NB wB) M' bz:=by
 obtain⟨⟨core,iy,nb,has,fixed,rb,r6,r7,hB,book,c0,c1,c2,c3⟩,low,m6,m7,mb,h6,h7,⟨bc,e,fb,A,c,ai,an⟩,old,eQ,nc,lc⟩:=h;exact⟨⟨uQ core V λa q hq=>hk q (has a q hq),iy,nb,λa q hq=>hM q (has a q hq),fixed,rb,r6,r7,hB,book,c0,c1,c2,c3⟩,hl,hM _ m6,hM _ m7,hM _ mb,(hk _ m6).trans h6,(hk _ m7).trans h7,⟨bc,e,fb,A,c,(hk _ mb).trans ai,an⟩,
  λq hq=>⟨hM q (old q hq).1,(hk q (old q hq).1).trans (old q hq).2⟩,Ϥ eQ V,hc,Ϣ lc.1 V,Ϣ lc.2 V⟩
def St.keep(h:(St b Z wl pv bv tv B lb l6 l7 bk p6 p7 cN cL n NB wB) M w)(k:bR M w bz):(St b Z wl pv bv tv B lb l6 l7 bk p6 p7 cN cL n NB wB) M bz:=h.to k.size k.kept (λ_ h=>h) (λq hq=>Ϣ (h.low q hq) k.size) h.nc
def St.shared(h:(St b Z wl pv bv tv B lb l6 l7 bk p6 p7 cN cL n NB wB) M w):(St b Z wl pv bv tv B lb l6 l7 bk p6 p7 cN cL n NB wB) M.shared w:=h.to (ϊ _) (λ_ _=>rfl) (λ_ h=>.inr h) (λq hq=>h.low q (hq.resolve_left id)) ⟨λx=>h.nc.1 (x.resolve_left id),λx=>h.nc.2 (x.resolve_left id)⟩
def St.alloc(h:(St b Z wl pv bv tv B lb l6 l7 bk p6 p7 cN cL n NB wB) M w)(o:Obj):(St b Z wl pv bv tv B lb l6 l7 bk p6 p7 cN cL n NB wB) (M.grow w (w.alloc o)) (w.alloc o):=by
 refine h.to (by rw[fy];omega) (λq hq=>lz (h.low q hq)) (λq hq=>hq.imp .inl id) (λq hq=>?_) ⟨λhq=>?_,λhq=>?_⟩
 ·rw[fy];rcases hq with(hq|hq) |hq
  ·have:=h.low q (.inl hq);omega
  ·rw[fy] at hq;omega
  ·have:=h.low q (.inr hq);omega
 ·rcases hq with(hq|hq) |hq
  ·exact h.nc.1 (.inl hq)
  ·have:=h.lc.1;omega
  ·exact h.nc.1 (.inr hq)
 ·rcases hq with(hq|hq) |hq
  ·exact h.nc.2 (.inl hq)
  ·have:=h.lc.2;omega
  ·exact h.nc.2 (.inr hq)
end
def sr(i:Nat):z:=Y I i
def Zq{b c:Nat}(h1:t[a]?=J x)(h2:t[b]?=J y)(h3:t[c]?=J υ):(#[Operand.tmp a,.tmp b,.tmp c].map (aX t))=#[x,y,υ]:=by have e1:aX t (.tmp a)=x:=cT h1;have e2:aX t (.tmp b)=y:=cT h2;have e3:aX t (.tmp c)=υ:=cT h3;simp only[ī,Ę,ĥ,e1,e2,e3]
def Zr{b c:Nat}{u:z}(h1:t[a]?=J x)(h2:t[b]?=J y)(h3:t[c]?=J υ)(h4:t[d]?=J u):(#[Operand.tmp a,.tmp b,.tmp c,.tmp d].map (aX t))=#[x,y,υ,u]:=by have e1:aX t (.tmp a)=x:=cT h1;have e2:aX t (.tmp b)=y:=cT h2;have e3:aX t (.tmp c)=υ:=cT h3;have e4:aX t (.tmp d)=u:=cT h4;simp only[ī,Ę,ĥ,e1,e2,e3,e4]
section
variable {b:eR}{Z:Ren}{wl wB:N}{pv bv tv:z}{B lb l6 l7 bk p6 p7 cN cL n N0 NB:Nat}{cX:Nat->Bool}{End:List Nat->Sim.ay->ϐ->N->Prop}
structure kO(bk p6 p7:Nat)(t:Array z):Prop where
 sz:t.size=41
 t1:t[1]?=J (π (J ⟨bk,0,H⟩))
 t6:t[6]?=J (π (J ⟨p6,0,H⟩))
 t7:t[7]?=J (π (J ⟨p7,0,H⟩))
def kO.put(h:kO bk p6 p7 t)(hd:d≠1/\d≠6/\d≠7):kO bk p6 p7 (aA t (J d) v):=
 ⟨by simp[aA,h.sz],(bP hd.1).trans h.t1,(bP hd.2.1).trans h.t6,(bP hd.2.2).trans h.t7⟩
def apf(xL:∀i,cX i=(search b (cB (aB b)) (λk=>decide (k=i)) b.pieces.length []).isNone)(ag:bT b 0=0){M:Sim.ay}(h:(St b Z wl pv bv tv B lb l6 l7 bk p6 p7 cN cL n NB wB) M w)(mk:M.has pk)(hk:w.heap[pk]?=J (Ξ #[Y I i] 3 (0,0)))(Aa:∀a,¬Z a pk):
 Walk ϋ U (W1 (Pm.mk ϋ n N0 cL cN cX sr End) i) M.shared (born ϋ {target:=.fn (.func 120) #[π (J ⟨p7,0,H⟩),π (J ⟨bk,0,H⟩),π (J ⟨pk,0,H⟩),π (J ⟨p6,0,H⟩)],args:=#[]}) w:=by
 have hW:=wS (o:=.cells #[Y I i] 3 (0,1)) h.lw.core hk Aa (.cells 3 ⟨rfl,λj h1 h2=>by
  have:j=0:=by simp at h1;omega
  subst this;exact .int _ _⟩ (.inr ⟨rfl,by simp⟩))
 have st:=(Δ.refl wl).alloc h.lw.hB (Ξ #[Y I i] 3 (0,1));have old:∀ {j:Nat} {v:z},wl.cell? ⟨lb,j,H⟩=J v->(wl.alloc (Ξ #[Y I i] 3 (0,1))).cell? ⟨lb,j,H⟩=J v:=λhv=>(ð wl _ _ (h.lw.core.dL _ _ h.lw.rb)).trans hv
 refine worker (val:=sr) (Z:=ext Z wl.heap.size pk) (w:=wl.alloc (Ξ #[Y I i] 3 (0,1))) (b:=b) (pv:=pv) (bv:=bv) (tv:=tv) (B:=B) (lb:=lb) (lk:=wl.heap.size) (l6:=l6) (l7:=l7) hW (.inl h.lw.iy) ?_ (λ_ h=>h) (λq hq=>h.low q (hq.resolve_left id)) ?_ (.inl h.lw.rb) (.inr ⟨rfl,rfl⟩) (.inl h.lw.r6) (.inl h.lw.r7) (.inr h.m6) (.inr h.m7) (.inr mk) (by rw[fy];exact Akm h.lw.hB) (h.lw.book.still st) ag (old h.lw.c0) (old h.lw.c1) (old h.lw.c2) (old h.lw.c3) ?_ h.h6 h.h7 hk (xL i)
 ·rintro a q (hq| ⟨rfl,rfl⟩)
  ·obtain⟨o,ho,fo⟩:=h.lw.fixed a q hq;exact .inr ⟨h.lw.has a q hq,o,(lz (h.lw.core.dL _ _ hq)).trans ho,fo⟩
  ·exact .inr ⟨mk,_,kQ,⟨rfl,by simp⟩⟩
 ·exact h.lw.nb.push (λh=>h)
 ·exact mH kQ rfl rfl
def spawns(xL:∀i,cX i=(search b (cB (aB b)) (λk=>decide (k=i)) b.pieces.length []).isNone)(ag:bT b 0=0)(hn:n<2 ^ 61)
 (cont:∀t M w,kO bk p6 p7 t->(St b Z wl pv bv tv B lb l6 l7 bk p6 p7 cN cL n NB wB) M w->Walk ϋ D (oB (Pm.mk ϋ n N0 cL cN cX sr End) n []) M (rg 38 t [.code (.seq (.region 11 CU U) vN)] [] .normal cs) w):
 ∀(r:Nat) (t:Array z) (M:Sim.ay) (w:N),r<=n->kO bk p6 p7 t->t[23]?=J (Y I n)->t[24]?=J (Y I ((n:Int) - r))->(St b Z wl pv bv tv B lb l6 l7 bk p6 p7 cN cL n NB wB) M w->
  Walk ϋ D (StopA (Pm.mk ϋ n N0 cL cN cX sr End) r) M (rg 38 t [.code wE,.inLoop wE,.inBlock 0,.code yy] [] .normal cs) w:=by
 intro r;induction r with
 |zero=>
  intro t M w T V t23 t24 hS;rw[Sj];refine fZ (iu ?_);rw[s6];obtain⟨o,ho,bL,hd,hg⟩:=Xt;refine dJ ho (cx hg) rfl (λaa _=>⟨_,JU t aa bL (cT t24) (cT t23),eE⟩) ?_;rw[hd];have di:kO bk p6 p7 (aA t (J 25) (.bool (decide ((n:Int) - ((0:Nat):Int)<n)))):=V.put ⟨by omega,by omega,by omega⟩
  have zz:(aA t (J 25) (.bool (decide ((n:Int) - ((0:Nat):Int)<n)))).getD 25 L=.bool U:=
   (iT (by rw[V.sz];omega)).trans (congrArg Value.bool (by simp))
  revert di zz
  generalize aA t (J 25) (.bool (decide ((n:Int) - ((0:Nat):Int)<n)))=t1;intro di zz;refine jl (fZ (Df (q:=U) zz ?_));refine Q3 (k':=[.code yy]) rfl ?_;rw[anG];refine fZ (iu ?_);rw[s10];obtain⟨o,ho,bL,hd,hg⟩:=akH;refine dJ ho (cx hg) rfl (λaa _=>⟨_,(Qk t1 aa bL).trans (by rw[Zq di.t1 di.t7 di.t6]),eE⟩) ?_;rw[hd];have Nh:(aA t1 (J 29) (.func (.func 124) #[] #[π (J ⟨bk,0,H⟩),π (J ⟨p7,0,H⟩),π (J ⟨p6,0,H⟩)])).getD 29 L=.func (.func 124) #[] #[π (J ⟨bk,0,H⟩),π (J ⟨p7,0,H⟩),π (J ⟨p6,0,H⟩)]:=iT (by rw[di.sz];omega)
  have dN:kO bk p6 p7 (aA t1 (J 29) (.func (.func 124) #[] #[π (J ⟨bk,0,H⟩),π (J ⟨p7,0,H⟩),π (J ⟨p6,0,H⟩)])):=di.put ⟨by omega,by omega,by omega⟩
  revert Nh dN
  generalize aA t1 (J 29) (.func (.func 124) #[] #[π (J ⟨bk,0,H⟩),π (J ⟨p7,0,H⟩),π (J ⟨p6,0,H⟩)])=t2;intro Nh dN;refine .stop λaa hk=>?_;obtain⟨o,ho,bL,hd,hg⟩:=akI;have gS:=hS.keep hk;obtain⟨bc,e,fb,A,c,ai,an⟩:=gS.hb;refine⟨rfl,_,_,YU (k:=[.code (.seq (.region 11 CU U) vN)]) ho (cx hg) rfl (by simp) (Yf t2 aa bL Nh),rfl,rfl,?_,?_⟩
  ·exact closer (.inr gS.mb) (.inr gS.m6) (.inr gS.m7) ai an gS.h6 gS.h7 hn
  ·rw[hd];exact jl (cont _ _ _ dN gS.shared)
 |succ r ih=>
  intro t M w T V t23 t24 hS;rw[Sj];refine fZ (iu ?_);rw[s6];obtain⟨o,ho,bL,hd,hg⟩:=Xt;refine dJ ho (cx hg) rfl (λaa _=>⟨_,JU t aa bL (cT t24) (cT t23),eE⟩) ?_;rw[hd];have di:kO bk p6 p7 (aA t (J 25) (.bool (decide ((n:Int) - ((r+1:Nat):Int)<n)))):=V.put ⟨by omega,by omega,by omega⟩
  have zz:(aA t (J 25) (.bool (decide ((n:Int) - ((r+1:Nat):Int)<n)))).getD 25 L=.bool D:=
   (iT (by rw[V.sz];omega)).trans (congrArg Value.bool (by have:(n:Int) - ((r+1:Nat):Int)<n:=(by omega);exact decide_eq_true this))
  have zy:(aA t (J 25) (.bool (decide ((n:Int) - ((r+1:Nat):Int)<n))))[23]?=J (Y I n):=(bP (by omega)).trans t23;have Ef:(aA t (J 25) (.bool (decide ((n:Int) - ((r+1:Nat):Int)<n))))[24]?=J (Y I ((n:Int) - ((r+1:Nat):Int))):=(bP (by omega)).trans t24
  revert di zz zy Ef
  generalize aA t (J 25) (.bool (decide ((n:Int) - ((r+1:Nat):Int)<n)))=t1;intro di zz zy Ef;obtain⟨i,hi⟩:∃i,i=n - (r+1):=⟨_,rfl⟩
  have bG:(n:Int) - ((r+1:Nat):Int)=(i:Int):=by omega
  rw[bG] at Ef;refine jl (fZ (Df (q:=D) zz ?_));refine Q7 (fZ (De (fZ (iu ?_))));rw[s7];obtain⟨o,ho,bL,hd,hg⟩:=m70;have e24:aX t1 (.tmp 24)=Y I i:=cT Ef;refine dJ ho (cx hg) rfl (λaa _=>⟨_,(run_move t1 aa bL).trans (by rw[e24]),eE⟩) ?_
  rw[hd];have dN:kO bk p6 p7 (aA t1 (J 26) (Y I i)):=di.put ⟨by omega,by omega,by omega⟩
  have Pp:(aA t1 (J 26) (Y I i))[26]?=J (Y I i):=eX (by rw[di.sz];omega);have Pn:(aA t1 (J 26) (Y I i))[23]?=J (Y I n):=(bP (by omega)).trans zy;have Po:(aA t1 (J 26) (Y I i))[24]?=J (Y I i):=(bP (by omega)).trans Ef
  revert dN Pp Pn Po
  generalize aA t1 (J 26) (Y I i)=t2;intro dN Pp Pn Po;obtain⟨o,ho,bL,hd,hg⟩:=m71;obtain⟨ti,mS,hz,eK⟩:=Ja;refine Dg ho (cx hg) rfl λaa hk=>?_;have gS:=hS.keep hk;refine⟨_,_,_,.inl (Qj t2 bL mS hz rfl aa),zg,?_⟩;rw[hd];have El:=gS.alloc (Ξ #[Y I 0] 3);obtain⟨pk,vu⟩:∃pk,pk=aa.heap.size:=⟨_,rfl⟩
  have Aa:∀a,¬Z a pk:=λa ha=>by have:=gS.lw.core.dq a pk ha;omega
  have BU:(M.grow aa (aa.alloc (Ξ #[Y I 0] 3))).O pk:=.inr ⟨by omega,by rw[fy];omega⟩;have NV:(aa.alloc (Ξ #[Y I 0] 3)).heap[pk]?=J (Ξ #[Y I 0] 3):=by rw[vu];exact kQ
  rw[<-vu];have iE:kO bk p6 p7 (aA t2 (J 8) (π (J ⟨pk,0,H⟩))):=dN.put ⟨by omega,by omega,by omega⟩
  have q8:(aA t2 (J 8) (π (J ⟨pk,0,H⟩)))[8]?=J (π (J ⟨pk,0,H⟩)):=eX (by rw[dN.sz];omega);have Qd:(aA t2 (J 8) (π (J ⟨pk,0,H⟩)))[26]?=J (Y I i):=(bP (by omega)).trans Pp;have Qb:(aA t2 (J 8) (π (J ⟨pk,0,H⟩)))[23]?=J (Y I n):=(bP (by omega)).trans Pn;have Qc:(aA t2 (J 8) (π (J ⟨pk,0,H⟩)))[24]?=J (Y I i):=(bP (by omega)).trans Po
  revert iE q8 Qd Qb Qc
  generalize aA t2 (J 8) (π (J ⟨pk,0,H⟩))=t3;intro iE q8 Qd Qb Qc
  revert El BU NV
  generalize M.grow aa (aa.alloc (Ξ #[Y I 0] 3))=M2;generalize aa.alloc (Ξ #[Y I 0] 3)=w2;intro El BU NV;obtain⟨o,ho,bL,hd,hg⟩:=m72;refine Dg ho (cx hg) rfl λsR jx=>?_;have Nw:=El.keep jx;have U0:=(jx.kept pk (.inl BU)).trans NV;refine⟨L,jV sR pk (Ξ #[Y I i] 3 (0,0)),_,.inr ⟨rfl,Qm t3 bL (cT q8) (cT Qd) rfl rfl mS eK sR U0⟩,MM BU,?_⟩
  rw[hd,Hx];have aw:∀q,M2.has q->q≠pk->(jV sR pk (Ξ #[Y I i] 3 (0,0))).heap[q]?=sR.heap[q]?:=λq _ hq=>yA (Θ hq)
  have ait:pk<sR.heap.size:=(Ϝ.1 U0).1;have xV:(jV sR pk (Ξ #[Y I i] 3 (0,0))).heap[pk]?=J (Ξ #[Y I i] 3 (0,0)):=Qt ait;have uZ:NB<=pk:=by have:=gS.nb;omega
  have eC:p6≠pk:=by have:=gS.low _ gS.m6;omega
  have oH:p7≠pk:=by have:=gS.low _ gS.m7;omega
  have dw:bk≠pk:=by have:=gS.low _ gS.mb;omega
  have Nx:(St b Z wl pv bv tv B lb l6 l7 bk p6 p7 cN cL n NB wB) M2 (jV sR pk (Ξ #[Y I i] 3 (0,0))):=by
   obtain⟨⟨core,iy,nb,has,fixed,rb,r6,r7,hB,book,c0,c1,c2,c3⟩,low,m6,m7,mb,h6,h7,⟨bc,e,fb,A,c,ai,an⟩,old,eQ,nc,lc⟩:=Nw;exact⟨⟨uQ core (by rw[sk];omega) λa q hq=>aw q (has a q hq) (by rintro rfl;exact Aa a hq),iy,nb,has,fixed,rb,r6,r7,hB,book,c0,c1,c2,c3⟩,λq hq=>by rw[sk];exact low q hq,m6,m7,mb,(aw _ m6 eC).trans h6,(aw _ m7 oH).trans h7,
    ⟨bc,e,fb,A,c,(aw _ mb dw).trans ai,an⟩,λq hq=>⟨(old q hq).1,(aw q (old q hq).1 (by omega)).trans (old q hq).2⟩,by rw[sk];exact eQ,nc,by rw[sk];exact lc⟩
  revert Nx xV
  generalize jV sR pk (Ξ #[Y I i] 3 (0,0))=w4;intro xV Nx;refine jl (iu ?_);rw[s8];obtain⟨o,ho,bL,hd,hg⟩:=m80;refine dJ ho (cx hg) rfl (λaa _=>⟨_,(Qk _ aa bL).trans (by rw[Zr (t:=aA t3 H L) iE.t7 iE.t1 q8 iE.t6]),eE⟩) ?_;rw[hd];have Ng:(aA t3 (J 27) (.func (.func 120) #[] #[π (J ⟨p7,0,H⟩),π (J ⟨bk,0,H⟩),π (J ⟨pk,0,H⟩),π (J ⟨p6,0,H⟩)])).getD 27 L=.func (.func 120) #[] #[π (J ⟨p7,0,H⟩),π (J ⟨bk,0,H⟩),π (J ⟨pk,0,H⟩),π (J ⟨p6,0,H⟩)]:=iT (by rw[iE.sz];omega)
  have vz:kO bk p6 p7 (aA t3 (J 27) (.func (.func 120) #[] #[π (J ⟨p7,0,H⟩),π (J ⟨bk,0,H⟩),π (J ⟨pk,0,H⟩),π (J ⟨p6,0,H⟩)])):=iE.put ⟨by omega,by omega,by omega⟩;have z23:(aA t3 (J 27) (.func (.func 120) #[] #[π (J ⟨p7,0,H⟩),π (J ⟨bk,0,H⟩),π (J ⟨pk,0,H⟩),π (J ⟨p6,0,H⟩)]))[23]?=J (Y I n):=(bP (by omega)).trans Qb;have z24:(aA t3 (J 27) (.func (.func 120) #[] #[π (J ⟨p7,0,H⟩),π (J ⟨bk,0,H⟩),π (J ⟨pk,0,H⟩),π (J ⟨p6,0,H⟩)]))[24]?=J (Y I i):=(bP (by omega)).trans Qc;show Walk ϋ D (StopA (Pm.mk ϋ n N0 cL cN cX sr End) (r+1)) M2 (rg 38 (aA t3 (J 27) (.func (.func 120) #[] #[π (J ⟨p7,0,H⟩),π (J ⟨bk,0,H⟩),π (J ⟨pk,0,H⟩),π (J ⟨p6,0,H⟩)])) _ _ _ _) w4
  revert Ng vz z23 z24
  generalize aA t3 (J 27) (.func (.func 120) #[] #[π (J ⟨p7,0,H⟩),π (J ⟨bk,0,H⟩),π (J ⟨pk,0,H⟩),π (J ⟨p6,0,H⟩)])=t4;intro Ng vz z23 z24;refine .stop λaqY oM=>?_;obtain⟨o,ho,bL,hd,hg⟩:=m81;have UO:=Nx.keep oM;have hw5:=(oM.kept pk (.inl BU)).trans xV;refine⟨rfl,_,_,YU ho (cx hg) rfl (by simp) (Yf t4 aqY bL Ng),rfl,rfl,?_,?_⟩
  ·show Walk ϋ U (W1 (Pm.mk ϋ n N0 cL cN cX sr End) (n - (r+1))) _ _ _;rw[<-hi];exact apf xL ag UO (.inl BU) hw5 Aa
  ·rw[hd];refine jl (acj (iu ?_));rw[s9];obtain⟨o,ho,bL,hd,hg⟩:=m90;refine dJ ho (cx hg) rfl (λaa _=>⟨_,Yc t4 aa bL (cT z24) rfl,eE⟩) ?_;rw[hd];obtain⟨o,ho,bL,hd,hg⟩:=m91;have Fl:IntKind.i64.wrap ((i:Int)+1)=(n:Int) - r:=by rw[wrap_small (by omega) (by omega)];omega
   rw[Fl];have Cr:kO bk p6 p7 (aA t4 (J 28) (Y I ((n:Int) - r))):=vz.put ⟨by omega,by omega,by omega⟩
   have y28:aX (aA t4 (J 28) (Y I ((n:Int) - r))) (.tmp 28)=Y I ((n:Int) - r):=iT (by rw[vz.sz];omega);refine dJ ho (cx hg) rfl (λaa _=>⟨_,(run_move _ aa bL).trans (congrArg (λv=>((Result.ok (Next.value v) aa,#[]):Result Next×Array Event)) y28),eE⟩) ?_;rw[hd];refine jl (Q5 ?_);exact ih _ _ _ (by omega) (Cr.put ⟨by omega,by omega,by omega⟩) ((bP (by omega)).trans ((bP (by omega)).trans z23)) (eX (by have:=Cr.sz;show 24<(aA t4 (J 28) (Y I ((n:Int) - r))).size;omega)) UO.shared
end
def MV(Z:Ren)(t:Array z):∃u:Array z,aV Z u t:=by refine⟨Aj2 λi:Fin t.size=>ì (sN Z t[i.1]),by simp,λi h1 h2=>?_⟩;rw[Aj3];exact Ï (sN Z t[i])
def F6(h:aV Z u t)(hv:aj Z v v')(ht:t[i]?=J v'):aV Z (u.setIfInBounds i v) t:=by
 refine⟨by simp[h.1],λj h1 h2=>?_⟩;rw[Array.getElem_setIfInBounds (by simpa using h1)];split
 ·rename_i e;subst e;rw[ā h2] at ht;rw[ϟ ht];exact hv
 ·exact h.2 j (by simpa using h1) h2
def anV(t:Array z)(w:N)(ho:o.op=.buildSlice 33 1 #[(0,.tmp n)])(hn:t.getD n L=v)(hv:v.cells=#[v]):
 (execOp (aX t) o).runT ϋ w #[]=(.ok (.value (E (J ⟨w.heap.size,0,H⟩) 1 1)) (w.alloc (Ξ #[v] 3)),#[]):=by
 have e1:aX t (.tmp n)=v:=hn;obtain⟨i,hi,hz,V⟩:=Ja;have hu:ϋ.underlying 33=J (.slice 3):=rfl;have hb:(Instr.buildSlice 33 1 #[(0,v)]).runT ϋ w #[]=(.ok (E (J ⟨w.heap.size,0,H⟩) 1 1) (w.alloc (Ξ #[v] 3)),#[]):=by
  have e3:¬ (1 * 1>2 ^ 24):=by decide
  have e4:¬ (1 * 1=0):=by decide
  simp only[Instr.buildSlice,Go.underlying,Go.program,Go.typeInfo,Go.sizeOf,Go.zeroValue,bind,Ϭ,ϧ,pure,hu,hi,V,hz,if_neg e3,if_neg e4,newRow,newObj,World.alloc];generalize hq:Instr.fill _ _ _=q;have h2:q=J #[v]:=by have e2:Array.range (1 * 1)=#[0]:=rfl;rw[<-hq,e2];simp[Instr.fill,hv]
  rw[h2];rfl
 unfold execOp;rw[ho];have e5:(#[(0,Operand.tmp n)].map λ(i,x)=>(i,aX t x))=#[(0,v)]:=by simp only[ī,Ę,ĥ,e1]
 show((Instr.buildSlice 33 1 (#[(0,Operand.tmp n)].map λ(i,x)=>(i,aX t x))).bind λv=>ł (Next.value v)).runT ϋ w #[]=_;rw[e5,qR,hb];rfl
def XW(hW:cg C Z wl w){base:Nat}{xs:List Int}(hv:aj Z v v')(h:wl.ownsRow base 3 1 v n (xs.map (Y I)))(hn:n≠0)(hb:∀a q,base<=a->Z a q->NR<=q):
 w.ownsRow NR 3 1 v' n (xs.map (Y I))/\∃a q cap,v=E (J ⟨a,0,H⟩) n cap/\v'=E (J ⟨q,0,H⟩) n cap/\Z a q/\∃cur,wl.heap[a]?=J (.cells cur 3 (0,0))/\cur.size≠0:=by
 obtain⟨hl,hc⟩:=h;rcases hc with⟨_,rfl⟩ | ⟨g,cap,cur,rfl,vd,hg,ey,oI,fh,tj⟩
 ·exact absurd rfl hn
 ·cases hv with
  |sliceDead=>exact absurd rfl hn
  |slice _ _ ha=>
   rename_i q;obtain⟨qb,qo,qs⟩:=q;obtain⟨h1,h2,h3⟩:=ha;simp only at h1 h2 h3;subst h2 h3;obtain⟨o',pJ,T⟩:=hW.obj _ _ _ h1 hg;cases T with
   | @cells _ c' _ _ ba hc hf=>
     have cq:ba=(0,0):=by
      rcases hf with hf|hf
      ·exact hf
      ·obtain⟨_,hf⟩:=hf;have:cur.size<=0:=hf;omega
     subst cq;refine⟨⟨hl,.inr ⟨qb,cap,c',rfl,hb _ _ vd h1,pJ,ey,oI,hc.1.symm.trans fh,?_⟩⟩,_,_,_,rfl,rfl,h1,cur,hg,by omega⟩;apply List.ext_getElem?;intro j;rw[<-tj];rw[Ł,Ł];split
     ·rename_i hj;rw[į,į];rcases hc.get? j with⟨e1,e2⟩ | ⟨x,y,e1,e2,e3⟩
      ·rw[e1,e2]
      ·rw[e1,e2];have hx:(cur.toList.take (n * 1))[j]?=J x:=(by rw[Ł,if_pos hj,į,e1]);rw[tj] at hx;rw[List.getElem?_map] at hx;obtain⟨υ,_,rfl⟩:=ď.1 hx;cases e3;rfl
     ·rfl
def akN:∃o,sj[0]?=J o/\o.op=.move (.tmp 9)/\o.dst=J 34/\o.guard=H:=⟨_,rfl,rfl,rfl,rfl⟩
def akO:∃o,sj[1]?=J o/\o.op=.move (.tmp 10)/\o.dst=J 35/\o.guard=H:=⟨_,rfl,rfl,rfl,rfl⟩
def akP:∃o,sj[2]?=J o/\o.op=.buildSlice 33 1 #[(0,.tmp 35)]/\o.dst=J 36/\o.guard=H:=⟨_,rfl,rfl,rfl,rfl⟩
def akQ:∃o,sj[3]?=J o/\o.op=.call {callee:=.builtin .append,args:=#[.tmp 34,.tmp 36],argTypes:=#[33,33]}/\o.dst=J 37/\o.guard=H:=⟨_,rfl,rfl,rfl,rfl⟩
def akR:∃o,sj[4]?=J o/\o.op=.assign (.tmp 37)/\o.dst=J 9/\o.guard=H:=⟨_,rfl,rfl,rfl,rfl⟩
def s15:sj.size=5:=rfl
def amQ{id:Nat}{d:Bool}(h:C0.clean (.region id ops d))(ho:ops[i]?=J o):k8 ϋ G0 o=D:=by
 have h:cC ϋ G0 (.region id ops d)=D:=h;have h:ops.all (k8 ϋ G0)=D:=by unfold cC at h;simpa using h
 exact ħ.1 h o (Ń ho)
def anS{P:ϗ}{tl:Array z}{w aa:N}{v v' x:z}(ho:o.op=.call {callee:=.builtin .append,args:=#[.tmp 34,.tmp 36],argTypes:=#[33,33]})(Jo:tl.getD 34 L=v)(h36:tl.getD 36 L=x)
 (T:(Builtin.append_ #[33,33] o.type #[v,x]).run P w=.ok v' aa):(execOp (aX tl) o).run P w=.ok (.value v') aa:=by
 have e1:aX tl (.tmp 34)=v:=Jo;have e2:aX tl (.tmp 36)=x:=h36;unfold execOp;rw[ho]
 simp only[resolve,ī,Ę,ĥ,e1,e2];show((Builtin.append_ #[33,33] o.type #[v,x]).bind λv=>ł (Next.value v)).run P w=_;rw[run_bind,T];rfl
section
variable {b:eR}{Z:Ren}{wl wB:N}{pv bv tv:z}{B lb l6 l7 bk p6 p7 cN cL n N0 NB NR:Nat}
def St.to2{M M':Sim.ay}(h:(St b Z wl pv bv tv B lb l6 l7 bk p6 p7 cN cL n NB wB) M w)(T:∀a q,Z a q->q<NR)(hN:NB<=NR)(V:w.heap.size<=bz.heap.size)(hk:∀q,M.has q->q<NR->bz.heap[q]?=w.heap[q]?)(hM:∀q,M.has q->M'.has q)(hl:∀q,M'.has q->q<bz.heap.size)(hc:¬M'.has cN/\¬M'.has cL):(St b Z wl pv bv tv B lb l6 l7 bk p6 p7 cN cL n NB wB) M' bz:=by
 obtain⟨⟨core,iy,nb,has,fixed,rb,r6,r7,hB,book,c0,c1,c2,c3⟩,low,m6,m7,mb,h6,h7,⟨bc,e,fb,A,c,ai,an⟩,old,eQ,nc,lc⟩:=h;exact⟨⟨uQ core V λa q hq=>hk q (has a q hq) (T a q hq),iy,nb,λa q hq=>hM q (has a q hq),fixed,rb,r6,r7,hB,book,c0,c1,c2,c3⟩,hl,hM _ m6,hM _ m7,hM _ mb,(hk _ m6 (T _ _ r6)).trans h6,(hk _ m7 (T _ _ r7)).trans h7,⟨bc,e,fb,A,c,(hk _ mb (T _ _ rb)).trans ai,an⟩,
  λq hq=>⟨hM q (old q hq).1,(hk q (old q hq).1 (by omega)).trans (old q hq).2⟩,Ϥ eQ V,hc,Ϣ lc.1 V,Ϣ lc.2 V⟩
structure RI(NR:Nat)(aD:List Nat)(t:Array z)(M:Sim.ay)(w:N):Prop where
 own:∃ov,t[9]?=J ov/\w.ownsRow NR 3 1 ov aD.length ((aD.map λi:Nat=>(i:Int)).map (Y I))/\∀g k c,ov=E (J g) k c->M.O g.block
 le:NR<=w.heap.size
 nz:aD=[]->t[9]?=J (E H 0 0)
def P2{base n:Nat}{xs:List z}(h:w.ownsRow base 3 1 v n xs)(hk:∀g k c,v=E (J g) k c->aa.heap[g.block]?=w.heap[g.block]?):aa.ownsRow base 3 1 v n xs:=by
 refine⟨h.1,?_⟩;rcases h.2 with h0| ⟨g,cap,cur,rfl,vd,hg,h4⟩
 ·exact .inl h0
 ·exact .inr ⟨g,cap,cur,rfl,vd,(hk _ _ _ rfl).trans hg,h4⟩
def RI.keep{M:Sim.ay}(h:RI NR aD t M w)(k:bR M w aa)(ht:t'[9]?=t[9]?):RI NR aD t' M aa:=by obtain⟨⟨ov,h1,h2,h3⟩,hle,hz⟩:=h;exact⟨⟨ov,ht.trans h1,P2 h2 λg k' c e=>k.kept _ (.inl (h3 g k' c e)),h3⟩,Ϥ hle k.size,λe=>ht.trans (hz e)⟩
def Qh(Z:Ren)(c:Array z)(m:Nat)(xs:List Int)(h:c.toList.take (m * 1)=xs.map (Y I)):∃u:Array z,aV Z u c/\u.toList.take (m * 1)=xs.map (Y I):=by
 have key:∀i:Fin c.size,∃u,aj Z u c[i.1]/\(i.1<m->u=c[i.1]):=by
  intro i;by_cases hi:i.1<m
  ·have hx:(c.toList.take (m * 1))[i.1]?=J c[i.1]:=by
    rw[Ł,if_pos (by omega),į,ā i.2]
   rw[h,List.getElem?_map] at hx;obtain⟨υ,_,e⟩:=ď.1 hx;exact⟨c[i.1],by rw[<-e];exact .int _ _,λ_=>rfl⟩
  ·obtain⟨u,hu⟩:=sN Z c[i.1];exact⟨u,hu,λh=>absurd h hi⟩
 refine⟨Aj2 λi=>ì (key i),⟨by simp,λi h1 h2=>?_⟩,?_⟩
 ·rw[Aj3];exact(Ï (key ⟨i,h2⟩)).1
 ·rw[<-h];apply List.ext_getElem?;intro j;rw[Ł,Ł];split
  ·rename_i hj;rw[į,į,Aj4];split
   ·rename_i ao;rw[(Ï (key ⟨j,ao⟩)).2 (by simpa using hj),ā ao]
   ·rename_i ao;rw[ę (by omega)]
  ·rfl
end
def aji:∃i,ϋ.info? 3=J i/\i.zero=J (Y I 0)/\i.size=1/\i.bytes=8:=⟨_,rfl,rfl,rfl,rfl⟩
def ints(aD:List Nat):List Int:=aD.map λi:Nat=>(i:Int)
def ajr(aD:List Nat)(i:Nat):(ints aD).map (Y I)++ [Y I i]=(ints (aD++ [i])).map (Y I):=by simp[ints]
section
variable {b:eR}{Z:Ren}{wl wB:N}{pv bv tv:z}{B lb l6 l7 bk p6 p7 cN cL n N0 NB NR:Nat}
def ake{M:Sim.ay}(h:(St b Z wl pv bv tv B lb l6 l7 bk p6 p7 cN cL n NB wB) M w)(T:∀a q,Z a q->q<NR)(ho:w.ownsRow NR 3 1 ov aD.length ((ints aD).map (Y I)))(hO:∀g k c,ov=E (J g) k c->M.O g.block/\g.block≠q)
 (hq:w.heap[q]?=J (Ξ #[Y I i] 3))(Cn:M.O q)(IV:NR<=q):
 ∃(bQ:Ren) (gQ:N) (ol:z) (lq:Nat),cg C0 bQ gQ w/\Z.le bQ/\(∀a p,bQ a p->Z a p\/(wl.heap.size<=a/\NR<=p/\M.O p))/\aj bQ ol ov/\gQ.ownsRow wl.heap.size 3 1 ol aD.length ((ints aD).map (Y I))/\bQ lq q/\
  gQ.heap[lq]?=J (Ξ #[Y I i] 3)/\(∀(a:Nat) (o:Obj),wl.heap[a]?=J o->gQ.heap[a]?=J o)/\wl.heap.size<=gQ.heap.size:=by
 have eS:=wS (o:=.cells #[Y I i] 3) h.lw.core hq (λa ha=>by have:=T a q ha;omega) (.cells 3 ⟨rfl,λj h1 h2=>by
  have:j=0:=by simp at h1;omega
  subst this;exact .int _ _⟩ (.inl rfl))
 rcases ho.2 with⟨rfl,h0⟩ | ⟨g,cap,cur,rfl,vd,hg,ey,oI,fh,tj⟩
 ·refine⟨_,_,E H 0 0,_,eS,zk _ _ _,?_,.sliceNone 0 0,⟨ho.1,.inl ⟨rfl,h0⟩⟩,.inr ⟨rfl,rfl⟩,kQ,λa o ha=>(lz (Ϝ.1 ha).1).trans ha,by rw[fy];omega⟩;rintro a p (ha| ⟨rfl,rfl⟩)
  ·exact .inl ha
  ·exact .inr ⟨ϊ _,IV,Cn⟩
 ·obtain⟨Vf,Vg⟩:=hO _ _ _ rfl;simp only at Vf Vg;obtain⟨u,hu,Fh⟩:=Qh (ext (ext Z wl.heap.size q) (wl.alloc (Ξ #[Y I i] 3)).heap.size g) cur aD.length (ints aD) tj;have ia:=wS (o:=.cells u 3) eS hg (λa ha=>by
   rcases ha with ha| ⟨_,e⟩
   ·have:=T a g ha;omega
   ·exact Vg e) (.cells 3 hu (.inl rfl))
  refine⟨_,_,E (J ⟨(wl.alloc (Ξ #[Y I i] 3)).heap.size,0,H⟩) aD.length cap,wl.heap.size,ia,Ren.le_trans (zk _ _ _) (zk _ _ _),?_,.slice _ _ ⟨.inr ⟨rfl,rfl⟩,rfl,rfl⟩,⟨ho.1,.inr ⟨_,cap,u,rfl,by rw[fy];omega,kQ,ey,oI,hu.1.trans fh,Fh⟩⟩,.inl (.inr ⟨rfl,rfl⟩),(lz (by rw[fy];omega)).trans kQ,
   λa o ha=>(lz (by rw[fy];have:=(Ϝ.1 ha).1;omega)).trans ((lz (Ϝ.1 ha).1).trans ha),by rw[fy,fy];omega⟩
  rintro a p ((ha| ⟨rfl,rfl⟩) | ⟨rfl,rfl⟩)
  ·exact .inl ha
  ·exact .inr ⟨ϊ _,IV,Cn⟩
  ·exact .inr ⟨by rw[fy];omega,vd,Vf⟩
def agi{c:Array z}(hc:c.size≠0):¬mw (.cells c 3 (0,0)):=by rintro⟨_,h⟩;have h:c.size<=0:=h;omega
def aqG{Stop:Sim.ay->ϐ->N->Prop}{M:Sim.ay}(h:(St b Z wl pv bv tv B lb l6 l7 bk p6 p7 cN cL n NB wB) M w)(T:∀a q,Z a q->q<NR)(hN:NB<=NR)(Ek:NR<=w.heap.size)(xz:aD.length<=1000)(ho:w.ownsRow NR 3 1 ov aD.length ((ints aD).map (Y I)))(hO:∀g k c,ov=E (J g) k c->M.O g.block/\g.block≠q)
 (hq:w.heap[q]?=J (Ξ #[Y I i] 3))(Cn:M.O q)(IV:NR<=q)(t34:t[34]?=J ov)(t36:t[36]?=J (E (J ⟨q,0,H⟩) 1 1))
 (cont:∀v' b6 aF,(St b Z wl pv bv tv B lb l6 l7 bk p6 p7 cN cL n NB wB) b6 aF->aF.ownsRow NR 3 1 v' (aD++ [i]).length ((ints (aD++ [i])).map (Y I))->(∀g k c,v'=E (J g) k c->b6.O g.block)->NR<=aF.heap.size->Walk ϋ main Stop b6 (rg 38 (aA t (J 37) v') (.inRegion sj rest::k) [] .normal cs) aF):
 Walk ϋ main Stop M (rg 38 t (.inRegion sj (3::rest)::k) [] .normal cs) w:=by
 obtain⟨bQ,gQ,ol,lq,hW,hle,hinv,hv,aH,hlq,hcq,hold,aN⟩:=ake h T ho hO hq Cn IV;obtain⟨u0,As⟩:=MV bQ t;have yK:=F6 As hv t34;have KX:=F6 yK (i:=36) (v:=E (J ⟨lq,0,H⟩) 1 1) (v':=E (J ⟨q,0,H⟩) 1 1) (.slice 1 1 ⟨hlq,rfl,rfl⟩) t36;have aiD:34<t.size:=(Ϝ.1 t34).1
 have aiE:36<t.size:=(Ϝ.1 t36).1;have l36:((u0.setIfInBounds 34 ol).setIfInBounds 36 (E (J ⟨lq,0,H⟩) 1 1)).getD 36 L=E (J ⟨lq,0,H⟩) 1 1:=cT (eX (by rw[Ĕ,As.1];exact aiE));have l34:((u0.setIfInBounds 34 ol).setIfInBounds 36 (E (J ⟨lq,0,H⟩) 1 1)).getD 34 L=ol:=cT ((bP (by omega)).trans (eX (by rw[As.1];exact aiD)));obtain⟨o,pJ,ag,hd,hg⟩:=akQ;obtain⟨ti,mS,hz,V,Ey⟩:=aji;have hf:Fits M bQ gQ:=by
  intro a p hp;rcases hinv a p hp with hp| ⟨_,_,hp⟩
  ·obtain⟨o,h1,h2⟩:=h.lw.fixed a p hp;rcases h.lw.has a p hp with hx|hx
   ·exact .inl hx
   ·exact .inr ⟨hx,o,hold a o h1,h2⟩
  ·exact .inl hp
 refine ZB (M:=M) (Z:=bQ) (wl:=gQ) (QL:=λv aa=>aa.ownsRow wl.heap.size 3 1 v (aD++ [i]).length ((ints (aD++ [i])).map (Y I))) Hp pJ (cx hg) rfl (amQ adz pJ) KX hW (λg nJ=>?_) hf h.low (λhr=>?_) ?_
 ·have:g=0:=by simpa [G0] using nJ
  subst this;exact hle _ _ h.lw.iy
 ·have aq:(bq gQ hr).cell? ⟨lq,0,H⟩=J (Y I i):=mH (w:=bq gQ hr) hcq rfl rfl;obtain⟨v',w',h1,h2,h3,h4⟩:=run_append_own (P:=tw ϋ (@Tw.F jC)) (w:=bq gQ hr) wl.heap.size 33 o.type 3 ti (Y I 0) 1 8 (by rw[kJ];rfl) (by rw[wx];exact mS) hz V Ey rfl (by omega) ol aD.length ((ints aD).map (Y I)) aH ⟨lq,0,H⟩ 1 1 [Y I i] rfl
   (λj u hu=>by
     cases j with
     |zero=>simp at hu;subst hu;exact aq
     |succ j=>simp at hu) (λu hu=>by simp at hu;subst hu;rfl) (by unfold maxLen;omega) (by omega) aN
  refine⟨v',w',anS ag l34 l36 h1,?_⟩;rw[ajr] at h2;rw[List.length_append];exact h2
 ·intro v v' yG aM b6 aF rW qJ eS cr iz ER;have hb:∀a p,wl.heap.size<=a->aM a p->NR<=p:=by
   intro a p ha hp;rcases cr.new a p hp with hp| ⟨_,hp⟩
   ·rcases hinv a p hp with hp| ⟨_,hp,_⟩
    ·have:=h.lw.core.dL a p hp;omega
    ·exact hp
   ·omega
  obtain⟨b7,a1,q1,arp,rfl,rfl,rY,arz,fU,jS⟩:=XW eS qJ rW (by simp) hb;have kept:∀p,M.has p->p<NR->aF.heap[p]?=w.heap[p]?:=by
   intro p hp ao;refine cr.jd p hp λa ha=>?_;rcases hinv a p ha with ha| ⟨_,hx,_⟩
   ·obtain⟨o,h1,h2⟩:=h.lw.fixed a p ha;exact⟨o,hold a o h1,h2⟩
   ·omega
  have nc:∀c,¬M.has c->c<w.heap.size->¬b6.has c:=by
   intro c h1 h2 hx;rcases hx with hx|hx
   ·rcases cr.On c hx with hx| ⟨hx,_⟩
    ·exact h1 (.inl hx)
    ·omega
   ·rw[cr.R] at hx;exact h1 (.inr hx)
  have gS:(St b Z wl pv bv tv B lb l6 l7 bk p6 p7 cN cL n NB wB) b6 aF:=h.to2 T hN cr.gO kept (λp hp=>ay.vb cr.R cr.O hp) ER ⟨nc _ h.nc.1 h.lc.1,nc _ h.nc.2 h.lc.2⟩;rw[hd];refine cont _ b6 aF gS b7 (λg k c e=>?_) (Ϥ Ek cr.gO);cases e;rcases iz _ _ rY with hx| ⟨_,o,IQ,fo⟩
  ·exact hx
  ·rw[fU] at IQ;cases IQ;exact absurd fo (agi jS)
end
def Dy:Ϙ:=aS rq
def GQ:rq=.seq (.region 13 vL U) Dy:=rfl
def Sf:Dy=.seq (.cond (.tmp 32) .skip (.exit 2)) (.block 3 (.seq (.region 14 JJ U) (.region 15 sj U))):=rfl
section
variable {b:eR}{Z:Ren}{wl wB:N}{pv bv tv:z}{B lb l6 l7 bk p6 p7 cN cL n N0 NB NR:Nat}{cX:Nat->Bool}{cs:List ϝ}
def yO(NR NB:Nat)(wB:N)(cs:List ϝ)(aD:List Nat)(M:Sim.ay)(g:ϐ)(w:N):Prop:=
 ∃(t:Array z) (υ:z),g=rg 38 t [.inRegion vL [1],.code Dy,.inLoop rq,.inBlock 2,.code tB] [] .normal cs/\t.size=41/\t[31]?=J (μ #[υ,.bool U])/\RI NR aD t M w/\
  (∀q,q<NB->w.heap[q]?=wB.heap[q]?)/\NB<=w.heap.size
def YB:ϩ (rg 38 t (.inRegion vL [0,1]::k) [] .normal cs) (recvd D v ok)=rg 38 (t.setIfInBounds 31 (μ #[v,.bool ok])) (.inRegion vL [1]::k) [] .normal cs:=by obtain⟨o,ho,ag,hd,hg⟩:=PH;simp[ϩ,ē,ho,hd,recvd]
def TX{M:Sim.ay}(V:t.size=41)(hR:RI NR aD t M w)(hS:(St b Z wl pv bv tv B lb l6 l7 bk p6 p7 cN cL n NB wB) M w):
 yO NR NB wB cs aD M (ϩ (rg 38 t (.inRegion vL [0,1]:: [.code Dy,.inLoop rq,.inBlock 2,.code tB]) [] .normal cs) (recvd D υ U)) w:=by
 refine⟨_,υ,YB,by simp[V],eX (by omega),?_,λq hq=>(hS.old q hq).2,hS.nb⟩;exact hR.keep (bR.refl M w) (bP (by omega))
def recvs(T:∀a q,Z a q->q<NR)(hN:NB<=NR)(hn:n<=1000):∀(f:Nat) (aD:List Nat) (t:Array z) (M:Sim.ay) (w:N),f+aD.length=n->t.size=41->t[30]?=J (.chan (J cN))->RI NR aD t M w->(St b Z wl pv bv tv B lb l6 l7 bk p6 p7 cN cL n NB wB) M w->
 Walk ϋ D (oB (Pm.mk ϋ n N0 cL cN cX sr (yO NR NB wB cs)) f aD) M (rg 38 t [.code rq,.inLoop rq,.inBlock 2,.code tB] [] .normal cs) w:=by
 intro f;induction f with
 |zero=>
  intro aD t M w hf V t30 hR hS;rw[GQ];refine fZ (iu ?_);rw[Yl];obtain⟨o,ho,ag,hd,hg⟩:=PH;obtain⟨dir,hu⟩:=Da;obtain⟨ti,mS,hz,_⟩:=Ja;rw[<-GQ];refine .stop λaa hk=>⟨rfl,rfl,_,Gi ho (cx hg) rfl (Ql t aa ag (cT t30) hu mS hz),?_⟩
  exact TX V (hR.keep hk rfl) (hS.keep hk)
 |succ f ih=>
  intro aD t M w hf V t30 hR hS;rw[GQ];refine fZ (iu ?_);rw[Yl];obtain⟨o,ho,ag,hd,hg⟩:=PH;obtain⟨dir,hu⟩:=Da;obtain⟨ti,mS,hz,_⟩:=Ja;rw[<-GQ];refine .stop λaa hk=>⟨rfl,rfl,_,Gi ho (cx hg) rfl (Ql t aa ag (cT t30) hu mS hz),TX V (hR.keep hk rfl) (hS.keep hk),λi hi VY asD=>?_⟩
  show Walk ϋ D (oB (Pm.mk ϋ n N0 cL cN cX sr (yO NR NB wB cs)) f (aD++ [i])) M (ϩ (rg 38 t (.inRegion vL [0,1]:: [.code Dy,.inLoop rq,.inBlock 2,.code tB]) [] .normal cs) (recvd D (Y I i) D)) aa;rw[YB];have pD:=hR.keep (t':=t.setIfInBounds 31 (μ #[Y I i,.bool D])) hk (bP (by omega))
  have gS:=hS.keep hk;have BS:(t.setIfInBounds 31 (μ #[Y I i,.bool D]))[31]?=J (μ #[Y I i,.bool D]):=eX (by omega)
  have Ni:(t.setIfInBounds 31 (μ #[Y I i,.bool D]))[30]?=J (.chan (J cN)):=(bP (by omega)).trans t30;have di:(t.setIfInBounds 31 (μ #[Y I i,.bool D])).size=41:=by simp[V]
  clear hR hS ho ag hd hg
  revert pD gS BS Ni di
  generalize t.setIfInBounds 31 (μ #[Y I i,.bool D])=t1;generalize aa=w at *;intro pD gS BS Ni di;obtain⟨o,ho,ag,hd,hg⟩:=Xs;refine dJ (v:=.bool D) ho (cx hg) rfl (λaa _=>⟨_,F9 t1 aa ag (cT BS) rfl,eE⟩) ?_;rw[hd];refine jl ?_;rw[Sf];refine fZ (Df (q:=D) (iT (by omega)) (Q7 (De (fZ (iu ?_)))));rw[s14];have Ns:=pD.keep (t':=aA t1 (J 32) (.bool D)) (bR.refl M w) (bP (by omega))
  have Pf:(aA t1 (J 32) (.bool D))[31]?=J (μ #[Y I i,.bool D]):=(bP (by omega)).trans BS;have Pe:(aA t1 (J 32) (.bool D))[30]?=J (.chan (J cN)):=(bP (by omega)).trans Ni;have js:(aA t1 (J 32) (.bool D)).size=41:=by simp[aA,di]
  revert Ns Pf Pe js
  generalize aA t1 (J 32) (.bool D)=t2;intro Ns Pf Pe js;obtain⟨o,ho,ag,hd,hg⟩:=akL;refine dJ (v:=Y I i) ho (cx hg) rfl (λaa _=>⟨_,F9 t2 aa ag (cT Pf) rfl,eE⟩) ?_;rw[hd];have Nt:=Ns.keep (t':=aA t2 (J 33) (Y I i)) (bR.refl M w) (bP (by omega))
  have Pr:aX (aA t2 (J 33) (Y I i)) (.tmp 33)=Y I i:=iT (by omega);have Ay:(aA t2 (J 33) (Y I i))[30]?=J (.chan (J cN)):=(bP (by omega)).trans Pe;have ks:(aA t2 (J 33) (Y I i)).size=41:=by simp[aA,js]
  revert Nt Pr Ay ks
  generalize aA t2 (J 33) (Y I i)=t3;intro Nt Pr Ay ks;obtain⟨o,ho,ag,hd,hg⟩:=akM;refine dJ ho (cx hg) rfl (λaa _=>⟨_,(run_assign t3 aa ag).trans (by rw[Pr]),eE⟩) ?_;rw[hd];have Nu:=Nt.keep (t':=aA t3 (J 10) (Y I i)) (bR.refl M w) (bP (by omega))
  have Xv:aX (aA t3 (J 10) (Y I i)) (.tmp 10)=Y I i:=iT (by omega);have PO:(aA t3 (J 10) (Y I i))[10]?=J (Y I i):=eX (by omega);have n30:(aA t3 (J 10) (Y I i))[30]?=J (.chan (J cN)):=(bP (by omega)).trans Ay;have ns:(aA t3 (J 10) (Y I i)).size=41:=by simp[aA,ks]
  revert Nu Xv PO n30 ns
  generalize aA t3 (J 10) (Y I i)=t4;intro Nu Xv PO n30 ns;obtain⟨⟨ov,u9,aH,hO⟩,hle,_⟩:=Nu;refine jl (iu ?_);rw[s15];obtain⟨o,ho,ag,hd,hg⟩:=akN;have e9:aX t4 (.tmp 9)=ov:=cT u9;refine dJ ho (cx hg) rfl (λaa _=>⟨_,(run_move t4 aa ag).trans (by rw[e9]),eE⟩) ?_
  rw[hd];have L3:(aA t4 (J 34) ov)[34]?=J ov:=eX (by omega)
  have LX:aX (aA t4 (J 34) ov) (.tmp 10)=Y I i:=cT ((bP (by omega)).trans PO);have L1:(aA t4 (J 34) ov)[30]?=J (.chan (J cN)):=(bP (by omega)).trans n30;have Mb:(aA t4 (J 34) ov).size=41:=by simp[aA,ns]
  revert L3 LX L1 Mb
  generalize aA t4 (J 34) ov=t5;intro L3 LX L1 Mb;obtain⟨o,ho,ag,hd,hg⟩:=akO;refine dJ ho (cx hg) rfl (λaa _=>⟨_,(run_move t5 aa ag).trans (by rw[LX]),eE⟩) ?_;rw[hd];have Mr:(aA t5 (J 35) (Y I i))[34]?=J ov:=(bP (by omega)).trans L3
  have jO:(aA t5 (J 35) (Y I i)).getD 35 L=Y I i:=iT (by omega);have Mq:(aA t5 (J 35) (Y I i))[30]?=J (.chan (J cN)):=(bP (by omega)).trans L1;have bu:(aA t5 (J 35) (Y I i)).size=41:=by simp[aA,Mb]
  revert Mr jO Mq bu
  generalize aA t5 (J 35) (Y I i)=t6;intro Mr jO Mq bu;obtain⟨o,ho,ag,hd,hg⟩:=akP;refine Dg ho (cx hg) rfl λaa fj=>⟨_,_,_,.inl (anV t6 aa ag jO rfl),zg,?_⟩
  rw[hd];have El:=(gS.keep fj).alloc (Ξ #[Y I i] 3);have OT:NR<=aa.heap.size:=Ϥ hle fj.size;have b7:=P2 (aa:=aa.alloc (Ξ #[Y I i] 3)) aH λg k c e=>(lz (Ϣ (gS.low _ (.inl (hO g k c e))) fj.size)).trans (fj.kept _ (.inl (hO g k c e)))
  have hO1:∀g k c,ov=E (J g) k c->(M.grow aa (aa.alloc (Ξ #[Y I i] 3))).O g.block/\g.block≠aa.heap.size:=λg k c e=>⟨.inl (hO g k c e),by have:=gS.low _ (.inl (hO g k c e));have:=fj.size;omega⟩
  have Cn:(M.grow aa (aa.alloc (Ξ #[Y I i] 3))).O aa.heap.size:=.inr ⟨ϊ _,by rw[fy];omega⟩;have d34:(aA t6 (J 36) (E (J ⟨aa.heap.size,0,H⟩) 1 1))[34]?=J ov:=(bP (by omega)).trans Mr;have d36:(aA t6 (J 36) (E (J ⟨aa.heap.size,0,H⟩) 1 1))[36]?=J (E (J ⟨aa.heap.size,0,H⟩) 1 1):=eX (by omega);have d30:(aA t6 (J 36) (E (J ⟨aa.heap.size,0,H⟩) 1 1))[30]?=J (.chan (J cN)):=(bP (by omega)).trans Mq;have ds:(aA t6 (J 36) (E (J ⟨aa.heap.size,0,H⟩) 1 1)).size=41:=by simp[aA,bu]
  refine aqG El T hN (by rw[fy];omega) (by omega) b7 hO1 kQ Cn OT d34 d36 ?_
  revert d30 ds
  generalize aA t6 (J 36) (E (J ⟨aa.heap.size,0,H⟩) 1 1)=t7;intro d30 ds v' ry au Nw vt hO3 ah7;obtain⟨o,ho,ag,hd,hg⟩:=akR;have e37:aX (aA t7 (J 37) v') (.tmp 37)=v':=iT (by omega)
  have f30:(aA t7 (J 37) v')[30]?=J (.chan (J cN)):=(bP (by omega)).trans d30;have fs:(aA t7 (J 37) v').size=41:=by simp[aA,ds]
  refine dJ ho (cx hg) rfl (λaa _=>⟨_,(run_assign (aA t7 (J 37) v') aa ag).trans (by rw[e37]),eE⟩) ?_;rw[hd];refine jl (acj (Q5 ?_));exact ih (aD++ [i]) _ ry au (by simp;omega) (by simp[aA,ds]) ((bP (by omega)).trans f30) ⟨⟨v',eX (by omega),vt,hO3⟩,ah7,λe=>by simp at e⟩ Nw
end
end Go.Jn
namespace Go.Jn
open Go Go.Proofs Go.Sim Go.Conc Go.Tw Go.RowKit
attribute [local go_sem] AZ AY Oper.semAt_some
def GB(lb:Nat)(e:Exit)(a:Act)(_:N):Prop:=e=.normal/\a.defers=[cQ]/\a.tmps.size=41/\a.tmps[1]?=J (π (J ⟨lb,0,H⟩))
section
variable [Go.Tw.aK]
def ahead(hB:B<=w.heap.size)(ah:aQ w B b pv bv tv)(h:bT b 0=0)
 (c0: w.cell? ⟨lb,0,H⟩=J (Y I b.ab))(c1: w.cell? ⟨lb,1,H⟩=J pv)(c2: w.cell? ⟨lb,2,H⟩=J bv)(c3: w.cell? ⟨lb,3,H⟩=J tv)(ai:lb<w.heap.size):
 fu prog [rv] (GB lb)
  ⟨(x0:: π (J ⟨lb,0,H⟩):: E H 0 0:: Y I 0::L::L::L::L::L::L::L::L::L::L::L::L::L::L::L::L::L::L::L::L::L::L::L::L::L::L::L::L::L::L::L::L::L::L::L::L::L:: []).toArray,[cQ]⟩ w:=by
 have aG:=K (Qw hB ah h);obtain⟨A1,n1,k1,A2,n2,k2,A3,n3,k3,rfl,rfl,rfl⟩:=ah.op;clear ah h;unfold fu fu;rw[then_self];refine(wpIn_wide (n:=0)).1 ?_;simp only[rv,BB,Tryz.f38,bp,aS,Λ]
 gi_wp2_with (first
  | (gi_at_call 119;refine(callsIn_wide.2 aG.e).mono ?_;rintro e w1 ⟨sv,g,rfl,aH,cP,hg,ai⟩
     obtain⟨A9,m9,c9,rfl⟩:=iI aH;have aO:w.heap.size<=w1.heap.size:=ai.size;clear ai aH cP hg))
 exact⟨rfl,rfl,rfl,rfl⟩
def akp(u:Array z)(h:u.size=41):∃x0 x1 x2 x3 x4 x5 x6 x7 x8 x9 Kn Ko Kp Kq Kr Ks Kt Ku tY tZ ua ub uc ud ue uf ug uh ui uj uk um uo uq ur uu uv uw ux uy uz:z,u=(x0::x1::x2::x3::x4::x5::x6::x7::x8::x9::Kn::Ko::Kp::Kq::Kr::Ks::Kt::Ku::tY::tZ::ua::ub::uc::ud::ue::uf::ug::uh::ui::uj::uk::um::uo::uq::ur::uu::uv::uw::ux::uy::uz:: []).toArray:=by
 obtain⟨l⟩:=u;simp only[List.size_toArray] at h;match l,h with
 |x0::x1::x2::x3::x4::x5::x6::x7::x8::x9::Kn::Ko::Kp::Kq::Kr::Ks::Kt::Ku::tY::tZ::ua::ub::uc::ud::ue::uf::ug::uh::ui::uj::uk::um::uo::uq::ur::uu::uv::uw::ux::uy::uz:: [],_=>exact⟨x0,x1,x2,x3,x4,x5,x6,x7,x8,x9,Kn,Ko,Kp,Kq,Kr,Ks,Kt,Ku,tY,tZ,ua,ub,uc,ud,ue,uf,ug,uh,ui,uj,uk,um,uo,uq,ur,uu,uv,uw,ux,uy,uz,rfl⟩
def ao8{base:Nat}(ho:w.ownsRow base 3 1 ol n (zs.map (Y I)))(hn:n<=100000)(hb:base<=w.heap.size)(hu:u.size=41)(h9:u[9]?=J ol):
 (Code.region 16 CV U).wp prog (λe a w'=>(e=.normal/\a.defers=[cQ]\/e=.ret)/\(e=.normal/\a.tmps.size=41/\a.tmps[9]?=J ol/\w'.ownsRow base 3 1 ol n ((fQ zs).map (Y I)))) ⟨u,[cQ]⟩ w:=by
 have aG:=K (QE ho hn hb);obtain⟨x0,x1,x2,x3,x4,x5,x6,x7,x8,x9,Kn,Ko,Kp,Kq,Kr,Ks,Kt,Ku,tY,tZ,ua,ub,uc,ud,ue,uf,ug,uh,ui,uj,uk,um,uo,uq,ur,uu,uv,uw,ux,uy,uz,rfl⟩:=akp u hu;cases h9;clear ho hu;refine(wpIn_wide (n:=0)).1 ?_;simp only[CV,tB,vN,yy,oY,BB,Tryz.f38,bp,aS,opsOf,Λ]
 gi_wp2_with (first
  | (gi_at_call 101;refine(callsIn_wide.2 aG.e).mono ?_;rintro e w1 ⟨rfl,aH,ai⟩
     have HO:=K aH;clear aH ai))
 exact HO.e
end
end Go.Jn
namespace Go.Jn
open Go Go.Proofs Go.Sim Go.Conc Go.Tw
def allM(w:N):Sim.ay:=⟨λq=>q<w.heap.size,λ_=>False⟩
def ly:(allM w).has q↔q<w.heap.size:=⟨λh=>h.elim id False.elim,.inl⟩
def Bu(h:cg C Z wl w):Fits (allM w) Z wl:=λa q hq=>.inl (h.dq a q hq)
structure KI(b:eR)(σ:Ren)(wl:N)(pv bv tv:z)(B:Nat)(arg:z)(w:N):Prop where
 core:cg C0 σ wl w
 iy:σ 0 0
 nb:bO wl.heap
 fixed:∀a q,σ a q->∃o,wl.heap[a]?=J o/\mw o
 hB:B<=wl.heap.size
 book:aQ wl B b pv bv tv
 arg:aj σ (η #[Y I b.ab,pv,bv,tv]) arg
def aca{a b c d:z}(h:aj σ (η #[a,b,c,d]) x):∃a' b' c' d',x=η #[a',b',c',d']/\aj σ a a'/\aj σ b b'/\aj σ c c'/\aj σ d d':=by
 cases h with
 | @agg _ x' hx h1=>
   obtain⟨l⟩:=x';simp only[List.size_toArray] at hx;match l,hx,h1 with
   | [a',b',c',d'],_,h1=>exact⟨a',b',c',d',rfl,h1 0 (by simp) (by simp),h1 1 (by simp) (by simp),h1 2 (by simp) (by simp),h1 3 (by simp) (by simp)⟩
def anz{A:Option Addr}{c:Nat}(h:aj σ (.slice A n c) x):∃A',x=.slice A' n c:=by
 cases h with
 |sliceNone=>exact⟨_,rfl⟩
 |slice=>exact⟨_,rfl⟩
 |sliceDead=>exact⟨_,rfl⟩
structure LO(b:eR)(Z:Ren)(wl:N)(pv bv tv:z)(B lb bk n NB:Nat)(wB:N)(w:N):Prop where
 core:cg C0 Z wl w
 iy:Z 0 0
 Xw:bO wl.heap
 fixed:∀a q,Z a q->∃o,wl.heap[a]?=J o/\mw o
 rb:Z lb bk
 hB:B<=wl.heap.size
 book:aQ wl B b pv bv tv
 c0: wl.cell? ⟨lb,0,H⟩=J (Y I b.ab)
 c1: wl.cell? ⟨lb,1,H⟩=J pv
 c2: wl.cell? ⟨lb,2,H⟩=J bv
 c3: wl.cell? ⟨lb,3,H⟩=J tv
 hb:∃bc e fb A c,w.heap[bk]?=J (.cells bc e fb)/\bc[2]?=J (.slice A n c)
 old:∀q,q<NB->w.heap[q]?=wB.heap[q]?
 nb:NB<=w.heap.size
def Ss(b:eR)(pv bv tv:z)(B NB:Nat)(wB:N)(cs:List ϝ)(_:Sim.ay)(g:ϐ)(w:N):Prop:=
 ∃(t:Array z) (bk lb:Nat) (Z:Ren) (wl:N),g=rg 38 t [.code (.seq (.region 4 jB D) oY)] [] .normal cs/\t.size=41/\t[1]?=J (π (J ⟨bk,0,H⟩))/\LO b Z wl pv bv tv B lb bk b.aC.length NB wB w
def apX(x p s i:z):((((#[x]++ϱ 40 L:Array z).setIfInBounds 1 p).setIfInBounds 2 s).setIfInBounds 3 i)=(x::p::s::i::L::L::L::L::L::L::L::L::L::L::L::L::L::L::L::L::L::L::L::L::L::L::L::L::L::L::L::L::L::L::L::L::L::L::L::L::L:: []).toArray:=by
 have e:(#[x]++ϱ 40 L:Array z)=(x::L::L::L::L::L::L::L::L::L::L::L::L::L::L::L::L::L::L::L::L::L::L::L::L::L::L::L::L::L::L::L::L::L::L::L::L::L::L::L::L:: []).toArray:=by apply Array.ext';simp[List.replicate]
 rw[e];simp
def acu(hx:aj Z x0 x):aV Z (#[x0]++ϱ 40 L) (#[x]++ϱ 40 L):=by
 have h1:aV Z #[x0] #[x]:=⟨rfl,λi h1 h2=>by
  have:i=0:=by simp at h1;omega
  subst this;exact hx⟩
 have h2:aV Z (ϱ 40 L) (ϱ 40 L):=⟨rfl,λi h1 h2=>by rw[Array.getElem_replicate];exact .undef⟩
 exact cf.append h1 h2
def apl{p p':z}(hx:aj Z x0 x)(hp:aj Z p p'):
 aV Z ((((#[x0]++ϱ 40 L:Array z).setIfInBounds 1 p).setIfInBounds 2 (E H 0 0)).setIfInBounds 3 (Y I 0)) (aA (aA (aA (#[x]++ϱ 40 L:Array z) (J 1) p') (J 2) (E H 0 0)) (J 3) (Y I 0)):=by
 have h0:=acu hx
 revert h0
 generalize (#[x0]++ϱ 40 L:Array z)=χ;generalize (#[x]++ϱ 40 L:Array z)=hs;intro h0;exact((h0.set 1 hp).set 2 (.sliceNone 0 0)).set 3 (.int _ _)
def akd(hB:B<=wl.heap.size)(ah:aQ wl B b pv bv tv)(h:bT b 0=0)
 (c0: wl.cell? ⟨lb,0,H⟩=J (Y I b.ab))(c1: wl.cell? ⟨lb,1,H⟩=J pv)(c2: wl.cell? ⟨lb,2,H⟩=J bv)(c3: wl.cell? ⟨lb,3,H⟩=J tv)(ai:lb<wl.heap.size)(hr:Tape):
 fu (@Tw.prog jC) [rv] (GB lb) ⟨((((#[x0]++ϱ 40 L:Array z).setIfInBounds 1 (π (J ⟨lb,0,H⟩))).setIfInBounds 2 (E H 0 0)).setIfInBounds 3 (Y I 0)),[cQ]⟩ (bq wl hr):=by
 letI:=jC
 rw[apX];exact ahead (b:=b) (pv:=pv) (bv:=bv) (tv:=tv) (B:=B) (lb:=lb) (x0:=x0) hB (ah.still λ_ _=>rfl) h c0 c1 c2 c3 ai
def api{M1:Sim.ay}(ag:bT b 0=0)(hP:LO b Z mn pv bv tv B lb bk b.aC.length NB wB w1)
 (hM:∀q,M1.has q->q<w1.heap.size)(pD:∀a q,Z a q->M1.O q)(BT:∀q,q<NB->M1.O q)(Fj:aV Z u hr)(hl:∀hr,fu (@Tw.prog jC) [rv] (GB lb) ⟨u,[cQ]⟩ (bq mn hr)):
 Walk ϋ D (Ss b pv bv tv B NB wB cs) M1 (rg 38 hr [.code (.seq rv (.seq (.region 4 jB D) oY))] [] .normal cs) w1:=by
 obtain⟨hW,kA,IN,mP,nP,pB,It,c0,c1,Hc,c3,⟨bc,be,bf,bA,bC,ahe,B8⟩,old,uZ⟩:=hP;refine pieces (S:=⟨.seq (.region 4 jB D) oY,[],[],cs,.normal⟩) (cs:=[rv]) (f:=38) (a:=⟨u,[cQ]⟩) (λc hc=>?_) rfl rfl (QL:=GB lb) (λe a w h=>.inl h.1) hl hW kA (λa q hq=>.inl (pD a q hq)) hM IN Fj ?_
 ·simp only[Ϡ,Á,or_false] at hc;subst hc;exact adG
 ·rintro e bJ au ry bM Ki eF D' ⟨rfl,zQ,aN,h1⟩ cr ia oJ aia oK dn xT hD;rw[zQ] at hD;rw[zh hD];have kept:∀q,M1.has q->eF.heap[q]?=w1.heap[q]?:=λq hq=>cr.jd q hq λa ha=>mP a q ha
  refine⟨λ_=>?_,λhe=>by cases he⟩;refine .stop λsR jx=>?_;have Of:∀q,M1.has q->sR.heap[q]?=w1.heap[q]?:=λq hq=>(jx.kept q (ay.vb cr.R cr.O hq)).trans (kept q hq);refine⟨Ki,bk,lb,Z,mn,rfl,xT.1.symm.trans aN,QB ia xT (cr.le _ _ nP) h1,?_⟩;exact⟨uQ hW (Ϥ cr.gO jx.size) λa q hq=>Of q (.inl (pD a q hq)),kA,IN,mP,nP,pB,It,c0,c1,Hc,c3,⟨bc,be,bf,bA,bC,(Of bk (.inl (pD _ _ nP))).trans ahe,B8⟩,λq hq=>(Of q (.inl (BT q hq))).trans (old q hq),Ϥ uZ (Ϥ cr.gO jx.size)⟩
def R8{Stop:Sim.ay->ϐ->N->Prop}(h:KI b σ wl pv bv tv B arg w)
 (ψ:∀(M1:Sim.ay) (w1 mn:N) (lb bk:Nat) (Z:Ren) (x0:z) (hr:Array z),LO b Z mn pv bv tv B lb bk b.aC.length w.heap.size w w1->lb<mn.heap.size->(∀q,M1.has q->q<w1.heap.size)->(∀a q,Z a q->M1.O q)->(∀q,q<w.heap.size->M1.O q)->
   aV Z ((((#[x0]++ϱ 40 L:Array z).setIfInBounds 1 (π (J ⟨lb,0,H⟩))).setIfInBounds 2 (E H 0 0)).setIfInBounds 3 (Y I 0)) hr->Walk ϋ D Stop M1 (rg 38 hr [.code (.seq rv (.seq (.region 4 jB D) oY))] [] .normal cs) w1):
 Walk ϋ D Stop (allM w) (rg 38 (#[arg]++ϱ 40 L) [.code (.seq (.region 0 p0 U) (.seq rv (.seq (.region 4 jB D) oY)))] [] .normal cs) w:=by
 letI:=jC
 obtain⟨a',fE,gH,ez,rfl,ra,rp,Qg,rt⟩:=aca h.arg;obtain⟨A2,n2,c2,ebv,en2,-⟩:=h.book.aC.Φ;obtain⟨T7,aeS⟩:=anz (by rw[ebv] at Qg;exact Qg);refine fZ (iu ?_);rw[s0];obtain⟨o,ho,bL,hd,hg⟩:=m00;have xS:(#[Value.agg #[a',fE,gH,ez]]++ϱ 40 L:Array z).getD 0 L=η #[a',fE,gH,ez]:=by simp[æ]
 refine Dg ho (cx hg) rfl λaa hk=>⟨_,_,_,.inl (anU _ aa bL xS),zg,?_⟩
 rw[hd];have Iy:(Value.agg #[a',fE,gH,ez]).cells=#[a',fE,gH,ez]:=rfl;rw[Iy];have hM:∀q,((allM w).grow aa (aa.alloc (Ξ #[a',fE,gH,ez] 26))).has q->q<(aa.alloc (Ξ #[a',fE,gH,ez] 26)).heap.size:=by
  rintro q ((hq|hq) |hq)
  ·have hq:q<w.heap.size:=hq;have:=hk.size;rw[fy];omega
  ·exact hq.2
  ·exact hq.elim
 have BT:∀q,q<w.heap.size->((allM w).grow aa (aa.alloc (Ξ #[a',fE,gH,ez] 26))).O q:=λq hq=>.inl hq;have Io:((allM w).grow aa (aa.alloc (Ξ #[a',fE,gH,ez] 26))).O aa.heap.size:=.inr ⟨ϊ _,by rw[fy];omega⟩;have old:∀q,q<w.heap.size->(aa.alloc (Ξ #[a',fE,gH,ez] 26)).heap[q]?=w.heap[q]?:=λq hq=>(lz (Ϣ hq hk.size)).trans (hk.kept q (.inl hq));have U4:cg C0 σ wl (aa.alloc (Ξ #[a',fE,gH,ez] 26)):=uQ h.core (by rw[fy];have:=hk.size;omega) λa q hq=>old q (h.core.dq a q hq);have hW:=wS (o:=.cells #[Y I b.ab,pv,bv,tv] 26 (0,4)) U4 (q:=aa.heap.size) kQ (λa ha=>by have:=h.core.dq a _ ha;have:=hk.size;omega) (.cells 26 ⟨rfl,λj h1 h2=>by
  have:j=0\/j=1\/j=2\/j=3:=by simp at h1;omega
  have hle:=zk σ wl.heap.size aa.heap.size;rcases this with rfl|rfl|rfl|rfl
  ·exact ra.mono hle
  ·exact rp.mono hle
  ·exact Qg.mono hle
  ·exact rt.mono hle⟩ (.inr ⟨rfl,by simp⟩))
 obtain⟨mn,Cu⟩:∃mn,mn=wl.alloc (Ξ #[Y I b.ab,pv,bv,tv] 26 (0,4)):=⟨_,rfl⟩
 obtain⟨lb,vp⟩:∃lb,lb=wl.heap.size:=⟨_,rfl⟩
 obtain⟨bk,ah⟩:∃bk,bk=aa.heap.size:=⟨_,rfl⟩
 have Cf:mn.heap[lb]?=J (Ξ #[Y I b.ab,pv,bv,tv] 26 (0,4)):=by rw[Cu,vp];exact kQ
 have NK:(aa.alloc (Ξ #[a',fE,gH,ez] 26)).heap[bk]?=J (Ξ #[a',fE,gH,ez] 26):=by rw[ah];exact kQ
 have mP:∀a q,ext σ lb bk a q->∃o,mn.heap[a]?=J o/\mw o:=by
  rintro a q (ha| ⟨rfl,rfl⟩)
  ·obtain⟨o,h1,h2⟩:=h.fixed a q ha;exact⟨o,by rw[Cu];exact(lz (h.core.dL _ _ ha)).trans h1,h2⟩
  ·exact⟨_,Cf,⟨rfl,by simp⟩⟩
 have IN:bO mn.heap:=by rw[Cu];exact h.nb.push λh=>h
 have pB:B<=mn.heap.size:=by rw[Cu,fy];exact Akm h.hB
 have It:aQ mn B b pv bv tv:=by rw[Cu];exact h.book.still ((Δ.refl wl).alloc h.hB _)
 have asy:w.heap.size<=bk:=by rw[ah];exact hk.size
 rw[<-Cu,<-vp,<-ah] at hW;rw[<-ah] at Io |-;have uZ:w.heap.size<=(aa.alloc (Ξ #[a',fE,gH,ez] 26)).heap.size:=by rw[fy];have:=hk.size;omega
 revert hM BT Io old hW NK uZ
 generalize (allM w).grow aa (aa.alloc (Ξ #[a',fE,gH,ez] 26))=M1;clear U4;generalize aa.alloc (Ξ #[a',fE,gH,ez] 26)=w1;intro hM BT old Io hW NK uZ;obtain⟨o,ho,bL,hd,hg⟩:=m01;refine dJ ho (cx hg) rfl (λaa _=>⟨_,run_assign _ aa bL,eE⟩) ?_;rw[hd];obtain⟨o,ho,bL,hd,hg⟩:=m02;refine dJ ho (cx hg) rfl (λaa _=>⟨_,run_assign _ aa bL,eE⟩) ?_;rw[hd];refine jl ?_;obtain⟨x0,xW⟩:=sN (ext σ lb bk) (η #[a',fE,gH,ez]);have c0: mn.cell? ⟨lb,0,H⟩=J (Y I b.ab):=mH Cf rfl rfl;have c1: mn.cell? ⟨lb,1,H⟩=J pv:=mH Cf rfl rfl;have Hc: mn.cell? ⟨lb,2,H⟩=J bv:=mH Cf rfl rfl;have c3: mn.cell? ⟨lb,3,H⟩=J tv:=mH Cf rfl rfl;have ai:lb<mn.heap.size:=(Ϝ.1 Cf).1
 have Fj:=apl (Z:=ext σ lb bk) (p:=π (J ⟨lb,0,H⟩)) (p':=π (J ⟨bk,0,H⟩)) xW (.ptr ⟨.inr ⟨rfl,rfl⟩,rfl,rfl⟩);exact ψ _ _ mn lb bk _ x0 _ ⟨hW,.inl h.iy,IN,mP,.inr ⟨rfl,rfl⟩,pB,It,c0,c1,Hc,c3,⟨_,_,_,T7,c2,NK,by rw[aeS,<-en2];rfl⟩,old,uZ⟩ ai hM (λa q hq=>by
  rcases hq with hq| ⟨_,rfl⟩
  ·exact BT q (h.core.dq _ _ hq)
  ·exact Io) BT Fj
def stA(h:KI b σ wl pv bv tv B arg w)(ag:bT b 0=0):
 Walk ϋ D (Ss b pv bv tv B w.heap.size w cs) (allM w) (rg 38 (#[arg]++ϱ 40 L) [.code (.seq (.region 0 p0 U) (.seq rv (.seq (.region 4 jB D) oY)))] [] .normal cs) w:=
 R8 h λM1 w1 mn lb bk Z x0 hr hP vp hM pD BT Fj=>api ag hP hM pD BT Fj (akd hP.hB hP.book ag hP.c0 hP.c1 hP.c2 hP.c3 vp)
end Go.Jn
namespace Go.Jn
open Go Go.Proofs Go.Sim Go.Conc
section
variable {P:ϗ}{main:Bool}
variable {f:Æ}{t:Array z}{k:List Item}{θ:List Ê}{kd:Ů}{cs:List ϝ}
def apz(ho:ops[i]?=J o)(hg:ϸ o (À ops t)=U)(hd:o.dst=H)(aa:N):
 ϙ P main (rg f t (.inRegion ops (i::rest)::k) θ .normal cs) aa=.go (rg f t (.inRegion ops rest::k) θ .normal cs) aa #[]:=by
 simp[ϙ,ϻ,ho,hg,ē,hd]
def YR(ho:ops[i]?=J o)(hg:ϸ o (À ops t)=D)(ag:o.op=.assign (.const v))(aa:N):
 ∃es,ϙ P main (rg f t (.inRegion ops (i::rest)::k) θ .normal cs) aa=.go (rg f (aA t o.dst v) (.inRegion ops rest::k) θ .normal cs) aa es:=
 ⟨_,J8 ho hg rfl (es:=#[]) (by rw[execOp,ag];rfl)⟩
end
def ny(p:ϗ):Nat->ϐ->ϐ->Prop
 |0,g,cz=>g=cz
 |n+1,g,cz=>g.callers≠ []/\∃dP,(∀w,∃es,ϙ p D g w=.go dP w es)/\ny p n dP cz
def ny.trans{p:ϗ}{b:Nat}{y υ:ϐ}(k:ny p b y υ):∀ {a:Nat} {x:ϐ},ny p a x y->ny p (a+b) x υ
 |0,x,h=>by cases(show x=y from h);rw[Nat.zero_add];exact k
 |a+1,x,h=>by rw[Nat.succ_add];exact⟨h.1,h.2.choose,h.2.choose_spec.1,ny.trans k h.2.choose_spec.2⟩
def ny.cons{p:ϗ}{n:Nat}{x y υ:ϐ}(hc:x.callers≠ [])(h:∀w,∃es,ϙ p D x w=.go y w es)(k:ny p n y υ):ny p (n+1) x υ:=⟨hc,y,h,k⟩
abbrev lp:ϗ:= @Tw.prog jU
def Hv:lp.funcs[21]?=J stub:=by
 letI:=jU
 exact(congrArg (·[21]?) Tw.P6).trans Tw.Be
section
variable {x:Array z}{fr:ϝ}{cs:List ϝ}
def YY:ny lp 3 (aT (à lp 21 x .normal) (fr::cs))
 (rg 21 (aA (x++ϱ (1 - x.size) L) (J 1) (.bool D)) (.inRegion zb [1,2]:: [.code .ret]) [] .normal (fr::cs)):=by
 rw[OE Hv (c:=.seq (.region 0 zb U) .ret) rfl x .normal];refine .cons (by simp) (λw=>⟨#[],by simp[ϙ,ϻ];rfl⟩) ?_;refine .cons (by simp) (λw=>⟨#[],by simp[ϙ,ϻ];rfl⟩) ?_;refine .cons (by simp) (λw=>YR (o:=zb[0]) rfl rfl rfl w) ?_;rfl
def apC(hx:x.size<=1):ny lp 8 (aT (à lp 21 x .normal) (fr::cs)) (aT (fr.finish (.bool D)) cs):=by
 refine ny.trans (a:=3) (b:=5) ?_ YY;have V:(x++ϱ (1 - x.size) L).size=1:=by simp;omega
 generalize (x++ϱ (1 - x.size) L)=t at V;have e1:aA t (J 1) (.bool D)=t:=by show t.setIfInBounds 1 _=t;rw[Array.setIfInBounds_eq_of_size_le (by omega)]
 rw[e1];have hy:ϸ zb[1] (À zb t)=U:=by have:t[1]?=H:=ę (by omega);show(À zb t 0==J D)=U;unfold À;show((match(t[1]?:Option z) with|some (Value.bool b)=>J b|_=>H)==J D)=U;rw[this];rfl
 refine .cons (by simp) (λw=>⟨#[],apz (o:=zb[1]) rfl hy rfl w⟩) ?_;refine .cons (by simp) (λw=>YR (o:=zb[2]) rfl rfl rfl w) ?_;have e0:(aA t (J 0) (.bool D)).getD 0 L=.bool D:=by simp[aA,V]
 have e2:aA t zb[2].dst (.bool D)=aA t (J 0) (.bool D):=rfl;rw[e2]
 revert e0
 generalize aA t (J 0) (.bool D)=t2;intro e0;refine .cons (by simp) (λw=>⟨#[],by simp[ϙ,ϻ];rfl⟩) ?_;refine .cons (by simp) (λw=>⟨#[],by simp[ϙ,ϻ];rfl⟩) ?_;refine .cons (by simp) (λw=>⟨#[],?_⟩) rfl;have e:Ð lp D ⟨21,t2,[.code .ret],[],.returning,.normal,H⟩ (fr::cs) H w=.go (aT (fr.finish (.bool D)) cs) w #[]:=by
  have T:(results stub t2).runT lp w #[]=(.ok (.bool D) w,#[]):=by have e:results stub t2=ł (.bool D):=(by unfold results;rw[show stub.results=#[.tmp 0] from rfl];simp only[ķ,Aki,Akg,e0];rfl);rw[e];rfl
  unfold Ð;simp only[Hv,T,vR,â,doReturn];rfl
 exact e
def apD(hx:2<=x.size)(w:N):∃o aa es,ϙ lp D (rg 21 (aA (x++ϱ (1 - x.size) L) (J 1) (.bool D)) (.inRegion zb [1,2]:: [.code .ret]) [] .normal (fr::cs)) w=.ended o aa es:=by
 have V:2<=(x++ϱ (1 - x.size) L).size:=by rw[Array.size_append,Array.size_replicate];omega
 generalize (x++ϱ (1 - x.size) L)=t at V;have hy:ϸ zb[1] (À zb (aA t (J 1) (.bool D)))=D:=by have:(aA t (J 1) (.bool D))[1]?=J (.bool D):=Aj0 (by omega);show(À zb (aA t (J 1) (.bool D)) 0==J D)=D;unfold À;show((match((aA t (J 1) (Value.bool D))[1]?:Option z) with|some (Value.bool b)=>J b|_=>H)==J D)=D;rw[this];rfl
 generalize (aA t (J 1) (.bool D))=t2 at hy;have ho:zb[1]?=J zb[1]:=rfl;have hx:∃h,(execOp (aX t2) zb[1]).runT lp w #[]=(.halt (.stuck h) w,#[]):=⟨_,rfl⟩
 obtain⟨h,hx⟩:=hx;have e1:á ⟨21,t2,.inRegion zb [1,2]:: [.code .ret],[],.run,.normal,H⟩=aX t2:=uU;simp only[ϙ,ϻ,ho,ó,hy,Λ,if_true,ů,Ş,Ù,e1,hx,â];exact⟨_,_,_,rfl⟩
end
end Go.Jn
namespace Go.Jn
open Go Go.Proofs Go.Sim Go.Conc
def sD(w:N):Prop:=∃fr,w.heap[0]?=J (Ξ #[.func (.func 234) #[] #[],.func (.func 236) #[] #[]] 146 fr)
def DC:Prop:=∀ {gs:Array ϐ} {w:N} {t:ε} {q:Nat->Nat} {x:Array z} {fr:ϝ} {cs:List ϝ} (sl:Option (Nat×Nat)),x.size<=1->sD w->
 Fr ϋ gs w t q (aT (à ϋ 21 x .normal) (fr::cs))->
 ∃Ψ aY w' bB t' q',Ā ϋ Ψ (ϫ gs w sl) t=(.next (ϫ aY w' bB),t')/\Fr ϋ aY w' t' q' (aT (fr.finish (.bool D)) cs)/\Base w w'/\∀b,b<w.heap.size->w'.heap[b]?=w.heap[b]?
abbrev oA(S:Tl):=Rel ϋ (@Tw.F jU) C1 S G0
def oA.all{M:Sim.ay}(h:oA S M Z g w g' w'):oA S (allM w') Z g w g' w':=
 ⟨h.gr,h.core,h.iy,Bu h.core,λ_ hb=>ly.1 hb⟩
def ot(Z:Ren)(wl:N)(b:Nat):Prop:=∀a,Z a b->∃o,wl.heap[a]?=J o/\mw o
def Ea{M b6:Sim.ay}{aF:N}(h:iO M Z wl w' b6 aM aa aF){b:Nat}(hb:b<w'.heap.size)(hf:ot Z wl b):ot aM aa b:=λa ha=>by
 rcases h.new a b ha with x| ⟨_,y⟩
 ·obtain⟨o,ho,fo⟩:=hf a x;exact⟨o,h.lD a o ho fo,fo⟩
 ·omega
def ap5(hR:oA S (allM w') Z g wl g' w')
 (dc:∃b fr ba cs bu,g=aT fr cs/\g'=aT ba bu/\ee C1 S Z b fr ba/\Below C1 S Z b cs bu)
 {nx:Tape->ϐ×N}(hn:∀hr:Tape,(∃es,ϙ lp D g (bq wl hr)=.go (nx hr).1 (nx hr).2 es)/\Plain (nx hr).1)
 {t:ε}{q:Nat->Nat}(sl:Option (Nat×Nat))(hF:Fr ϋ gs w' t q g'):
 ∃Ψ jw aF oZ pa tz eB hr aM,Ā ϋ Ψ (ϫ gs w' sl) t=(.next (ϫ jw aF oZ),pa)/\Fr ϋ jw aF pa tz eB/\oA S (allM aF) aM (nx hr).1 (nx hr).2 eB aF/\Base w' aF/\
  (∀b,b<w'.heap.size->ot Z wl b->aF.heap[b]?=w'.heap[b]?/\ot aM (nx hr).2 b):=by
 have key:∀aa:N,∃y:ϐ×N×Array Event,bR (allM w') w' aa->∃(hr:Tape) (aM:Ren),ϙ ϋ D g' aa=.go y.1 y.2.1 y.2.2/\eZ (allM w') aa y.2.1 y.2.2/\
  oA S ((allM w').grow aa y.2.1) aM (nx hr).1 (nx hr).2 y.1 y.2.1/\iO (allM w') Z wl aa ((allM w').grow aa y.2.1) aM (nx hr).2 y.2.1:=by
  intro aa;by_cases k:bR (allM w') w' aa
  ·obtain⟨hr,aM,eB,aF,es,a1,a2,a3,a4⟩:=X7 aeZ (hR.keep k) dc hn D;exact⟨(eB,aF,es),λ_=>⟨hr,aM,a1,a2,a3,a4⟩⟩
  ·exact⟨(g',aa,#[]),λx=>absurd x k⟩
 have bh:g'.status=.running:=by obtain⟨b,fr,ba,cs,bu,_,rfl,_⟩:=dc;rfl
 have hW:Walk ϋ D (λb6 eB aF=>∃(hr:Tape) (aM:Ren),oA S b6 aM (nx hr).1 (nx hr).2 eB aF/\iO (allM w') Z wl w' b6 aM (nx hr).2 aF) (allM w') g' w':=by
  refine .step bh (λaa=>ì (key aa)) (λaa k=>?_) λaa k=>.stop λau k₂=>?_
  ·obtain⟨hr,aM,a1,a2,a3,a4⟩:=Ï (key aa) k;exact⟨a1,a2⟩
  ·obtain⟨hr,aM,a1,a2,a3,a4⟩:=Ï (key aa) k;exact⟨hr,aM,a3.keep k₂,((iO.keep k).trans a4 hR.low).trans (iO.keep k₂) hR.low⟩
 obtain⟨Ψ,jw,b6,eB,aF,oZ,pa,tz,r1,_,⟨⟨hr,aM,zG,cr⟩,hb⟩,uY⟩:=DK (Gp hW (G7 w')) gs sl t q hF (λb hb=>ly.1 hb);exact⟨Ψ,jw,aF,oZ,pa,tz,eB,hr,aM,r1,uY,oA.all zG,hb,λb hb hf=>⟨cr.jd b (ly.2 hb) hf,Ea cr hb hf⟩⟩
def Yn{Q:ϐ->N->Prop}(P1:∀g w,Q g w->g.callers=[]){cz:ϐ}:∀ {n:Nat} {g:ϐ} {w:N},ny lp n g cz->Sim.Safe lp Q g w->Sim.Safe lp Q cz w
 |0,g,w,h,V=>by cases(show g=cz from h);exact V
 |n+1,g,w,h,V=>by
  obtain⟨hc,dP,h1,h2⟩:=h;cases V with
  |stop hq=>exact absurd (P1 _ _ hq) hc|step nx hn V=>obtain⟨⟨es,k1⟩,_⟩:=hn w.tape;obtain⟨es',k2⟩:=h1 (bq w w.tape);rw[k2] at k1;simp only[GStep.go.injEq] at k1;have:=V w.tape;rw[<-k1.1,<-k1.2.1] at this;exact Yn P1 h2 this
def ap4(An:DC){Q:ϐ->N->Prop}(P1:∀g w,Q g w->g.callers=[])(V:Sim.Safe lp Q g wl):
 ∀ {n:Nat} {cz:ϐ},ny lp n g cz->∀ {Z:Ren} {g':ϐ} {w':N},oA S (allM w') Z cz wl g' w'->sD w'->ot Z wl 0->
 ∀ {gs:Array ϐ} {t:ε} {q:Nat->Nat} (sl:Option (Nat×Nat)),Fr ϋ gs w' t q g'->
 ∃Ψ jw aF oZ pa tz eB aM dP aa,Ā ϋ Ψ (ϫ gs w' sl) t=(.next (ϫ jw aF oZ),pa)/\Fr ϋ jw aF pa tz eB/\Q dP aa/\oA S (allM aF) aM dP aa eB aF/\Base w' aF/\
  (∀b,b<w'.heap.size->ot Z wl b->aF.heap[b]?=w'.heap[b]?):=by
 induction V with
 | @stop g w h=>
   intro n cz hl Z g' w' hR hM h0 gs t q sl hF;cases n with
   |zero=>cases(show g=cz from hl);exact⟨0,gs,w',sl,t,q,g',Z,g,w,rfl,hF,h,hR,G7 _,λ_ _ _=>rfl⟩
   |succ n=>exact absurd (P1 _ _ h) hl.1
 | @step g w nx hn V ih=>
   intro n cz hl Z g' w' hR hM h0 gs t q sl hF;have along:∀ {n:Nat} {cz:ϐ},ny lp (n+1) g cz->∀ {Z:Ren} {g':ϐ} {w':N},oA S (allM w') Z cz w g' w'->sD w'->ot Z w 0->∀ {gs:Array ϐ} {t:ε} {q:Nat->Nat} (sl:Option (Nat×Nat)),Fr ϋ gs w' t q g'->
    ∃Ψ jw aF oZ pa tz eB aM dP aa,Ā ϋ Ψ (ϫ gs w' sl) t=(.next (ϫ jw aF oZ),pa)/\Fr ϋ jw aF pa tz eB/\Q dP aa/\oA S (allM aF) aM dP aa eB aF/\Base w' aF/\
     (∀b,b<w'.heap.size->ot Z w b->aF.heap[b]?=w'.heap[b]?):=by
    intro n cz hl Z g' w' hR hM h0 gs t q sl hF;obtain⟨hc,dP,h1,h2⟩:=hl;obtain⟨⟨es,k1⟩,_⟩:=hn w.tape;obtain⟨es',k2⟩:=h1 (bq w w.tape);rw[k2] at k1;simp only[GStep.go.injEq] at k1;obtain⟨e1,e2,_⟩:=k1;have:=ih w.tape (n:=n) (cz:=cz) (e1▸h2) (Z:=Z) (g':=g') (w':=w') (e2▸hR) hM (e2▸h0) sl hF;rw[<-e2] at this;exact this
   cases n with
   |succ n=>exact along hl hR hM h0 sl hF
   |zero=>
    cases(show g=cz from hl);have gr:=hR.gr;generalize eg:g=gg at gr;generalize TW:g'=gg' at gr;cases gr with
    | @inside b fr ba cs bu cq hL=>
      subst eg TW;obtain⟨Ψ,jw,aF,oZ,pa,tz,eB,hr,aM,r1,uY,zG,hb,hk⟩:=ap5 hR ⟨b,fr,ba,cs,bu,rfl,rfl,cq,hL⟩ hn sl hF;have hz:0<w'.heap.size:=by obtain⟨_,h⟩:=hM;exact(Ϝ.1 h).1
      have Nr:sD aF:=(by obtain⟨f,h⟩:=hM;exact⟨f,(hk 0 hz h0).1.trans h⟩);obtain⟨N2,zw,eF,QC,Q1,Qe,Ee,bM,cz,au,r2,Nq,hq,Nv,NN,Oo⟩:=ih hr (n:=0) rfl zG Nr (hk 0 hz h0).2 oZ uY;exact⟨Ψ+N2,zw,eF,QC,Q1,Qe,Ee,bM,cz,au,vO _ _ _ r1 r2,Nq,hq,Nv,sG hb NN,λb ao hf=>(Oo b (Ϣ ao hb.size) (hk b ao hf).2).trans (hk b ao hf).1⟩
    | @hole b f hf x x' hx fr ba cs bu h aw hL=>
      have hf:f=21:=(by simpa [C1] using hf);subst hf eg TW;have hxs:=hx.1;by_cases h2:x.size<=1
      ·obtain⟨Ψ,jw,aF,oZ,pa,tz,r1,uY,hb,hk⟩:=An sl (by omega) hM hF;have Nr:sD aF:=(by obtain⟨f,h⟩:=hM;exact⟨f,(hk 0 (Ϝ.1 h).1).trans h⟩);have core:=uQ hR.core hb.size λa b hab=>hk b (hR.core.dq a b hab);have zG:oA S (allM aF) Z (aT (fr.finish (.bool D)) cs) w (aT (ba.finish (.bool D)) bu) aF:=
        ⟨.inside (D9 h (.bool D) aw) hL,core,hR.iy,Bu core,λ_ hb=>ly.1 hb⟩
       obtain⟨N2,zw,eF,QC,Q1,Qe,Ee,bM,cz,au,r2,Nq,hq,Nv,NN,Oo⟩:=along (n:=7) (apC h2) zG Nr h0 oZ uY;exact⟨Ψ+N2,zw,eF,QC,Q1,Qe,Ee,bM,cz,au,vO _ _ _ r1 r2,Nq,hq,Nv,sG hb NN,λb ao hf=>(Oo b (Ϣ ao hb.size) hf).trans (hk b ao)⟩
      ·exfalso;have iE:=Yn P1 (YY (x:=x) (fr:=fr) (cs:=cs)) (.step nx hn V);cases iE with
       |stop hq=>exact absurd (P1 _ _ hq) (by simp)|step nx2 dn _=>obtain⟨⟨es,k1⟩,_⟩:=dn w.tape;obtain⟨o,aa,es',k2⟩:=apD (x:=x) (fr:=fr) (cs:=cs) (by omega) (bq w w.tape);rw[k2] at k1;cases k1
end Go.Jn
namespace Go.Jn
open Go Go.Proofs Go.Conc
section
variable {ν:Type}{enc:ώ×z->ν}
def akc{a:Assume}{C:Checked}{os:Os}{s:ChangeSpec}{conds:List PathCond}{apart fresh handsOn again:Bool}{X:N->Array z->Prop}
 (hX:∀(w w':N) (args:Array z),w.heap=w'.heap->X w args->X w' args)
 (own:ownKnob C.prog.godebug=H)(started:os.Started)(ED:C.prog.funcs[f]?=J fn)
 (witness:∃(w:N) (tape:Tape) (i:Input),w.os=os/\(w.forCall tape i).Shaped C.prog/\i.vars=[]/\Input.okWide C.prog (w.forCall tape i) .any w.heap.size f i/\
   ((s.pre enc C.prog fn conds apart (w.forCall tape i).memory i.args/\X (w.forCall tape i).memory i.args)/\sizedMet enc C.prog fn (OpenSpec.ofChange s) apart (w.forCall tape i).memory i.args)/\a.holds C.prog (lone (à C.prog f i.args .normal) [] (w.forCall tape i)))
 (runs:∀(W:N) (base:Nat) (args:Array z) (ds gs:List (DataW ν)) (before:List MemPlace),
   (∀(j:Nat) t v,fn.params[j]?=J t->args[j]?=J v->Value.okWide C.prog W .any base t v)->
   DataW.Whole enc C.prog fn.params.toList s.vars apart W args.toList ds gs before->W.ShapedOpen C.prog->X W args->
   ∃M last o w' t',Ā C.prog (M+1) (solo (G (à C.prog f args .normal) []) W) #[]=(.ended o w',t')/\runN C.prog M (solo (G (à C.prog f args .normal) []) W)=.next last/\
    step C.prog last=.ended o w'/\Conc.Good C.prog (λv W'=>s.post enc C.prog fn apart fresh handsOn again W args v W') last o w' t'):
 ReturnsInLeavingWide a C os f .any (λw args=>(s.pre enc C.prog fn conds apart w args/\X w args)/\sizedMet enc C.prog fn (OpenSpec.ofChange s) apart w args) (s.post enc C.prog fn apart fresh handsOn again):=by
 refine returnsInLeavingWide_of_good own started witness ?_;intro w tape i _ xQ _ cD aiu ase;obtain⟨_,_,_,fn',ahJ,_,_,_,_,vD⟩:=cD;have e:fn'=fn:=ϟ (ahJ.symm.trans ED);subst e;obtain⟨⟨⟨ds,gs,before,hw,hc⟩,hx⟩,hz⟩:=aiu;have Ct:=DataW.Whole.of_heap (w':=w.forCall tape i) (by rfl) hw
 obtain⟨M,last,o,w',t',h1,h2,h3,v,e1,h4,h5⟩:=runs (w.forCall tape i) w.heap.size i.args ds gs before vD Ct xQ (hX _ _ _ (by rfl) hx);exact⟨M,last,o,w',t',h1,h2,h3,v,e1,ChangeSpec.post_blind h4,h5⟩
end
end Go.Jn
namespace Go.Jn
open Go Go.Proofs Go.Sim Go.Tw
def fI(W:N)(a:Nat):Prop:=∃c e fr,W.heap[a]?=J (.cells c e fr)
def MA{p:Addr}(h: W.cell? p=J v):fI W p.block:=by
 unfold World.cell? at h;split at h
 ·rename_i c e fr ho;exact⟨c,e,fr,ho⟩
 ·cases h
def Mz(h:fI W a):a<W.heap.size:=by obtain⟨c,e,fr,h⟩:=h;exact(Ϝ.1 h).1
def BG:ϋ.cellsOf 3=1:=by kernel_rfl
def Ts:ϋ.cellsOf 9=1:=by kernel_rfl
def adq:ϋ.cellsOf 22=1:=by kernel_rfl
def adr:ϋ.cellsOf 23=1:=by kernel_rfl
def ads:ϋ.cellsOf 24=1:=by kernel_rfl
def adt:ϋ.cellsOf 26=4:=by kernel_rfl
def adu:ϋ.cellsOf 33=1:=by kernel_rfl
def Hg:ϋ.cellsOf 37=2:=by kernel_rfl
def adv:ϋ.cellsOf 57=1:=by kernel_rfl
def adw:ϋ.cellsOf 59=3:=by kernel_rfl
def adx:ϋ.cellsOf 72=4:=by kernel_rfl
def Tt:ϋ.cellsOf 95=3:=by kernel_rfl
section
variable {ν:Type}{enc:ώ×z->ν}{W:N}{n:Nat}{cs:List z}{y:DataW ν×List MemPlace}
abbrev oC(enc:ώ×z->ν)(W:N)(n:Nat)(t:ώ)(cs:List z):Option (DataW ν×List MemPlace):=DataW.trod enc ϋ W 0 (λ_=>D) D n t cs
def CX{α:Type}{t:ώ}{sz:Nat}{R:α->List z->Prop}(ht:ϋ.underlying t=J (.slice e))(hc:ϋ.cellsOf e=sz)(aN:0<sz)
 (N7:∀(m:Nat) (cs:List z) (y:DataW ν×List MemPlace),oC enc W m e cs=J y->cs.length=sz->∃x,R x cs)(h:oC enc W n t cs=J y):
 ∃v xs,cs=[v]/\Row W W.heap.size sz R v xs/\Sv (fI W) v:=by
 rcases DataW.trod_slice ht h with⟨rfl,_⟩ | ⟨a,len,cap,elems,rest,m,_,rfl,_,_,hl,hm,hlen,ahC,aiA,_⟩
 ·exact⟨_,[],rfl,Row.nil,λA n c e=>by cases e⟩
 ·have one:∀i,i<cap->∃cs y,W.cells? 0 (a.add (i * sz)) sz=J cs/\oC enc W m e cs=J y:=λi hi=>by
   by_cases h1:i<len
   ·have:=ahC i h1;rw[Ñ (by omega),hc,đ] at this;obtain⟨cs,h2,h3⟩:=this;exact⟨cs,_,h2,h3⟩
   ·obtain⟨T,hj⟩:=aiA rfl;have:=hj (i - len) (by omega);rw[Ñ (by omega),hc,đ,show len+(i - len)=i by omega] at this;obtain⟨cs,h2,h3⟩:=this;exact⟨cs,_,h2,h3⟩
  have two:∀i,i<cap->∃x cs,R x cs/\cs.length=sz/\∀j u,cs[j]?=J u-> W.cell? (a.add (i * sz+j))=J u:=λi hi=>by obtain⟨cs,y,h1,h2⟩:=one i hi;obtain⟨_,h3,h4⟩:=World.cells?_some h1;obtain⟨x,hx⟩:=N7 m cs y h2 h3;refine⟨x,cs,hx,h3,λj u hu=>?_⟩;have hj:j<sz:=(by have:=(List.getElem?_eq_some_iff.1 hu).1;omega);rw[<-Sx,h4 j hj];exact hu
  have hS:0<cap->fI W a.block:=λte=>by
   obtain⟨x,cs,_,h3,h4⟩:=two 0 te;obtain⟨u,hu⟩:∃u,cs[0]?=J u:=⟨cs[0]'(by omega),Ñ _⟩
   have:=MA (h4 0 u hu);rw[b9] at this;exact this
  refine⟨_,List.ofFn λi:Fin len=>ì (two i.1 (by omega)),rfl,⟨J a,cap,by rw[List.length_ofFn],by rw[List.length_ofFn];exact hl,hm,λhx=>⟨a,rfl,?_,λi x hi=>?_⟩⟩,λA n c e h0=>?_⟩
  ·refine Mz (hS ?_);rcases Akl len with h0|h0
   ·subst h0;exact absurd rfl hx
   ·omega
  ·rw[List.getElem?_ofFn] at hi;split at hi
   ·rename_i ao;cases hi;exact Ï (two i (by omega))
   ·cases hi
  ·cases e;rcases Akl cap with h|h
   ·exact .inr h
   ·exact .inl (hS h)
def Cz(h:oC enc W n 3 cs=J y):∃x:Int,cs=[Y I x]:=by obtain⟨x,rfl,_⟩:=DataW.trod_int Tryz.underlying3 h;exact⟨x,rfl⟩
def YX(h:oC enc W n 9 cs=J y):∃s:ByteArray,cs=[.string s]/\s.size<=maxLen:=by obtain⟨x,rfl,_,h⟩:=DataW.trod_string Tryz.underlying9 h;exact⟨x,rfl,h⟩
def oE{t:ώ}(ht:ϋ.underlying t=J (.struct fs))(h:oC enc W n t cs=J y)(i:Nat){u:ώ}{o sz:Nat}(hc:ϋ.cellsOf u=sz)(hf:∃f,fs[i]?=J f/\f.type=u/\f.offset=o):
 ∃m υ,oC enc W m u ((cs.drop o).take sz)=J υ:=by
 obtain⟨f,hf,rfl,rfl⟩:=hf;obtain⟨xs,m,_,_,_,hl,h1⟩:=DataW.trod_struct ht h;have hi:i<xs.length:=by have:=(Ϝ.1 hf).1;omega
 exact⟨m,xs[i],by rw[<-Ñ hi,<-hc];exact h1 i f hf⟩
def PC{t:ώ}(ht:ϋ.underlying t=J (.struct fs))(h:oC enc W n t cs=J y):cs.length=ϋ.cellsOf t:=by obtain⟨xs,m,_,_,hl,_⟩:=DataW.trod_struct ht h;exact hl
def J5(h:oC enc W n 37 cs=J y):∃x:Span,Span.R x cs:=by
 have hl:=PC Tryz.underlying37 h;rw[Hg] at hl;obtain⟨a,b,rfl⟩:∃a b,cs=[a,b]:=by
  match cs,hl with
  | [a,b],_=>exact⟨a,b,rfl⟩
 obtain⟨_,_,h0⟩:=oE Tryz.underlying37 h 0 (u:=3) (o:=0) BG ⟨_,rfl,rfl,rfl⟩;obtain⟨_,_,h1⟩:=oE Tryz.underlying37 h 1 (u:=3) (o:=1) BG ⟨_,rfl,rfl,rfl⟩;simp only[Akj,Akk] at h0 h1;obtain⟨x0,e0⟩:=Cz h0;obtain⟨x1,e1⟩:=Cz h1;cases e0;cases e1;exact⟨⟨x0,x1⟩,rfl⟩
def am8(h:oC enc W n 72 cs=J y)(hl:cs.length=4):∃x:Piece,Piece.R x cs:=by
 obtain⟨a,b,c,d,rfl⟩:∃a b c d,cs=[a,b,c,d]:=by
  match cs,hl with
  | [a,b,c,d],_=>exact⟨a,b,c,d,rfl⟩
 obtain⟨_,_,h0⟩:=oE Tryz.underlying72 h 0 (u:=9) (o:=0) Ts ⟨_,rfl,rfl,rfl⟩;obtain⟨_,_,h1⟩:=oE Tryz.underlying72 h 1 (u:=37) (o:=1) Hg ⟨_,rfl,rfl,rfl⟩;obtain⟨_,_,h2⟩:=oE Tryz.underlying72 h 2 (u:=3) (o:=3) BG ⟨_,rfl,rfl,rfl⟩;simp only[Akj,Akk] at h0 h1 h2;obtain⟨s,e0,V⟩:=YX h0;obtain⟨x,e1⟩:=J5 h1;obtain⟨υ,e2⟩:=Cz h2;cases e0;cases e1;cases e2;exact⟨⟨s,x,υ⟩,rfl,V⟩
def acN(h:oC enc W n 59 cs=J y)(hl:cs.length=3):∃x:bN,bN.R W W.heap.size x cs/\∀u∈cs,Sv (fI W) u:=by
 obtain⟨a,b,c,rfl⟩:∃a b c,cs=[a,b,c]:=by
  match cs,hl with
  | [a,b,c],_=>exact⟨a,b,c,rfl⟩
 obtain⟨_,_,h0⟩:=oE Tryz.underlying59 h 0 (u:=9) (o:=0) Ts ⟨_,rfl,rfl,rfl⟩;obtain⟨_,_,h1⟩:=oE Tryz.underlying59 h 1 (u:=3) (o:=1) BG ⟨_,rfl,rfl,rfl⟩;obtain⟨_,_,h2⟩:=oE Tryz.underlying59 h 2 (u:=57) (o:=2) adv ⟨_,rfl,rfl,rfl⟩;simp only[Akj,Akk] at h0 h1 h2;obtain⟨s,e0,V⟩:=YX h0;obtain⟨υ,e1⟩:=Cz h1;obtain⟨v,xs,e2,T,hv⟩:=CX (R:=Span.R) Tryz.underlying57 Hg (by omega) (λm cs y h _=>J5 h) h2;cases e0;cases e1;cases e2;refine⟨⟨s,υ,xs⟩,⟨_,rfl,V,T⟩,λu hu=>?_⟩;simp only[Ϡ,Á,or_false] at hu;rcases hu with rfl|rfl|rfl
 ·intro A n c e;cases e
 ·intro A n c e;cases e
 ·exact hv
def Y3(h:oC enc W n 95 cs=J y)(hl:cs.length=3):∃x:Tw.Tape,Tw.Tape.R W W.heap.size x cs/\∀u∈cs,Sv (fI W) u:=by
 obtain⟨a,b,c,rfl⟩:∃a b c,cs=[a,b,c]:=by
  match cs,hl with
  | [a,b,c],_=>exact⟨a,b,c,rfl⟩
 obtain⟨_,_,h0⟩:=oE Tryz.underlying95 h 0 (u:=33) (o:=0) adu ⟨_,rfl,rfl,rfl⟩;obtain⟨_,_,h1⟩:=oE Tryz.underlying95 h 1 (u:=37) (o:=1) Hg ⟨_,rfl,rfl,rfl⟩;simp only[Akj,Akk] at h0 h1;obtain⟨v,xs,e0,T,hv⟩:=CX (R:=bI) Tryz.underlying33 BG (by omega) (λm cs y h _=>Cz h) h0;obtain⟨x,e1⟩:=J5 h1;cases e0;cases e1;refine⟨⟨xs,x⟩,⟨_,rfl,T⟩,λu hu=>?_⟩;simp only[Ϡ,Á,or_false] at hu;rcases hu with rfl|rfl|rfl
 ·exact hv
 ·intro A n c e;cases e
 ·intro A n c e;cases e
def acR(h:oC enc W n 26 cs=J y):∃(b:eR) (pv bv tv:z),cs=[Y I b.ab,pv,bv,tv]/\GF (fI W) W W.heap.size b pv bv tv:=by
 have hl:=PC Tryz.underlying26 h;rw[adt] at hl;obtain⟨a,b,c,d,rfl⟩:∃a b c d,cs=[a,b,c,d]:=by
  match cs,hl with
  | [a,b,c,d],_=>exact⟨a,b,c,d,rfl⟩
 obtain⟨_,_,h0⟩:=oE Tryz.underlying26 h 0 (u:=3) (o:=0) BG ⟨_,rfl,rfl,rfl⟩;obtain⟨_,_,h1⟩:=oE Tryz.underlying26 h 1 (u:=22) (o:=1) adq ⟨_,rfl,rfl,rfl⟩;obtain⟨_,_,h2⟩:=oE Tryz.underlying26 h 2 (u:=23) (o:=2) adr ⟨_,rfl,rfl,rfl⟩;obtain⟨_,_,h3⟩:=oE Tryz.underlying26 h 3 (u:=24) (o:=3) ads ⟨_,rfl,rfl,rfl⟩;simp only[Akj,Akk] at h0 h1 h2 h3;obtain⟨υ,e0⟩:=Cz h0;obtain⟨pv,ps,e1,r1,s1⟩:=CX (R:=Piece.R) Tryz.underlying22 adx (by omega) (λm cs y h hl=>am8 h hl) h1;obtain⟨bv,bs,e2,r2,s2⟩:=CX (R:=λx cs=>bN.R W W.heap.size x cs/\∀u∈cs,Sv (fI W) u) Tryz.underlying23 adw (by omega) (λm cs y h hl=>acN h hl) h2;obtain⟨tv,ts,e3,r3,s3⟩:=CX (R:=λx cs=>Tw.Tape.R W W.heap.size x cs/\∀u∈cs,Sv (fI W) u) Tryz.underlying24 Tt (by omega) (λm cs y h hl=>Y3 h hl) h3;cases e0;cases e1;cases e2;cases e3;exact⟨⟨υ,ps,bs,ts⟩,_,_,_,rfl,r1,r2,r3,s1,s2,s3⟩
end
end Go.Jn
namespace Go.Jn
open Go Go.Proofs Go.Sim Go.Conc
def amR(h:∀c,C.clean c->C'.clean c){o:Obj}(x:jq C Z o o'):jq C' Z o o':=by
 cases x with
 |cells e hc hf=>exact .cells e hc hf
 |map clock hm=>exact .map clock hm
 |loop hl=>
  cases hl with
  |mk st qP fn ps qi body ht hd ha hb hp=>exact .loop (.mk st qP fn ps qi body ht hd (h _ ha) (h _ hb) λc hc=>h _ (hp c hc))
 |FY=>exact .FY
 |calls=>exact .calls
 |stringIter s p=>exact .stringIter s p
 |number lost ha=>exact .number lost ha
def aec(h:∀c,C.clean c->C'.clean c)(x:cg C Z w w'):cg C' Z w w':=
 ⟨x.dL,x.dq,x.fn,x.inj,λa b o hab ho=>by obtain⟨o',h1,h2⟩:=x.obj a b o hab ho;exact⟨o',h1,amR h h2⟩⟩
def Sp(f r:Nat)(g:ϐ)(_:N):Prop:=∃(t:Array z) (todo:List Item),t[r]?=J (.bool D)/\g=aT ⟨f,t,todo,[cQ],.returning,.normal,H⟩ []
def DD:Tl:=⟨.skip,[],[],[],.normal⟩
def ajY{f:Nat}(hc:cC ϋ G0 c=D)
 (hl:∀hr,c.wp lp (λe bJ _=>e=.ret/\bJ.defers=[cQ]/\bJ.tmps[r]?=J (.bool D)) ⟨tl,[cQ]⟩ (bq wl hr))
 (hW:cg C1 Z wl w)(hg:Z 0 0)(hn:bO wl.heap)(ht:aV Z tl t'):
 Sim.Safe lp (Sp f r) (aT ⟨f,tl,[.code c,.code dt],[cQ],.run,.normal,H⟩ []) wl:=by
 have hG:∀g,G0 g=D->Z g g:=λg nJ=>by
  have:g=0:=by simpa [G0] using nJ
  subst this;exact hg
 let b:ϝ:={ (default:ϝ) with fn:=f,kind:=.normal}
 have cq:ee CA DD Z D ⟨f,tl,[.code c,.code dt],[cQ],.run,.normal,H⟩ ⟨f,t',[.code c],[],.run,.normal,H⟩:=
  .mk f ht (.cons (.code c hc) .stop) .stop .run .none ⟨λh=>by simp at h,λ_=>rfl,λh=>absurd rfl h,λh=>by simp at h,rfl,λ_=>rfl⟩
 have hi:Inv CA DD G0 (aT ⟨f,tl,[.code c,.code dt],[cQ],.run,.normal,H⟩ []) wl:=⟨hn,Z,D,_,_,_,_,w,rfl,hG,cq,.base,aec (C:=C1) (C':=CA) (λ_ h=>h) hW⟩
 have h:=Qn (S:=DD) aeY (λ_=>rfl) (Q:=Sp f r) (λg w hr h=>h) ?_ hi ?_
 ·rw[Kf] at h;exact h
 ·rintro g w ⟨t,todo,_,rfl⟩ ch;simp
 ·intro hr;rw[Kf];obtain⟨e,bJ,aa,⟨rfl,h2,h3⟩,todo,n,T⟩:=hl hr b [.code dt] [];refine⟨n,_,_,aa,T,bJ.tmps,todo,h3,?_⟩;show aT _ _=aT _ _;rw[<-h2];rfl
def am3:Past Jy w.heap.size #[]:=Past.mono past_nil (Nat.zero_le _)
def results1(T:fn.results=#[.tmp r])(t:Array z)(w:N):(results fn t).runT P w #[]=(.ok (t.getD r L) w,#[]):=by
 have e:results fn t=ł (t.getD r L):=by unfold results;rw[T];simp only[ķ,Aki,Akg];rfl
 rw[e];rfl
end Go.Jn
namespace Go.Jn
open Go Go.Proofs Go.Sim Go.Tw
def tk(W:N):Ren:=λa b=>a=b/\fI W a
def Pv.self(h:Pv (fI W) v):aj (tk W) v v:=by
 cases v;case bool b=>exact .bool b
 case int k n=>exact .int k n
 case float=>exact h.elim
 case complex=>exact h.elim
 case string s=>exact .string s
 case pointer p=>
  cases p with
  |none=>exact .ptrNone|some a=>exact .ptr ⟨⟨rfl,h⟩,rfl,rfl⟩
 case slice p n c=>
  cases p with
  |none=>exact .sliceNone n c
  |some a=>
   rcases h with h| ⟨rfl,rfl⟩
   ·exact .slice n c ⟨⟨rfl,h⟩,rfl,rfl⟩
   ·exact .sliceDead _ _
 case map p=>
  cases p with
  |none=>exact .mapNone|some a=>exact h.elim
 case chan p=>
  cases p with
  |none=>exact .chanNone|some a=>exact h.elim
 case func f x y=>
  cases f with
  |func f=>obtain⟨rfl,rfl⟩:=h;exact .func (.func f) rfl (λi hi _=>absurd hi (by simp)) rfl (λi hi _=>absurd hi (by simp))
  |_=>exact h.elim
 case nilFunc=>exact .nilFunc
 case iface=>exact h.elim
 case nilIface=>exact .nilIface
 case agg=>exact h.elim
 case tuple=>exact h.elim
def J2(W:N)(c:Array z):∃u:Array z,aV (tk W) u c/\u.size=c.size/\∀(i:Nat) (v:z),c[i]?=J v->Pv (fI W) v->u[i]?=J v:=by
 have key:∀v',∃u,aj (tk W) u v'/\(Pv (fI W) v'->u=v'):=λv'=>by
  by_cases hp:Pv (fI W) v'
  ·exact⟨v',hp.self,λ_=>rfl⟩
  ·obtain⟨u,hu⟩:=sN (tk W) v';exact⟨u,hu,λh=>absurd h hp⟩
 refine⟨c.map λv=>ì (key v),⟨by simp,λi h1 h2=>?_⟩,by simp,λi v hi hp=>?_⟩
 ·simp only[Array.getElem_map];exact(Ï (key _)).1
 ·rw[Ē,hi];exact congrArg J ((Ï (key v)).2 hp)
def frI(W:N):Obj->Obj
 | .cells c e _=>.cells (ì (J2 W c)) e (0,(ì (J2 W c)).size)
 |_=>.cells #[] 0 (0,0)
def oF(W:N):N:={W with heap:=W.heap.map (frI W)}
section
variable {W:N}
def Uk:(oF W).heap.size=W.heap.size:=by simp[oF]
def Ht{c:Array z}{fr:Nat×Nat}(h:W.heap[a]?=J (.cells c e fr)):
 ∃u:Array z,(oF W).heap[a]?=J (.cells u e (0,u.size))/\aV (tk W) u c/\u.size=c.size/\∀(i:Nat) (v:z),c[i]?=J v->Pv (fI W) v->u[i]?=J v:=by
 refine⟨ì (J2 W c),?_,Ï (J2 W c)⟩;unfold oF;simp only[Ē,h,ó];rfl
def af3(C:bX):cg C (tk W) (oF W) W where
 dL a b hab:=by rw[Uk];exact Mz hab.2
 dq a b hab:=by rw[<-hab.1];exact Mz hab.2
 fn a b b' x y:=x.1.symm.trans y.1
 inj a a' b x y:=x.1.trans y.1.symm
 obj a b o hab ho:=by obtain⟨rfl,c,e,fr,h⟩:=hab;obtain⟨u,h1,h2,h3,h4⟩:=Ht h;rw[h1] at ho;cases ho;exact⟨_,h,.cells e h2 (.inr ⟨rfl,ϊ _⟩)⟩
def af4(b:Nat):ot (tk W) (oF W) b:=by rintro a ⟨rfl,c,e,fr,h⟩;obtain⟨u,h1,h2,h3,h4⟩:=Ht h;exact⟨_,h1,rfl,ϊ _⟩
def af6:bO (oF W).heap:=by intro o ho hb;obtain⟨a,ha⟩:=Ajz ho;unfold oF at ha;simp only[Ē] at ha;obtain⟨o1,_,rfl⟩:=ď.1 ha;cases o1<;>exact hb
def af2{p:Addr}(h: W.cell? p=J v)(hp:Pv (fI W) v):(oF W).cell? p=J v:=by
 have hS:=MA h;obtain⟨c,e,fr,ho⟩:=hS;obtain⟨u,h1,h2,h3,h4⟩:=Ht ho;unfold World.cell? at h |-;rw[ho] at h;rw[h1];simp only at h |-;split at h
 ·cases h
 ·rename_i V;rw[if_neg V];exact h4 _ _ h hp
variable {α:Type}{B sz:Nat}{R R':α->List z->Prop}{v:z}{xs:List α}
def AR(aN:0<sz)(h:Row W B sz R v xs)(he:Sv (fI W) v):Pv (fI W) v:=by
 obtain⟨A,c,rfl,h1,h2,h3⟩:=h;cases A with
 |none=>exact trivial
 |some A=>
  cases xs with
  |nil=>exact(he A _ c rfl rfl).imp id λh=>⟨rfl,h⟩
  |cons x xs=>
   obtain⟨ad,e,hb,h4⟩:=h3 (by simp);cases e;obtain⟨cs,_,hl,hc⟩:=h4 0 x rfl;obtain⟨u,hu⟩:∃u,cs[0]?=J u:=⟨cs[0]'(by omega),Ñ _⟩
   have:=MA (hc 0 u hu);rw[b9] at this;exact .inl this
def zo(h:Row W B sz R v xs)(hR:∀x cs,R x cs->R' x cs/\∀u∈cs,Pv (fI W) u):Row (oF W) B sz R' v xs:=by obtain⟨A,c,e,h1,h2,h3⟩:=h;refine⟨A,c,e,h1,h2,λhx=>?_⟩;obtain⟨ad,hA,hb,h4⟩:=h3 hx;refine⟨ad,hA,hb,λi x hi=>?_⟩;obtain⟨cs,r,hl,aq⟩:=h4 i x hi;have:=hR x cs r;exact⟨cs,this.1,hl,λj u hu=>af2 (aq j u hu) (this.2 u (ϡ hu))⟩
def af1(h:GF (fI W) W B b pv bv tv):aQ (oF W) B b pv bv tv/\Pv (fI W) pv/\Pv (fI W) bv/\Pv (fI W) tv:=by
 refine⟨⟨zo h.pieces λx cs r=>⟨r,λu hu=>?_⟩,zo h.aC λx cs r=>?_,zo h.aI λx cs r=>?_⟩,AR (by omega) h.pieces h.sp,AR (by omega) h.aC h.sb,AR (by omega) h.aI h.st⟩
 ·obtain⟨rfl,_⟩:=r;simp only[Ϡ,Á,or_false] at hu;rcases hu with rfl|rfl|rfl|rfl<;>exact trivial
 ·obtain⟨⟨kv,rfl,k1,k2⟩,k3⟩:=r;have hp:Pv (fI W) kv:=AR (by omega) k2 (k3 kv (by simp));refine⟨⟨kv,rfl,k1,zo k2 λx cs r=>⟨r,λu hu=>?_⟩⟩,λu hu=>?_⟩
  ·rw[show cs=_ from r] at hu;simp only[Ϡ,Á,or_false] at hu;rcases hu with rfl|rfl<;>exact trivial
  ·simp only[Ϡ,Á,or_false] at hu;rcases hu with rfl|rfl|rfl
   ·exact trivial
   ·exact trivial
   ·exact hp
 ·obtain⟨⟨kv,rfl,k2⟩,k3⟩:=r;have hp:Pv (fI W) kv:=AR (by omega) k2 (k3 kv (by simp));refine⟨⟨kv,rfl,zo k2 λx cs r=>⟨r,λu hu=>?_⟩⟩,λu hu=>?_⟩
  ·rw[show cs=_ from r] at hu;simp only[Ϡ,Á,or_false] at hu;rcases hu with rfl;exact trivial
  ·simp only[Ϡ,Á,or_false] at hu;rcases hu with rfl|rfl|rfl
   ·exact hp
   ·exact trivial
   ·exact trivial
def af5(h:sD W):gF (oF W)/\tk W 0 0:=by
 obtain⟨fr,h⟩:=h;refine⟨?_,rfl,_,_,_,h⟩;obtain⟨u,h1,h2,h3,h4⟩:=Ht h;have e:u=#[.func (.func 234) #[] #[],.func (.func 236) #[] #[]]:=by
  have a0:=h4 0 _ rfl ⟨rfl,rfl⟩;have a1:=h4 1 _ rfl ⟨rfl,rfl⟩;refine ţ λi=>?_
  match i with
  |0=>rw[a0];rfl
  |1=>rw[a1];rfl
  |i+2=>rw[ę (by rw[h3];simp),ę (by simp)]
 subst e;exact⟨_,h1⟩
end
end Go.Jn
namespace Go.Jn
open Go Go.Proofs Go.Sim Go.Tw Go.ChangeShapes Go.WideShapes Go.ChangeAt Go.RowKit
abbrev FK{ν:Type}:List (String×DataW ν):=[("ribband/mould.measures",YtfifdjajcogccaaGreatDoor.Rows.laid_ribband_mould_measures)]
def amS:ownKnob ϋ.godebug=H:=by kernel_rfl
def Jf:laidOutB ϋ=D:=by kernel_rfl
def agj:ϋ.globalNamed "ribband/mould.measures" =J 0:=by kernel_rfl
def apM:(ϋ.globals[0]?).map (·.type)=J 146:=by kernel_rfl
def adn:ϋ.cellsOf 145=1:=by kernel_rfl
def ado:ϋ.cellsOf 146=2:=by kernel_rfl
def adm:ϋ.cellsOf 143=1:=by kernel_rfl
def aeu(os:Os)(args:Array z):laidMetH ϋ FK ((World.doorLaid ϋ 600 os).forCall (λ_ _=>0) ⟨#[],args,[]⟩).memory:=
 laidMetH_of_parts3 (fuel:=8) (laidMet_of_run' 8 (by kernel_rfl) (by kernel_rfl)) (by kernel_rfl) (by kernel_rfl)
def aoX(os:Os)(args:Array z):((World.doorLaid ϋ 600 os).forCall (λ_ _=>0) ⟨#[],args,[]⟩).Shaped ϋ:=
 World.shaped_of_RefB (by kernel_rfl) (by kernel_rfl)
def acw:(((begin ϋ (λ_ _=>0) default).world.heap[0]?).bind Obj.row?).map (λx=>(x.1.size,x.2))=J (2,146):=by kernel_rfl
def agm:0<ϋ.globals.size:=of_decide_eq_true (by kernel_rfl)
def XQ{c:z}{d:DataW (List UInt8)}{q:List MemPlace}{b:UInt8}{r:List UInt8}{f0:Æ}
 (Cm:((List.range ϋ.funcs.size).filter λf=>(ϋ.funcs[f]?).any (·.name.toUTF8.data.toList==b::r))=[f0])
 (h:DataW.trod (funcToken ϋ) ϋ W 0 (λ_=>D) D n 145 [c]=J (d,q))(hd:d=.agg [.held (b::r)]):c=.func (.func f0) #[] #[]:=by
 obtain⟨xs,m,_,hx,_,hl,h1⟩:=DataW.trod_struct Tryz.underlying145 h;have e:=congrArg Prod.fst hx;simp only[hd,DataW.agg.injEq] at e;match xs,hl with
 | [x],_=>
   simp only[Ę,ĥ,List.cons.injEq,and_true] at e;have h2:DataW.trod (funcToken ϋ) ϋ W 0 (λ_=>D) D m 143 [c]=J x:=by have:=h1 0 _ rfl;simpa [adm] using this
   obtain⟨x1,x2⟩:=x;simp only at e;subst e;exact func_of_trod Tryz.underlying143 Cm h2
def ale(V:W.ShapedOpen ϋ)(h:laidMetH ϋ FK W):sD W:=by
 obtain⟨g,t,cs,fuel,p,hg,ht,hv,hd⟩:=h.funcs (Ô.2 rfl);obtain rfl:=ϟ (agj.symm.trans hg);obtain rfl:=ϟ (apM.symm.trans ht);obtain⟨xs,m,_,hx,hl,hn,h1⟩:=DataW.trod_array Tryz.underlying146 hd;rw[ado] at hl;have e:=congrArg Prod.fst hx;match cs,hl with
 | ⟨[c0,c1]⟩,_=>
 match xs,hn with
 | [x0,x1],_=>
   have e2:(DataW.agg [.agg [.held [114,105,98,98,97,110,100,47,109,111,117,108,100,46,109,101,97,115,117,114,101,115,36,49]],.agg [.held [114,105,98,98,97,110,100,47,109,111,117,108,100,46,109,101,97,115,117,114,101,115,36,50]]]:DataW (List UInt8))=.agg [x0.1,x1.1]:=e;simp only[DataW.agg.injEq,List.cons.injEq,and_true] at e2;have k0:=h1 0 (by omega)
   have k1:=h1 1 (by omega);simp only[adn] at k0 k1;have f0:c0=.func (.func 234) #[] #[]:=XQ (by kernel_rfl) (show DataW.trod (funcToken ϋ) ϋ W 0 (λ_=>D) D m 145 [c0]=J (x0.1,x0.2) from k0) e2.1.symm
   have f1:c1=.func (.func 236) #[] #[]:=XQ (by kernel_rfl) (show DataW.trod (funcToken ϋ) ϋ W 0 (λ_=>D) D m 145 [c1]=J (x1.1,x1.2) from k1) e2.2.symm;subst f0 f1;have hb:=acw;cases hz:((begin ϋ (λ_ _=>0) default).world.heap[0]?).bind Obj.row? with
   |none=>rw[hz] at hb;cases hb
   |some υ=>
    rw[hz] at hb;obtain⟨zero,t⟩:=υ;simp only[ó,Đ,Prod.mk.injEq] at hb;obtain⟨aZ,rfl⟩:=hb;obtain⟨bu,hc,aN,_⟩:=V.1 0 zero 146 agm hz;refine⟨(0,0),?_⟩;rw[hc];have cell:∀i,W.cell? ⟨0,i,H⟩=bu[i]?:=λi=>cell_of_row W 0 i _ 146 _ hc
    have a0:=World.var?_cell hg hv 0;have a1:=World.var?_cell hg hv 1;rw[cell] at a0 a1;have:bu=#[.func (.func 234) #[] #[],.func (.func 236) #[] #[]]:=by
     refine ţ λi=>?_
     match i with
     |0=>exact a0|1=>exact a1|i+2=>rw[ę (by rw[aN,aZ];omega),ę (by simp)]
    rw[this]
end Go.Jn
namespace Go.Jn
open Go Go.Proofs Go.Sim Go.Conc Go.Tw Go.RowKit
def ams:stub.ntmps=1:=rfl
def anL:stub.results=#[.tmp 0]:=rfl
def J9(w:N):Calls lp 21 #[] w λe w'=>e=Ω (.bool D)/\w=w':=by
 letI:=jU
 go_enter Hv,ams;unfold zb;go_wp2;exact bodyPost_ret (v:=.bool D) (by simp[results,anL,go_sem]) rfl ⟨rfl,rfl⟩
@[go_sem]theorem call21(args:Array z)(w:N):(callFunc 21 args).run (@Tw.prog jU) w=.ok (.enter 21 args) w:=by obtain⟨c,hc,_⟩:=Ka;have h:=DU (P:=lp) Hv hc QJ args w;have:=congrArg Prod.fst h;rw[Sem.runT_fst] at this;exact this
def c7:Ϙ:=(Tryz.f7.body).getD .skip
def t7(v:z)(p q:Nat):Array z:=#[v,.int .u8 p,.int .u8 q,L,L,L,L,L,L,L,L,L,L,L,L,L,L,L,L,L,L,L,L,L,L,L,L,L,L,L,L,L,L,L,L,L,L,L,L,L,L,L,L,L,L,L,L,L,L,L,L,L,L,L,L,L,L,L,L,L,L,L,L,L,L,L,L,L,L,L,L,L,L,L,L,L,L,L,L,L,L,L,L,L,L,L,L,L,L,L,L,L,L,L,L,L,L,L,L,L,L,L,L,L,L,L,L,L,L,L,L,L,L,L,L,L,L,L,L,L,L]
def GS(r:Nat)(e:Exit)(a:Act)(_:N):Prop:=e=.ret/\a.defers=[cQ]/\a.tmps[r]?=J (.bool D)
end Go.Jn
namespace Go.Jn
open Go Go.Proofs Go.Sim Go.Tw Go.Conc Go.ChangeShapes Go.WideShapes Go.ChangeAt Go.RowKit
open YtfifdjajcogccaaGreatDoor
def ant(q1:Pv (fI W) pv)(q2:Pv (fI W) bv)(q3:Pv (fI W) tv):aj (tk W) (η #[Y I b.ab,pv,bv,tv]) (η #[Y I b.ab,pv,bv,tv]):=
 .agg rfl λi h1 h2=>by
  match i,h1,h2 with
  |0,_,_=>exact .int _ _
  |1,_,_=>exact q1.self
  |2,_,_=>exact q2.self
  |3,_,_=>exact q3.self
def anB(Z:Ren)(n:Nat):aV Z (ϱ n L) (ϱ n L):=
 cf.refl λa ha=>by rw[(Aav.1 ha).2];exact aj.tuple' .empty
end Go.Jn
namespace Go.Jn
open Go Go.Proofs Go.Sim Go.Conc Go.Tw Go.RowKit
def c6:Ϙ:=(Tryz.f6.body).getD .skip
def t6(v k:z):Array z:=#[v,k,L,L,L,L,L,L,L,L,L,L,L,L,L,L,L,L,L,L,L,L,L,L,L,L,L,L,L,L,L,L,L,L,L,L,L,L,L,L,L,L,L,L,L,L,L,L,L,L,L,L,L,L,L,L,L,L,L,L,L,L,L,L,L,L,L,L,L,L,L,L,L,L,L,L,L,L,L,L,L,L,L,L,L,L,L,L,L,L,L,L,L,L,L,L,L,L,L,L,L,L,L,L,L,L,L,L,L,L,L,L,L,L,L,L,L,L,L,L,L,L,L,L,L,L,L,L,L,L,L,L,L,L,L,L,L,L,L,L,L,L,L,L,L,L,L,L,L,L,L,L,L,L,L,L,L,L,L,L,L,L,L,L,L,L,L,L,L,L,L,L,L,L,L,L,L,L,L,L,L,L,L,L,L,L,L,L,L,L,L,L,L,L,L,L,L,L,L,L,L,L,L,L,L,L,L,L,L,L]
end Go.Jn
namespace Go.Jn
open Go Go.Proofs Go.Sim Go.Conc Go.Tw
def anK(w:N)(cN cL:Nat):Sim.ay:=⟨λq=>q<w.heap.size/\q≠cN/\q≠cL,λ_=>False⟩
def apk{w2:N}{p6 p7:Nat}{t1:Array z}{M:Sim.ay}(hP:LO b Z wl pv bv tv B lb bk n NB wB w1)(h4:R4 t1 (allM w1) w1 cN cL p6 p7 t M w2):
 ∃eA Rb l6 l7,St b eA Rb pv bv tv B lb l6 l7 bk p6 p7 cN cL n NB wB (anK w2 cN cL) w2/\(∀a q,eA a q->q<max p6 p7+1)/\NB<=max p6 p7+1:=by
 obtain⟨core,iy,Xw,fixed,rb,hB,book,c0,c1,c2,c3,⟨bc,e,fb,A,c,ai,an⟩,old,eQ⟩:=hP;have kept:∀q,q<w1.heap.size->w2.heap[q]?=w1.heap[q]?:=λq hq=>h4.kept q (.inl hq)
 have aeb:=uQ core h4.size λa q hq=>kept q (core.dq a q hq);have jk:∀(σ:Ren) (c:Nat),aV σ #[μ #[]] #[.chan (J c)]:=λσ c=>⟨rfl,λj h1 h2=>by
  have:j=0:=by simp at h1;omega
  subst this;exact .junk rfl (by simp) (by simp)⟩
 have eS:=wS (o:=.cells #[μ #[]] 154 (0,1)) aeb h4.vn.2.2.2 (λa ha=>by have:=core.dq a _ ha;have:=h4.vn.2.2.1;omega) (.cells 154 (jk _ _) (.inr ⟨rfl,by simp⟩));have ia:=wS (o:=.cells #[μ #[]] 155 (0,1)) eS h4.vl.2.2.2 (λa ha=>by
  rcases ha with ha| ⟨_,e⟩
  ·have:=core.dq a _ ha;have:=h4.vl.2.2.1;omega
  ·exact h4.np e.symm) (.cells 155 (jk _ _) (.inr ⟨rfl,by simp⟩))
 have st1:=(Δ.refl wl).alloc hB (Ξ #[μ #[]] 154 (0,1));have pB:B<=(wl.alloc (Ξ #[μ #[]] 154 (0,1))).heap.size:=by rw[fy];exact Akm hB
 have lf:=st1.alloc pB (Ξ #[μ #[]] 155 (0,1));have cl:∀ {j:Nat} {v:z},wl.cell? ⟨lb,j,H⟩=J v->((wl.alloc (Ξ #[μ #[]] 154 (0,1))).alloc (Ξ #[μ #[]] 155 (0,1))).cell? ⟨lb,j,H⟩=J v:=λhv=>
  (ð _ _ ⟨lb,_,H⟩ (by show lb<_;rw[fy];have:=core.dL _ _ rb;omega)).trans ((ð wl _ _ (core.dL _ _ rb)).trans hv)
 have Jk:∀ {q:Nat},q<w1.heap.size->q<w2.heap.size/\q≠cN/\q≠cL:=λ{q} hq=>⟨Ϣ hq h4.size,by have:=h4.n.2.2.1;omega,by have:=h4.l.2.2.1;omega⟩
 have Xp:p6<w2.heap.size/\p6≠cN/\p6≠cL:=⟨h4.low _ (.inl h4.vn.2.1),(by rintro rfl;have:=h4.vn.2.2.2;rw[h4.n.2.2.2] at this;cases this),(by rintro rfl;have:=h4.vn.2.2.2;rw[h4.l.2.2.2] at this;cases this)⟩
 have Xq:p7<w2.heap.size/\p7≠cN/\p7≠cL:=⟨h4.low _ (.inl h4.vl.2.1),(by rintro rfl;have:=h4.vl.2.2.2;rw[h4.n.2.2.2] at this;cases this),(by rintro rfl;have:=h4.vl.2.2.2;rw[h4.l.2.2.2] at this;cases this)⟩
 refine⟨_,_,_,_,⟨⟨ia,.inl (.inl iy),bO.push (bO.push Xw (o:=.cells #[μ #[]] 154 (0,1)) (λh=>h)) (o:=.cells #[μ #[]] 155 (0,1)) (λh=>h),?_,?_,.inl (.inl rb),.inl (.inr ⟨rfl,rfl⟩),.inr ⟨rfl,rfl⟩,by rw[fy];exact Akm pB,book.still lf,cl c0,cl c1,cl c2,cl c3⟩,?_,.inl Xp,.inl Xq,.inl (Jk (core.dq _ _ rb)),h4.vn.2.2.2,h4.vl.2.2.2,
  ⟨bc,e,fb,A,c,(kept _ (core.dq _ _ rb)).trans ai,an⟩,λq hq=>⟨.inl (Jk (by omega)),(kept q (by omega)).trans (old q hq)⟩,Ϥ eQ h4.size,⟨?_,?_⟩,⟨h4.low _ (.inl h4.n.2.1),h4.low _ (.inl h4.l.2.1)⟩⟩,?_,by have:=h4.vn.2.2.1;omega⟩
 ·rintro a q ((ha| ⟨_,rfl⟩) | ⟨_,rfl⟩)
  ·exact .inl (Jk (core.dq _ _ ha))
  ·exact .inl Xp
  ·exact .inl Xq
 ·rintro a q ((ha| ⟨rfl,_⟩) | ⟨rfl,_⟩)
  ·obtain⟨o,k1,k2⟩:=fixed a q ha;have:=core.dL _ _ ha;exact⟨o,(lz (by rw[fy];omega)).trans ((lz this).trans k1),k2⟩
  ·exact⟨_,(lz (by rw[fy];omega)).trans kQ,⟨rfl,by simp⟩⟩
  ·exact⟨_,kQ,⟨rfl,by simp⟩⟩
 ·rintro q (hq|hq)
  ·exact hq.1
  ·exact hq.elim
 ·rintro(hq|hq)
  ·exact hq.2.1 rfl
  ·exact hq
 ·rintro(hq|hq)
  ·exact hq.2.2 rfl
  ·exact hq
 ·rintro a q ((ha| ⟨_,rfl⟩) | ⟨_,rfl⟩)
  ·have:=core.dq _ _ ha;have:=h4.vn.2.2.1;omega
  ·omega
  ·omega
section
variable {b:eR}{Z:Ren}{wl wB:N}{pv bv tv:z}{B lb l6 l7 bk p6 p7 cN cL n N0 NB NR:Nat}{cX:Nat->Bool}{cs:List ϝ}
def hears(T:∀a q,Z a q->q<NR)(hN:NB<=NR)(hn:n<=1000)(t:Array z)(M:Sim.ay)(w:N)(V:kO bk p6 p7 t)(hS:(St b Z wl pv bv tv B lb l6 l7 bk p6 p7 cN cL n NB wB) M w)(Ek:NR<=w.heap.size):
 Walk ϋ D (oB (Pm.mk ϋ n N0 cL cN cX sr (yO NR NB wB cs)) n []) M (rg 38 t [.code (.seq (.region 11 CU U) vN)] [] .normal cs) w:=by
 refine fZ (iu ?_);rw[s11];obtain⟨o,ho,ag,hd,hg⟩:=akJ;refine dJ (v:=E H 0 0) ho (cx hg) rfl (λaa _=>⟨_,run_assign t aa ag,eE⟩) ?_;rw[hd];have h9:(aA t (J 9) (E H 0 0))[9]?=J (E H 0 0):=eX (by rw[V.sz];omega)
 have di:kO bk p6 p7 (aA t (J 9) (E H 0 0)):=V.put ⟨by omega,by omega,by omega⟩
 revert h9 di
 generalize aA t (J 9) (E H 0 0)=t1;intro h9 di;refine jl ?_;rw[anH];refine fZ (fZ (iu ?_));rw[s12];obtain⟨o,ho,ag,hd,hg⟩:=akK;obtain⟨dir,hu⟩:=Da;refine dJ (v:=.chan (J cN)) ho (cx hg) rfl (λaa hk=>⟨_,yz _ aa ag (cT di.t6) hu rfl (mH ((hk.kept _ hS.m6).trans hS.h6) rfl rfl),yx hS.m6 _ rfl⟩) ?_;rw[hd];refine jl (De (Q6 ?_));refine recvs T hN hn n [] _ M w (by simp) (by simp[aA,di.sz]) (eX (by rw[di.sz];omega)) ⟨⟨E H 0 0,(bP (by omega)).trans h9,⟨rfl,.inl ⟨rfl,rfl⟩⟩,λg k c e=>by cases e⟩,Ek,λ_=>(bP (by omega)).trans h9⟩ hS
def apm(xL:∀i,cX i=(search b (cB (aB b)) (λk=>decide (k=i)) b.pieces.length []).isNone)(ag:bT b 0=0)(T:∀a q,Z a q->q<NR)(hN:NB<=NR)(hn:n<=1000)(t:Array z)(M:Sim.ay)(w:N)(V:kO bk p6 p7 t)(hS:(St b Z wl pv bv tv B lb l6 l7 bk p6 p7 cN cL n NB wB) M w)(Ek:NR<=w.heap.size)
 (Ej:∀M w,(St b Z wl pv bv tv B lb l6 l7 bk p6 p7 cN cL n NB wB) M w->NR<=w.heap.size):
 Walk ϋ D (StopA (Pm.mk ϋ n N0 cL cN cX sr (yO NR NB wB cs)) n) M (rg 38 t [.code oY] [] .normal cs) w:=by
 rw[anJ];refine fZ (fZ (iu ?_));rw[s5];obtain⟨bc,e,fb,A,c,ai,an⟩:=hS.hb;obtain⟨o,ho,bL,hd,hg⟩:=m50;obtain⟨fs,fd,fi,hu,hf,ON,hi,aN⟩:=Zj;refine dJ ho (cx hg) rfl (λaa _=>⟨_,Ye t aa bL (cT V.t1) hu hf hi aN,eE⟩) ?_;rw[hd,ON];have di:kO bk p6 p7 (aA t (J 21) (π (J ((⟨bk,0,H⟩:Addr).add 2)))):=V.put ⟨by omega,by omega,by omega⟩
 have sP:(aA t (J 21) (π (J ((⟨bk,0,H⟩:Addr).add 2)))).getD 21 L=π (J ((⟨bk,0,H⟩:Addr).add 2)):=iT (by rw[V.sz];omega)
 revert di sP
 generalize aA t (J 21) (π (J ((⟨bk,0,H⟩:Addr).add 2)))=t1;intro di sP;obtain⟨o,ho,bL,hd,hg⟩:=m51;obtain⟨e23,Ff⟩:=Zi;refine dJ ho (cx hg) rfl (λaa hk=>⟨_,yz _ aa bL sP Ff rfl (mH ((hk.kept _ hS.mb).trans ai) rfl an),yx hS.mb _ rfl⟩) ?_;rw[hd];have dN:kO bk p6 p7 (aA t1 (J 22) (.slice A n c)):=di.put ⟨by omega,by omega,by omega⟩
 have Nf:(aA t1 (J 22) (.slice A n c)).getD 22 L=.slice A n c:=iT (by rw[di.sz];omega)
 revert dN Nf
 generalize aA t1 (J 22) (.slice A n c)=t2;intro dN Nf;obtain⟨o,ho,bL,hd,hg⟩:=m52;refine dJ ho (cx hg) rfl (λaa _=>⟨_,Yg _ aa bL Nf Ff,eE⟩) ?_;rw[hd];have iE:kO bk p6 p7 (aA t2 (J 23) (goInt n)):=dN.put ⟨by omega,by omega,by omega⟩
 have zy:(aA t2 (J 23) (goInt n))[23]?=J (Y I n):=eX (by rw[dN.sz];omega)
 revert iE zy
 generalize aA t2 (J 23) (goInt n)=t3;intro iE zy;obtain⟨o,ho,bL,hd,hg⟩:=m53;refine dJ (v:=Y I 0) ho (cx hg) rfl (λaa _=>⟨_,run_move _ aa bL,eE⟩) ?_;rw[hd];refine jl (De (Q6 ?_));refine spawns xL ag (by omega) (λt M w V hS=>hears T hN hn t M w V hS (Ej M w hS)) n _ M w (ϊ _) (iE.put ⟨by omega,by omega,by omega⟩) ((bP (by omega)).trans zy) ((eX (by rw[iE.sz];omega)).trans (by simp)) hS
end
def results2(T:fn.results=#[.tmp 2,.tmp 3])(t:Array z)(w:N):(results fn t).runT P w #[]=(.ok (μ #[t.getD 2 L,t.getD 3 L]) w,#[]):=by
 have e:results fn t=ł (μ #[t.getD 2 L,t.getD 3 L]):=by unfold results;rw[T];simp only[ķ,Aki,Akg];rfl
 rw[e];rfl
def aqM{Stop:Sim.ay->ϐ->N->Prop}{M:Sim.ay}(hf:P.funcs[f]?=J fn)(T:fn.results=#[.tmp 2,.tmp 3])
 (h:Walk P main Stop M (aT (fr.finish (μ #[t.getD 2 L,t.getD 3 L])) cs) w):Walk P main Stop M (aT ⟨f,t,k,[],.returning,.normal,H⟩ (fr::cs)) w:=
 lL rfl (λaa=>by
  have e:Ð P main ⟨f,t,k,[],.returning,.normal,H⟩ (fr::cs) H aa=.go (aT (fr.finish (μ #[t.getD 2 L,t.getD 3 L])) cs) aa #[]:=by unfold Ð;simp only[hf,results2 T,vR,â,doReturn];rfl
  exact e) h
def akf(hW:cg C0 σ wl w)(T:∀a q,σ a q->q<NR)(hn:bO wl.heap)(ho:w.ownsRow NR 3 1 ov n (zs.map (Y I))):
 ∃(bQ:Ren) (gQ:N) (ol:z),cg C0 bQ gQ w/\σ.le bQ/\(∀a p,bQ a p->σ a p\/(wl.heap.size<=a/\NR<=p))/\aj bQ ol ov/\gQ.ownsRow wl.heap.size 3 1 ol n (zs.map (Y I))/\
  (∀(a:Nat) (o:Obj),wl.heap[a]?=J o->gQ.heap[a]?=J o)/\wl.heap.size<=gQ.heap.size/\bO gQ.heap:=by
 rcases ho.2 with⟨rfl,h0⟩ | ⟨g,cap,cur,rfl,vd,hg,ey,oI,fh,tj⟩
 ·exact⟨σ,wl,E H 0 0,hW,σ.le_refl,λa p h=>.inl h,.sliceNone 0 0,⟨ho.1,.inl ⟨rfl,h0⟩⟩,λ_ _ h=>h,ϊ _,hn⟩
 ·obtain⟨u,hu,Fh⟩:=Qh (ext σ wl.heap.size g) cur n zs tj;have ia:=wS (o:=.cells u 3) hW hg (λa ha=>by have:=T a g ha;omega) (.cells 3 hu (.inl rfl));refine⟨_,_,E (J ⟨wl.heap.size,0,H⟩) n cap,ia,zk _ _ _,?_,.slice _ _ ⟨.inr ⟨rfl,rfl⟩,rfl,rfl⟩,⟨ho.1,.inr ⟨_,cap,u,rfl,ϊ _,kQ,ey,oI,hu.1.trans fh,Fh⟩⟩,
   λa o ha=>(lz (Ϝ.1 ha).1).trans ha,by rw[fy];omega,bO.push hn (o:=.cells u 3) (λh=>h)⟩
  rintro a p (ha| ⟨rfl,rfl⟩)
  ·exact .inl ha
  ·exact .inr ⟨ϊ _,vd⟩
def K6(NB:Nat)(wB:N)(fr:ϝ)(cs:List ϝ)(zs:List Int)(_:Sim.ay)(g:ϐ)(w:N):Prop:=
 ∃ov,g=aT (fr.finish (μ #[ov,Y I 0])) cs/\w.ownsRow NB 3 1 ov zs.length (zs.map (Y I))/\(∀q,q<NB->w.heap[q]?=wB.heap[q]?)/\NB<=w.heap.size
def YI(zs:List Int):(fQ zs).length=zs.length:=by simp[fQ]
def afQ{M:Sim.ay}(hE:yO NR NB wB (fr::cs) aD M g w)(hN:NB<=NR)(hW:cg C0 σ wl wB)(uZ:NB=wB.heap.size)(kA:σ 0 0)(mP:∀a q,σ a q->∃o,wl.heap[a]?=J o/\mw o)(eQ:bO wl.heap)(hg:aD.length<=1000):
 Walk ϋ D (K6 NB wB fr cs (fQ (ints aD))) (allM w) g w:=by
 letI:=jC
 obtain⟨t,υ,rfl,V,BS,⟨⟨ov,h9,aH,_⟩,Ek,OJ⟩,hold,VX⟩:=hE;have IZ:∀a q,σ a q->q<NB:=λa q h=>by rw[uZ];exact hW.dq a q h
 obtain⟨o,ho,ag,hd,ig⟩:=Xs;refine dJ (v:=.bool U) ho (cx ig) rfl (λaa _=>⟨_,F9 t aa ag (cT BS) rfl,eE⟩) ?_;rw[hd];have di:(aA t (J 32) (.bool U)).size=41:=by simp[aA,V]
 have j9:(aA t (J 32) (.bool U))[9]?=J ov:=(bP (by omega)).trans h9;have Pg:(aA t (J 32) (.bool U)).getD 32 L=.bool U:=iT (by omega)
 revert di j9 Pg
 generalize aA t (J 32) (.bool U)=t1;intro di j9 Pg;refine jl ?_;rw[Sf];refine fZ (Df (q:=U) Pg (Q3 (k':=[.code tB]) rfl ?_));rw[anI];refine fZ ?_;have eS:cg C0 σ wl w:=uQ hW (by rw[<-uZ];exact VX) λa q hq=>hold q (IZ a q hq);obtain⟨bQ,gQ,ol,ia,hle,hinv,hv,gv,aim,aiL,OC⟩:=akf eS (λa q h=>Ϣ (IZ a q h) hN) eQ aH;obtain⟨u0,As⟩:=MV bQ t1;have yK:=F6 As hv j9;have hus:(u0.setIfInBounds 9 ol).size=41:=by rw[Ĕ,As.1,di]
 have hu9:(u0.setIfInBounds 9 ol)[9]?=J ol:=eX (by rw[As.1,di];omega);refine piece (S:=⟨.skip,[.code (.seq (.region 17 AP U) .ret)],[],fr::cs,.normal⟩) (c:=.region 16 CV U) (a:=⟨u0.setIfInBounds 9 ol,[cQ]⟩) adA rfl rfl (hl:=λhr=>ao8 (w:=bq gQ hr) (base:=wl.heap.size) (n:=aD.length) (zs:=ints aD) gv (by omega) aiL hus hu9) ia (hle _ _ kA) (Bu ia) (λq hq=>ly.1 hq) OC yK ?_;rintro e bJ aa b6 aM fq aF ⟨rfl,aN,k9,vt⟩ cr gd zS VM xx iW Wu;refine⟨λ_ _=>?_,λhe=>by cases he⟩;have ht:fq.size=41:=Wu.1.symm.trans aN;obtain⟨v',hv9,xU⟩:=JO Wu k9;have hb:∀a q,wl.heap.size<=a->aM a q->NR<=q:=by
  intro a q ha hq;rcases cr.new a q hq with hq| ⟨_,hq⟩
  ·rcases hinv a q hq with hq| ⟨_,hq⟩
   ·have:=hW.dL a q hq;omega
   ·exact hq
  ·omega
 have aiq:aF.ownsRow NB 3 1 v' (fQ (ints aD)).length ((fQ (ints aD)).map (Y I)):=by
  rw[YI];have xF:(ints aD).length=aD.length:=by simp[ints]
  rw[xF];by_cases h0:aD.length=0
  ·have hz:fQ (ints aD)=[]:=Ž (by rw[YI,xF,h0]);have xN:ov=E H 0 0:=by
    have:=OJ (Ž h0);rw[h9] at this;exact ϟ this
   have hol:ol=E H 0 0:=by
    rcases gv.2 with⟨e,_⟩ | ⟨g,cap,cur,e,_⟩
    ·exact e
    ·rw[xN,e,h0] at hv;cases hv
   rw[hol] at xU;cases xU;rw[hz,h0];exact⟨rfl,.inl ⟨rfl,rfl⟩⟩
  ·exact World.ownsRow.base (XW gd xU vt h0 hb).1 hN
 have kept:∀q,q<NB->aF.heap[q]?=wB.heap[q]?:=by
  intro q hq;refine(cr.jd q (.inl (show q<w.heap.size by omega)) λa ha=>?_).trans (hold q hq);rcases hinv a q ha with ha| ⟨_,hx⟩
  ·obtain⟨o,h1,h2⟩:=mP a q ha;exact⟨o,aim a o h1,h2⟩
  ·omega
 have aiK:NB<=aF.heap.size:=Ϥ VX cr.gO;show Walk ϋ D (K6 NB wB fr cs (fQ (ints aD))) b6 (rg 38 fq [.code (.seq (.region 17 AP U) .ret)] [] .normal (fr::cs)) aF;have hOv:∀g k c,v'=E (J g) k c->b6.has g.block:=by
  intro g k c e;subst e;cases xU with
  |slice _ _ ha=>exact(zS _ _ ha.1).imp id (·.1)
  |sliceDead a1 b1=>
   rcases gv.2 with⟨e,_⟩ | ⟨g',cap,cur,e,_⟩
   ·cases e
   ·have h0:aD.length=0:=by injection e with e1 e2 e3;exact e2.symm
    have:=OJ (Ž h0);rw[h9] at this;rw[ϟ this] at hv;cases hv
  |junk h _ _=>
   rcases gv.2 with⟨e,_⟩ | ⟨g,cap,cur,e,_⟩<;>cases e
 have hMq:∀q,q<NB->b6.has q:=λq hq=>ay.vb cr.R cr.O (.inl (show q<w.heap.size by omega))
 ·refine fZ (iu ?_);rw[s17];obtain⟨o,ho,ag,hd,ig⟩:=akS;have e9:aX fq (.tmp 9)=v':=cT hv9;refine dJ (v:=v') ho (cx ig) rfl (λaa _=>⟨_,(run_move fq aa ag).trans (by rw[e9]),eE⟩) ?_
  rw[hd];have MO:aX (aA fq (J 40) v') (.tmp 40)=v':=iT (by omega)
  have dN:(aA fq (J 40) v').size=41:=by simp[aA,ht]
  revert MO dN
  generalize aA fq (J 40) v'=t2;intro MO dN;obtain⟨o,ho,ag,hd,ig⟩:=akT;refine dJ (v:=v') ho (cx ig) rfl (λaa _=>⟨_,(run_assign t2 aa ag).trans (by rw[MO]),eE⟩) ?_;rw[hd];have e2:(aA t2 (J 2) v')[2]?=J v':=eX (by omega)
  have iE:(aA t2 (J 2) v').size=41:=by simp[aA,dN]
  revert e2 iE
  generalize aA t2 (J 2) v'=t3;intro e2 iE;obtain⟨o,ho,ag,hd,ig⟩:=akU;refine dJ (v:=Y I 0) ho (cx ig) rfl (λaa _=>⟨_,run_assign t3 aa ag,eE⟩) ?_;rw[hd];have e3:(aA t3 (J 3) (Y I 0)).getD 3 L=Y I 0:=iT (by omega)
  have TV:(aA t3 (J 3) (Y I 0)).getD 2 L=v':=cT ((bP (by omega)).trans e2);refine jl (aqL (aqM Tryz.func38 anF ?_));rw[e3,TV];refine .stop λau hk=>⟨v',rfl,?_,?_,Ϥ aiK hk.size⟩
  ·exact P2 aiq λg k c e=>hk.kept _ (hOv g k c e)
  ·exactλq hq=>(hk.kept q (hMq q hq)).trans (kept q hq)
def anc{t0:Array z}{M0 M:Sim.ay}{p6 p7:Nat}(h:R4 t0 M0 w0 cN cL p6 p7 t M w)(k:bR M w aa):R4 t0 M0 w0 cN cL p6 p7 t M aa:=
 ⟨h.n.keep k,h.l.keep k,h.vn.keep k,h.vl.keep k,h.nl,h.np,h.o8,h.same,h.O,h.On,h.R,λb hb=>(k.kept b (hb.imp (h.O b) λx=>by rw[h.R];exact x)).trans (h.kept b hb),Ϥ h.size k.size,λb hb=>Ϣ (h.low b hb) k.size,k.tape.trans h.tape,k.os.trans h.os,k.e.trans h.e⟩
def CN{l:List Nat}(hd:l.Nodup)(h:∀i∈l,i<n):l.length<=n:=by have:=hd.length_le_of_subset (l₂:=List.range n) λi hi=>List.mem_range.2 (h i hi);simpa using this
def FW(b:eR)(i:Nat):Bool:=(search b (cB (aB b)) (λk=>decide (k=i)) b.pieces.length []).isNone
def KU(b:eR):List Nat:=(List.range b.aC.length).filter (FW b)
def ame(hb:KI b σ wl pv bv tv B arg w)(ag:bT b 0=0)
 {t:ε}{q:Nat->Nat}(hF:Fr ϋ gs w t q (aT (à ϋ 38 #[arg] .normal) (fr::cs)))(sl:Option (Nat×Nat)):
 ∃Ψ aY w' bB t' q' g' aD M',Ā ϋ Ψ (ϫ gs w sl) t=(.next (ϫ aY w' bB),t')/\Fr ϋ aY w' t' q' g'/\K6 w.heap.size w fr cs (fQ (ints aD)) M' g' w'/\aD.Nodup/\(∀i,i∈aD↔i<b.aC.length/\FW b i=D)/\Base w w':=by
 have he:à ϋ 38 #[arg] .normal=⟨38,#[arg]++ϱ 40 L,[.code (.seq (.region 0 p0 U) (.seq rv (.seq (.region 4 jB D) oY)))],[],.run,.normal,H⟩:=
  OE Tryz.func38 SL #[arg] .normal
 rw[he] at hF;have iW:b.aC.length<=3:=by letI:=jC;exact(fG (mX ag).1).nb
 obtain⟨N1,UE,M1,g1,w1,Qx,t1,q1,r1,z1,⟨⟨hr,bk,lb,cF,mn,rfl,hT,zH,hP⟩,pB⟩,mL⟩:=DK (Gp (stA (cs:=fr::cs) hb ag) (G7 w)) gs sl t q hF (λq hq=>ly.1 hq);have hE:WalkE ϋ D w1.heap.size (λM g w2=>∃cN cL p6 p7 t2,R4 hr (allM w1) w1 cN cL p6 p7 t2 M w2/\g=rg 38 t2 [.code oY] [] .normal (fr::cs)) (allM w1) (rg 38 hr [.code (.seq (.region 4 jB D) oY)] [] .normal (fr::cs)) w1:=
  Zy rfl (λaa=>by simp[ϙ,ϻ]) (aqK rfl hT (λb hb=>ly.1 hb) λcN cL p6 p7 t2 M w2 h4=>.stop λsR hk=>⟨cN,cL,p6,p7,t2,anc h4 hk,rfl⟩)
 obtain⟨N2,Hz,M2,g2,w2,Qy,t2,q2,r2,z2,⟨⟨cN,cL,p6,p7,T2,h4,rfl⟩,Nj⟩,Ic,Ny⟩:=acy (aqA hE pB) UE Qx t1 q1 mL (λq hq=>ly.1 hq) (mE.of_low mL.il.seen);obtain⟨eA,Rb,l6,l7,hS,Cp,UN⟩:=apk hP h4;have V:kO bk p6 p7 T2:=⟨h4.o8,(h4.same 1 (by omega) (by omega) (by omega) (by omega)).trans zH,h4.vn.1,h4.vl.1⟩
 have Ej:∀(M:Sim.ay) (w':N),St b eA Rb pv bv tv B lb l6 l7 bk p6 p7 cN cL b.aC.length w.heap.size w M w'->max p6 p7+1<=w'.heap.size:=λM w' h=>by have:=h.low _ h.m6;have:=h.low _ h.m7;omega
 have hW:=apm (N0:=Hz.size) (cX:=FW b) (cs:=fr::cs) (λ_=>rfl) ag Cp UN (by omega) T2 _ w2 V hS (Ej _ _ hS) Ej;obtain⟨G,hG⟩:=afM (X:=Pm.mk ϋ b.aC.length Hz.size cL cN (FW b) sr (yO (max p6 p7+1) w.heap.size w (fr::cs))) Ic rfl
  (λq hq=>by
    rcases hq with hq|hq
    ·exact⟨hq.1,hq.2.2,hq.2.1⟩
    ·exact hq.elim) rfl hW h4.l.2.2.2 h4.n.2.2.2 (Θ h4.nl) Ny h4.n.2.2.1
 obtain⟨N3,Nc,w3,Qz,t3,r3,⟨q3,g3,M3,aD,Np,J7,oN,ma,Eu,VM⟩⟩:=afF Qy hG;have kA:aD.length<=1000:=by have:aD.length<=b.aC.length:=CN oN λi hi=>((ma i).1 hi).1;omega
 have N8:=afQ J7 UN hb.core rfl hb.iy hb.fixed hb.nb kA;obtain⟨N4,gs4,M4,g4,w4,sl4,t4,q4,r4,z4,⟨agT,hB4⟩,hF4⟩:=DK (Gp N8 (sG Nj Eu)) Nc Qz t3 q3 Np (λq hq=>ly.1 hq);exact⟨N1+(N2+(N3+N4)),gs4,w4,sl4,t4,q4,g4,aD,M4,vO _ _ _ r1 (vO _ _ _ r2 (vO _ _ _ r3 r4)),hF4,agT,oN,ma,hB4⟩
def ao7(hd:aD.Nodup)(hm:∀i,i∈aD↔i<b.aC.length/\FW b i=D):fQ (ints aD)=ints (KU b):=by
 have hp:aD.Perm (KU b):=(List.perm_ext_iff_of_nodup hd (List.nodup_range.filter _)).2 λi=>by rw[hm i];simp[KU]
 have V:(ints (KU b)).Pairwise (λx y=>decide (x<=y)=D):=by unfold ints KU;rw[List.pairwise_map];refine(List.Pairwise.filter _ List.pairwise_lt_range).imp λh=>?_;simp only[decide_eq_true_eq];omega
 have h1:(fQ (ints aD)).Perm (ints (KU b)):=(List.mergeSort_perm _ _).trans (hp.map _);refine h1.eq_of_pairwise (le:=λx y=>decide (x<=y)=D) (λa c _ _ h k=>by simp only[decide_eq_true_eq] at h k;omega) ?_ V;exact List.pairwise_mergeSort (λa b c h k=>by simp only[decide_eq_true_eq] at *;omega) (λa b=>by simp;omega) _
end Go.Jn
namespace Go.Jn
open Go Go.Proofs Go.Sim Go.Conc Go.Tw Go.RowKit
def iS:Ϙ:=(Tryz.f21.body).getD .skip
def iK:Ϙ:=iS
def iL:Ϙ:=aS iK
def iM:Ϙ:=aS iL
def qe:Ϙ:=aS iM
def jH:Ϙ:=aS qe
def j4:Ϙ:=aS jH
def kK:Ϙ:=aS j4
def lr:Ϙ:=aS kK
def lM:Ϙ:=aS lr
def mo:Ϙ:=aS lM
def wG:Ϙ:=aS mo
def oo:Ϙ:=aS wG
def pb:Ϙ:=aS oo
def pW:Ϙ:=aS pb
def qV:Ϙ:=aS pW
def su:Ϙ:=aS qV
def uA:Ϙ:=aS su
def vZ:Ϙ:=aS uA
def yH:Ϙ:=aS vZ
def yI:Ϙ:=aS yH
def Ba:Ϙ:=aS yI
def Di:Ϙ:=aS Ba
def Gz:Ϙ:=aS Di
def Kv:Ϙ:=aS Gz
def Kw:Ϙ:=aS Kv
def yJ:Ϙ:=aS Kw
def vV:Ϙ:=bp iK
def vW:Ϙ:=bp iL
def vX:Ϙ:=bp iM
def tO:Ϙ:=bp qe
def tP:Ϙ:=bp jH
def tQ:Ϙ:=bp j4
def tR:Ϙ:=bp kK
def tS:Ϙ:=bp lr
def tT:Ϙ:=bp lM
def tU:Ϙ:=bp mo
def tF:Ϙ:=bp wG
def tG:Ϙ:=bp oo
def tH:Ϙ:=bp pb
def tI:Ϙ:=bp pW
def tJ:Ϙ:=bp qV
def tK:Ϙ:=bp su
def tL:Ϙ:=bp uA
def tM:Ϙ:=bp vZ
def Kb:Ϙ:=bp yH
def yB:Ϙ:=bp yI
def yC:Ϙ:=bp Ba
def yD:Ϙ:=bp Di
def yE:Ϙ:=bp Gz
def tN:Ϙ:=bp Kv
def yF:Ϙ:=bp Kw
def acs:Tryz.f21.body=J (chain [vV,vW,vX,tO,tP,tQ,tR,tS,tT,tU,tF,tG,tH,tI,tJ,tK,tL,tM] (.seq Kb (chain [yB,yC,yD,yE,tN,yF] yJ))):=rfl
def adB:∀c∈ [vV,vW,vX,tO,tP,tQ,tR,tS,tT,tU,tF,tG,tH,tI,tJ,tK,tL,tM],C0.clean c:=by
 have h: [vV,vW,vX,tO,tP,tQ,tR,tS,tT,tU,tF,tG,tH,tI,tJ,tK,tL,tM].all (cC ϋ G0)=D:=by decide+kernel
 intro c hc;exact Ħ.1 h c hc
def Gq{P:ϗ}{ju:List Ϙ}{F:Act->N->Prop}{Q:Exit->Act->N->Prop}(h2:∀a w,F a w->fu P ju Q a w):∀(wT:List Ϙ) {a:Act} {w:N},fu P wT (dK F) a w->fu P (wT++ju) Q a w
 | [],a,w,h=>h2 a w h
 |c::cs,a,w,h=>by
  show c.wp P (Exit.then (fu P (cs++ju) Q) Q) a w;have h:c.wp P (Exit.then (fu P cs (dK F)) (dK F)) a w:=h;refine Code.wp_mono (λe a w hq=>?_) h
  cases e with
  |normal=>exact Gq h2 cs hq|_=>exact(hq:False).elim
structure j6(w0 w:N)(gE gp gb gk gt gl gc g3:Nat):Prop where
 ex:yQ w w0.heap.size gp gb gk gt gl
 bE:Bk w gE 26 #[Y I 1,E (J ⟨gp,0,H⟩) 3 3,E (J ⟨gb,0,H⟩) 2 2,E (J ⟨gt,0,H⟩) 1 1]
 bc:Bk w gc 56 #[Y I 1,Y I 0,Y I 0,Y I 0,Y I 0,Y I 4]
 b3:Bk w g3 56 #[Y I 1,Y I 0,Y I 0,Y I 0,Y I 0,Y I 6]
 below:φ w0 w
 lE:w0.heap.size<=gE
section
variable [Go.Tw.aK]
def j6.grown{g3:Nat}(h:j6 w0 w gE gp gb gk gt gl gc g3)(hb:φ w w'):j6 w0 w' gE gp gb gk gt gl gc g3:=
 ⟨⟨h.ex.p.below hb h.ex.p.lt,h.ex.b.below hb h.ex.b.lt,h.ex.k.below hb h.ex.k.lt,h.ex.t.below hb h.ex.t.lt,h.ex.l.below hb h.ex.l.lt,h.ex.hp,h.ex.hb,h.ex.hk,h.ex.ht,h.ex.hl⟩,h.bE.below hb h.bE.lt,h.bc.below hb h.bc.lt,h.b3.below hb h.b3.lt,h.below.trans (hb.mono h.below.size),h.lE⟩
def afB{hs:N}{o:Obj}(h0:yQ hs w0.heap.size gp gb gk gt gl)(hE:Bk hs gE 26 #[Y I 1,E (J ⟨gp,0,H⟩) 3 3,E (J ⟨gb,0,H⟩) 2 2,E (J ⟨gt,0,H⟩) 1 1])
 (hc:Bk hs gc 56 #[Y I 1,Y I 0,Y I 0,Y I 0,Y I 0,Y I 4])(hb:φ w0 hs)(hl:w0.heap.size<=gE):
 j6 w0 ((hs.drew.alloc o).alloc (Ξ #[Y I 1,Y I 0,Y I 0,Y I 0,Y I 0,Y I 6] 56)) gE gp gb gk gt gl gc (hs.heap.size+1):=by
 have hx:φ hs ((hs.drew.alloc o).alloc (Ξ #[Y I 1,Y I 0,Y I 0,Y I 0,Y I 0,Y I 6] 56)):=((dT (RowKit.Below.refl _ _)).alloc (ϊ _) o).alloc (by simp) _;exact⟨⟨h0.p.below hx h0.p.lt,h0.b.below hx h0.b.lt,h0.k.below hx h0.k.lt,h0.t.below hx h0.t.lt,h0.l.below hx h0.l.lt,h0.hp,h0.hb,h0.hk,h0.ht,h0.hl⟩,hE.below hx hE.lt,hc.below hx hc.lt,Bk.bZ (by simp) _ _,hb.trans (hx.mono hb.size),hl⟩
def FA(w0:N)(a:Act)(w:N):Prop:=a.defers=[cQ]/\a.tmps.size=349/\a.tmps[0]?=J (.bool U)/\∃gE gp gb gk gt gl gc g3,a.tmps[1]?=J (π (J ⟨gE,0,H⟩))/\a.tmps[2]?=J (E (J ⟨gc,0,H⟩) 3 3)/\a.tmps[3]?=J (E (J ⟨g3,0,H⟩) 3 3)/\j6 w0 w gE gp gb gk gt gl gc g3
end
end Go.Jn
namespace Go.Jn
open Go Go.Proofs Go.Sim Go.Conc Go.Tw
structure KC(W:N)(σ Z:Ren)(wl w:N):Prop where
 core:cg C0 Z wl w
 iy:Z 0 0
 nb:bO wl.heap
 fix:∀b,b<W.heap.size->ot Z wl b
 kept:∀b,b<W.heap.size->w.heap[b]?=W.heap[b]?
 base:Base W w
 le:σ.le Z
def KC.AK{yG:N}{b6:Sim.ay}(ν:KC W σ Z wl w)(V:iO (allM w) Z wl w b6 aM yG aa)(hW:cg C0 aM yG aa)(hf:Fits b6 aM yG)(hn:bO yG.heap)(hk:bR b6 aa au):KC W σ aM yG au where
 core:=hW.keep hf hk
 iy:=V.le _ _ ν.iy
 nb:=hn
 fix b hb:=Ea V (Ϣ hb ν.base.size) (ν.fix b hb)
 kept b hb:=by have h1:(allM w).has b:=ly.2 (Ϣ hb ν.base.size);exact(hk.kept b (ay.vb V.R V.O h1)).trans ((V.jd b h1 (ν.fix b hb)).trans (ν.kept b hb))
 base:=sG ν.base (sG ⟨V.gO,V.tape,V.os,V.e⟩ (Va hk))
 le:=λa b h=>V.le _ _ (ν.le _ _ h)
def sL(m0:Machine)(t0:ε)(W:N)(σ:Ren)(f:Æ)(cs:List ϝ)(c:Ϙ)(Z:Ren)(u:Array z)(wl:N):Prop:=
 ∃Ψ gs w sl tr q t,Ā ϋ Ψ m0 t0=(.next (ϫ gs w sl),tr)/\Fr ϋ gs w tr q (rg f t [.code c] [] .normal cs)/\aV Z u t/\KC W σ Z wl w
section
variable {m0:Machine}{t0:ε}{W:N}{σ Z:Ren}{f:Æ}{cs:List ϝ}{u:Array z}{wl:N}
def Jb{l:List Ϙ}(hc:∀c∈l,C0.clean c)(h:sL m0 t0 W σ f cs (chain l c) Z u wl){Q:Array z->N->Prop}
 (hl:∀hr,fu (@Tw.prog jC) l (λe a w=>e=.normal/\a.defers=[cQ]/\Q a.tmps w) ⟨u,[cQ]⟩ (bq wl hr)):∃ax u' kz,Q u' kz/\sL m0 t0 W σ f cs c ax u' kz:=by
 obtain⟨Ψ,gs,w,sl,tr,q,t,T,hF,ht,ν⟩:=h;obtain⟨N1,UE,M1,g1,w1,Qx,vH,q1,r1,-,⟨ax,u',kz,t',rfl,hq,ht',H'⟩,mL⟩:=DK (Stop:=λ_ g w'=>∃ax u' kz t',g=rg f t' [.code c] [] .normal cs/\Q u' kz/\aV ax u' t'/\KC W σ ax kz w')
  (pieces (S:=⟨c,[],[],cs,.normal⟩) (cs:=l) hc (a:=⟨u,[cQ]⟩) rfl rfl (λe a w h=>.inl h.1) hl ν.core ν.iy (Bu ν.core) (λb hb=>ly.1 hb) ν.nb ht (by
    rintro e bJ aa b6 aM fq aF D' ⟨rfl,hd,hq⟩ cr NY hf iU hg hn Aq hD;refine⟨λ_=>?_,λh=>by cases h⟩;rw[hd] at hD;rw[zh hD];exact .stop λau hk=>⟨aM,_,aa,fq,rfl,hq,Aq,ν.AK cr NY hf hn hk⟩)) gs sl tr q hF (λb hb=>ly.1 hb)
 exact⟨ax,u',kz,hq,Ψ+N1,UE,w1,Qx,vH,q1,t',vO _ _ _ T r1,mL,ht',H'⟩
end
def apt{fn:Æ}
 (ho:ops[i]?=J o)(hg:ϸ o (À ops t)=D)(T:(execOp (aX t) o).runT P aa #[]=(.ok (.enter f args) aa,#[])):
 ϙ P main (rg fn t (.inRegion ops (i::rest)::k) θ .normal cs) aa=.go (aT (à P f args .normal) (⟨fn,t,.inRegion ops (i::rest)::k,θ,.run,.normal,H⟩::cs)) aa #[]:=by
 have e1:á ⟨fn,t,.inRegion ops (i::rest)::k,θ,.run,.normal,H⟩=aX t:=uU;simp only[ϙ,ϻ,ho,ó,hg,Λ,if_true,ů,Ş,Ù,e1,T];simp[vR,â]
def call38{t:Array z}{a:Nat}(ag:o.op=.call {callee:=.value (.func 38),args:=#[.tmp a],argTypes:=#[26]})(hv:t.getD a L=v)(aa:N):
 (execOp (aX t) o).runT ϋ aa #[]=(.ok (.enter 38 #[v]) aa,#[]):=by
 have h:=DU (P:=ϋ) Tryz.func38 SL al7 #[v] aa;unfold execOp;rw[ag];have e:(aX t) (.tmp a)=v:=hv;have e0:(aX t) (.func 38)=.func (.func 38) #[] #[]:=rfl;simp only[resolve,ī,Ę,ĥ,e,e0,Deferred.ofValue,ç];exact h
section
variable [Go.Tw.aK]
open Go.RowKit in
def akt(ag:o.op=.load 26 (.tmp p))(ht:tl.getD p L=π (J ⟨gE,0,H⟩)){A1 A2 A3:Option Addr}{c3:Nat}{s:Int}
 (hb:Bk w gE 26 #[Y I s,.slice A1 n1 c1,.slice A2 n2 c2,.slice A3 n3 c3]):
 (execOp (aX tl) o).run Tw.prog w=.ok (.value (η #[Y I s,.slice A1 n1 c1,.slice A2 n2 c2,.slice A3 n3 c3])) w:=by
 have q0:=hb.cell 0;have q1:=hb.cell 1;have q2:=hb.cell 2;have q3:=hb.cell 3;have e:(aX tl) (.tmp p)=π (J ⟨gE,0,H⟩):=ht;unfold execOp;rw[ag];simp only[e];go_simp
end
structure wF(ops:Array Ó)(n p a c m e0 e1 d0 d1:Nat):Prop where
 size:ops.size=7
 o0:∃o,ops[0]?=J o/\o.op=.load 26 (.tmp p)/\o.dst=J a/\o.guard=H/\k8 ϋ G0 o=D
 o1:∃o,ops[1]?=J o/\o.op=.call {callee:=.value (.func 38),args:=#[.tmp a],argTypes:=#[26]}/\o.dst=J c/\o.guard=H
 o2:∃o,ops[2]?=J o/\o.op=.move (.tmp c)/\o.dst=J m/\o.guard=H
 o3:∃o,ops[3]?=J o/\o.op=.extract (.tmp m) 0/\o.dst=J e0/\o.guard=H
 o4:∃o,ops[4]?=J o/\o.op=.extract (.tmp m) 1/\o.dst=J e1/\o.guard=H
 o5:∃o,ops[5]?=J o/\o.op=.assign (.tmp e0)/\o.dst=J d0/\o.guard=H
 o6:∃o,ops[6]?=J o/\o.op=.assign (.tmp e1)/\o.dst=J d1/\o.guard=H
 lt:a<n/\c<n/\m<n/\e0<n/\e1<n/\m≠e0/\e0≠e1/\e1≠d0
def ib(u:Array z)(a c m e0 e1 d0 d1:Nat)(x ov s:z):Array z:=
 ((((((u.setIfInBounds a x).setIfInBounds c (μ #[ov,s])).setIfInBounds m (μ #[ov,s])).setIfInBounds e0 ov).setIfInBounds e1 s).setIfInBounds d0 ov).setIfInBounds d1 s
def ahT(h:aV Z u t){c e0 e1 d0 d1:Nat}{s:z}(hx:aj Z x y)(ho:aj Z ol ov)(V:aj Z s s):
 aV Z (ib u a c m e0 e1 d0 d1 x ol s) (ib t a c m e0 e1 d0 d1 y ov s):=by
 have ht:aj Z (μ #[ol,s]) (μ #[ov,s]):=.tuple' ⟨rfl,λi h1 h2=>by
  match i,h1,h2 with
  |0,_,_=>exact ho
  |1,_,_=>exact V⟩
 exact((((((h.set a hx).set c ht).set m ht).set e0 ho).set e1 V).set d0 ho).set d1 V
section
variable {ops:Array Ó}{n p a c m e0 e1 d0 d1:Nat}
def aj8{Stop:Sim.ay->ϐ->N->Prop}{M:Sim.ay}(ν:wF ops n p a c m e0 e1 d0 d1)(V:t.size=n){s:z}
 (h:Walk ϋ main Stop M (rg f (ib t a c m e0 e1 d0 d1 y ov s) k [] .normal cs) w):
 Walk ϋ main Stop M (rg f (aA (aA t (J a) y) (J c) (μ #[ov,s])) (.inRegion ops [2,3,4,5,6]::k) [] .normal cs) w:=by
 obtain⟨la,lc,lm,l0,l1,n1,n2,n3⟩:=ν.lt;unfold ib at h;show Walk _ _ _ _ (rg f ((t.setIfInBounds a y).setIfInBounds c (μ #[ov,s])) _ _ _ _) _;have q0:((t.setIfInBounds a y).setIfInBounds c (μ #[ov,s])).size=n:=by simp[V]
 have r0:((t.setIfInBounds a y).setIfInBounds c (μ #[ov,s])).getD c L=μ #[ov,s]:=cT (eX (by simpa [V] using lc))
 revert q0 r0 h
 generalize (t.setIfInBounds a y).setIfInBounds c (μ #[ov,s])=t1;intro h q0 r0;obtain⟨o,ho,ag,hd,hg⟩:=ν.o2;refine dJ (v:=μ #[ov,s]) ho (cx hg) rfl (λaa _=>⟨_,(run_move t1 aa ag).trans (by rw[show(aX t1) (.tmp c)=_ from r0]),eE⟩) ?_;rw[hd];show Walk _ _ _ _ (rg f (t1.setIfInBounds m (μ #[ov,s])) _ _ _ _) _;have q1:(t1.setIfInBounds m (μ #[ov,s])).size=n:=by simp[q0]
 have r1:(t1.setIfInBounds m (μ #[ov,s]))[m]?=J (μ #[ov,s]):=eX (by omega)
 revert q1 r1 h
 generalize t1.setIfInBounds m (μ #[ov,s])=t2;intro h q1 r1;obtain⟨o,ho,ag,hd,hg⟩:=ν.o3;refine dJ (v:=ov) ho (cx hg) rfl (λaa _=>⟨_,F9 t2 aa ag (cT r1) rfl,eE⟩) ?_;rw[hd];show Walk _ _ _ _ (rg f (t2.setIfInBounds e0 ov) _ _ _ _) _;have q2:(t2.setIfInBounds e0 ov).size=n:=by simp[q1]
 have r2:(t2.setIfInBounds e0 ov)[m]?=J (μ #[ov,s]):=(bP (Θ n1)).trans r1;have r3:(t2.setIfInBounds e0 ov)[e0]?=J ov:=eX (by omega)
 revert q2 r2 r3 h
 generalize t2.setIfInBounds e0 ov=t3;intro h q2 r2 r3;obtain⟨o,ho,ag,hd,hg⟩:=ν.o4;refine dJ (v:=s) ho (cx hg) rfl (λaa _=>⟨_,F9 t3 aa ag (cT r2) rfl,eE⟩) ?_;rw[hd];show Walk _ _ _ _ (rg f (t3.setIfInBounds e1 s) _ _ _ _) _;have q3:(t3.setIfInBounds e1 s).size=n:=by simp[q2]
 have r4:(t3.setIfInBounds e1 s)[e0]?=J ov:=(bP (Θ n2)).trans r3;have r5:(t3.setIfInBounds e1 s)[e1]?=J s:=eX (by omega)
 revert q3 r4 r5 h
 generalize t3.setIfInBounds e1 s=t4;intro h q3 r4 r5;obtain⟨o,ho,ag,hd,hg⟩:=ν.o5;refine dJ (v:=ov) ho (cx hg) rfl (λaa _=>⟨_,(run_assign t4 aa ag).trans (by rw[show(aX t4) (.tmp e0)=_ from cT r4]),eE⟩) ?_;rw[hd];show Walk _ _ _ _ (rg f (t4.setIfInBounds d0 ov) _ _ _ _) _;have r6:(t4.setIfInBounds d0 ov)[e1]?=J s:=(bP (Θ n3)).trans r5
 revert r6 h
 generalize t4.setIfInBounds d0 ov=t5;intro h r6;obtain⟨o,ho,ag,hd,hg⟩:=ν.o6;refine dJ (v:=s) ho (cx hg) rfl (λaa _=>⟨_,(run_assign t5 aa ag).trans (by rw[show(aX t5) (.tmp e1)=_ from cT r6]),eE⟩) ?_;rw[hd];exact jl h
end
end Go.Jn
namespace Go.Jn
open Go Go.Proofs Go.Sim Go.Conc Go.Tw Go.RowKit
attribute [local go_sem] AZ AY Oper.semAt_some
def yn(s:Int)(e:Exit)(a:Act)(_:N):Prop:=e=.ret/\a.defers=[cQ]/\a.tmps[2]?=J (E H 0 0)/\a.tmps[3]?=J (Y I s)
section
variable [Go.Tw.aK]
def ZY(hB:B<=w.heap.size)(ah:aQ w B b pv bv tv)(h:bT b 0≠0)
 (c0: w.cell? ⟨lb,0,H⟩=J (Y I b.ab))(c1: w.cell? ⟨lb,1,H⟩=J pv)(c2: w.cell? ⟨lb,2,H⟩=J bv)(c3: w.cell? ⟨lb,3,H⟩=J tv)(ai:lb<w.heap.size):
 fu prog [rv] (yn (bT b 0))
  ⟨(x0:: π (J ⟨lb,0,H⟩):: E H 0 0:: Y I 0::L::L::L::L::L::L::L::L::L::L::L::L::L::L::L::L::L::L::L::L::L::L::L::L::L::L::L::L::L::L::L::L::L::L::L::L::L:: []).toArray,[cQ]⟩ w:=by
 have aG:=K (ao0 hB ah h);obtain⟨A1,n1,k1,A2,n2,k2,A3,n3,k3,rfl,rfl,rfl⟩:=ah.op;have V:((bT b 0:Int)==0)=U:=by simpa using h
 clear ah;unfold YF at aG;generalize bT b 0=s at *;unfold fu fu;rw[then_self];refine(wpIn_wide (n:=0)).1 ?_;simp only[rv,BB,Tryz.f38,bp,aS,Λ]
 gi_wp2_with (first
  | (gi_at_call 119;refine(callsIn_wide.2 aG.e).mono ?_;rintro e w1 ⟨g,rfl,ai⟩
     have aO:w.heap.size<=w1.heap.size:=ai.size;clear ai))
 exact⟨rfl,rfl,rfl,rfl⟩
end
def agl(h:Z 0 0):∀g,G0 g=D->Z g g:=λg hg=>by
 have:g=0:=by simpa [G0] using hg
 subst this;exact h
def je(b:eR):List Int:=if bT b 0=0 then ints (KU b) else []
def Dq(b:eR)(NB:Nat)(wB:N)(fr:ϝ)(cs:List ϝ)(g:ϐ)(w:N):Prop:=
 ∃ov,g=aT (fr.finish (μ #[ov,Y I (bT b 0)])) cs/\w.ownsRow NB 3 1 ov (je b).length ((je b).map (Y I))/\(∀q,q<NB->w.heap[q]?=wB.heap[q]?)/\NB<=w.heap.size
def aeR(hB:B<=wl.heap.size)(ah:aQ wl B b pv bv tv)(h:bT b 0≠0)
 (c0: wl.cell? ⟨lb,0,H⟩=J (Y I b.ab))(c1: wl.cell? ⟨lb,1,H⟩=J pv)(c2: wl.cell? ⟨lb,2,H⟩=J bv)(c3: wl.cell? ⟨lb,3,H⟩=J tv)(ai:lb<wl.heap.size)(hr:Tape):
 fu (@Tw.prog jC) [rv] (yn (bT b 0)) ⟨((((#[x0]++ϱ 40 L:Array z).setIfInBounds 1 (π (J ⟨lb,0,H⟩))).setIfInBounds 2 (E H 0 0)).setIfInBounds 3 (Y I 0)),[cQ]⟩ (bq wl hr):=by
 letI:=jC
 rw[apX];exact ZY (b:=b) (pv:=pv) (bv:=bv) (tv:=tv) (B:=B) (lb:=lb) (x0:=x0) hB (ah.still λ_ _=>rfl) h c0 c1 c2 c3 ai
def ajL{M1:Sim.ay}(ag:bT b 0≠0)(hP:LO b Z mn pv bv tv B lb bk b.aC.length NB wB w1)
 (hM:∀q,M1.has q->q<w1.heap.size)(pD:∀a q,Z a q->M1.O q)(BT:∀q,q<NB->M1.O q)(Fj:aV Z u hr)(hl:∀hr,fu (@Tw.prog jC) [rv] (yn (bT b 0)) ⟨u,[cQ]⟩ (bq mn hr)):
 Walk ϋ D (λ_ g w'=>Dq b NB wB fr cs g w') M1 (rg 38 hr [.code (.seq rv (.seq (.region 4 jB D) oY))] [] .normal (fr::cs)) w1:=by
 refine pieces (S:=⟨.seq (.region 4 jB D) oY,[],[],fr::cs,.normal⟩) (cs:=[rv]) (f:=38) (a:=⟨u,[cQ]⟩) (λc hc=>?_) rfl rfl (QL:=yn (bT b 0)) (λe a w h=>.inr h.1) hl
  hP.core hP.iy (λa q hq=>.inl (pD a q hq)) hM hP.Xw Fj ?_
 ·simp only[Ϡ,Á,or_false] at hc;subst hc;exact adG
 ·rintro e bJ au ry bM Ki eF D' ⟨rfl,zQ,h2,h3⟩ cr ia oJ aia oK dn xT hD;rw[zQ] at hD;rw[zh hD];refine⟨λhe=>(by cases he),λ_ tW=>?_⟩;obtain⟨v2,k2,r2⟩:=JO xT h2;obtain⟨v3,k3,r3⟩:=JO xT h3;cases r2;cases r3;refine aqM Tryz.func38 anF ?_;rw[cT k2,cT k3];have hz:je b=[]:=if_neg ag;refine .stop λsR hk=>⟨E H 0 0,rfl,by rw[hz];exact⟨rfl,.inl ⟨rfl,rfl⟩⟩,λq hq=>?_,Ϥ hP.nb (Ϥ cr.gO hk.size)⟩
  have hO:M1.has q:=.inl (BT q hq);exact(hk.kept q (ay.vb cr.R cr.O hO)).trans ((cr.jd q hO λa ha=>hP.fixed a q ha).trans (hP.old q hq))
def ajK(h:KI b σ wl pv bv tv B arg w)(ag:bT b 0≠0):
 Walk ϋ D (λ_ g w'=>Dq b w.heap.size w fr cs g w') (allM w) (rg 38 (#[arg]++ϱ 40 L) [.code (.seq (.region 0 p0 U) (.seq rv (.seq (.region 4 jB D) oY)))] [] .normal (fr::cs)) w:=
 R8 h λM1 w1 mn lb bk Z x0 hr hP vp hM pD BT Fj=>ajL ag hP hM pD BT Fj (aeR hP.hB hP.book ag hP.c0 hP.c1 hP.c2 hP.c3 vp)
def ah3(hb:KI b σ wl pv bv tv B arg w)
 {t:ε}{q:Nat->Nat}(hF:Fr ϋ gs w t q (aT (à ϋ 38 #[arg] .normal) (fr::cs)))(sl:Option (Nat×Nat)):
 ∃Ψ aY w' bB t' q' g',Ā ϋ Ψ (ϫ gs w sl) t=(.next (ϫ aY w' bB),t')/\Fr ϋ aY w' t' q' g'/\Dq b w.heap.size w fr cs g' w'/\Base w w':=by
 by_cases ag:bT b 0=0
 ·obtain⟨Ψ,aY,w',bB,t',q',g',aD,M',r,hF',⟨ov,rfl,aH,hk,V⟩,oN,ma,hB⟩:=ame hb ag hF sl;rw[ao7 oN ma] at aH;exact⟨Ψ,aY,w',bB,t',q',_,r,hF',⟨ov,by rw[ag],by rw[je,if_pos ag];exact aH,hk,V⟩,hB⟩
 ·have he:à ϋ 38 #[arg] .normal=⟨38,#[arg]++ϱ 40 L,[.code (.seq (.region 0 p0 U) (.seq rv (.seq (.region 4 jB D) oY)))],[],.run,.normal,H⟩:=
   OE Tryz.func38 SL #[arg] .normal
  rw[he] at hF;obtain⟨N1,UE,M1,g1,w1,Qx,t1,q1,r1,-,⟨hS,pB⟩,mL⟩:=DK (Gp (ajK hb ag) (G7 w)) gs sl t q hF (λq hq=>ly.1 hq);exact⟨N1,UE,w1,Qx,t1,q1,g1,r1,mL,hS,pB⟩
section
variable {ops:Array Ó}{n p a c m e0 e1 d0 d1:Nat}{m0:Machine}{t0:ε}{W:N}{σ Z:Ren}{f:Æ}{cs:List ϝ}{u:Array z}{wl:N}
def aaJ(ν:wF ops n p a c m e0 e1 d0 d1)(t:Array z)(v:z)(k:List Item):ē ⟨f,t,.inRegion ops [1,2,3,4,5,6]::k,[],.run,.normal,H⟩ v=⟨f,aA t (J c) v,.inRegion ops [2,3,4,5,6]::k,[],.run,.normal,H⟩:=by obtain⟨o,ho,_,hd,_⟩:=ν.o1;simp[ē,ho,hd,aA]
def KW(W:N)(σ:Ren)(wl:N)(b:eR)(x:z):Prop:=
 ∀Z hr w v',KC W σ Z (bq wl hr) w->aj Z x v'->∃τ S9 pv bv tv B,KI b τ S9 pv bv tv B v' w
def akg{σ:Ren}{wl:N}(hW:cg C σ wl w)(T:∀a q,σ a q->q<NR)(hn:bO wl.heap){n:Nat}(ho:w.ownsRow NR 3 1 ov n (zs.map (Y I))):
 ∃(bQ:Ren) (gQ:N) (ol:z),cg C bQ gQ w/\σ.le bQ/\(∀a p,bQ a p->σ a p\/(wl.heap.size<=a/\NR<=p))/\aj bQ ol ov/\gQ.ownsRow wl.heap.size 3 1 ol n (zs.map (Y I))/\φ wl gQ/\bO gQ.heap:=by
 rcases ho.2 with⟨rfl,h0⟩ | ⟨g,cap,cur,rfl,vd,hg,ey,oI,fh,tj⟩
 ·exact⟨σ,wl,E H 0 0,hW,σ.le_refl,λa p h=>.inl h,.sliceNone 0 0,⟨ho.1,.inl ⟨rfl,h0⟩⟩,RowKit.Below.refl _ _,hn⟩
 ·obtain⟨u,hu,Fh⟩:=Qh (ext σ wl.heap.size g) cur n zs tj;have ia:=wS (o:=.cells u 3) hW hg (λa ha=>by have:=T a g ha;omega) (.cells 3 hu (.inl rfl));refine⟨_,_,E (J ⟨wl.heap.size,0,H⟩) n cap,ia,zk _ _ _,?_,.slice _ _ ⟨.inr ⟨rfl,rfl⟩,rfl,rfl⟩,⟨ho.1,.inr ⟨_,cap,u,rfl,ϊ _,kQ,ey,oI,hu.1.trans fh,Fh⟩⟩,
   (RowKit.Below.refl _ _).alloc (ϊ _) _,bO.push hn (o:=.cells u 3) (λh=>h)⟩
  rintro a p (ha| ⟨rfl,rfl⟩)
  ·exact .inl ha
  ·exact .inr ⟨ϊ _,vd⟩
def P9(ν:wF ops n p a c m e0 e1 d0 d1){id:Nat}{υ:Ϙ}(h:sL m0 t0 W σ f cs (.seq (.region id ops U) υ) Z u wl)(hn:u.size=n){g:Nat}(hp:u[p]?=J (π (J ⟨g,0,H⟩)))
 {A1 A2 A3:Option Addr}{c3:Nat}(hb:Bk wl g 26 #[Y I b.ab,.slice A1 n1 c1,.slice A2 n2 c2,.slice A3 n3 c3])(hB:KW W σ wl b (η #[Y I b.ab,.slice A1 n1 c1,.slice A2 n2 c2,.slice A3 n3 c3])):
 ∃ax kz hr ol,sL m0 t0 W σ f cs υ ax (ib u a c m e0 e1 d0 d1 (η #[Y I b.ab,.slice A1 n1 c1,.slice A2 n2 c2,.slice A3 n3 c3]) ol (Y I (bT b 0))) kz/\
  kz.ownsRow wl.heap.size 3 1 ol (je b).length ((je b).map (Y I))/\Below wl.heap.size (bq wl hr) kz:=by
 letI:=jC
 obtain⟨Ψ,gs,w,sl,tr,q,t,T,hF,ht,HH⟩:=h;have eK:t.size=n:=ht.1.symm.trans hn;obtain⟨o,ho,ag,ahz,ig,jy⟩:=ν.o0;obtain⟨o1,IQ,aio,ar5,ahO⟩:=ν.o1;obtain⟨N1,UE,M1,g1,w1,Qx,vH,q1,r1,-,⟨cF,hr,v',rfl,hv,Aq,H1⟩,mL⟩:=DK (Stop:=λ_ g w'=>∃ax hr v',g=aT (à ϋ 38 #[v'] .normal) (⟨f,aA t (J a) v',.inRegion ops [1,2,3,4,5,6]:: [.code υ],[],.run,.normal,H⟩::cs)/\
  aj ax (η #[Y I b.ab,.slice A1 n1 c1,.slice A2 n2 c2,.slice A3 n3 c3]) v'/\aV ax u t/\KC W σ ax (bq wl hr) w') (M:=allM w) (w:=w) (g:=rg f t [.code (.seq (.region id ops U) υ)] [] .normal cs) (by
  refine fZ (iu ?_);rw[ν.size];refine ZB Hp (rest:=[1,2,3,4,5,6]) ho (cx ig) rfl jy ht HH.core (agl HH.iy) (Bu HH.core) (λb hb=>ly.1 hb)
   (QL:=λv au=>v=η #[Y I b.ab,.slice A1 n1 c1,.slice A2 n2 c2,.slice A3 n3 c3]/\∃hr,au=bq wl hr) (λhr=>⟨_,_,(by rw[QU];exact akt ag (cT hp) (w:=bq wl hr) hb),rfl,hr,rfl⟩) ?_
  rintro v v' att bM ry eF ⟨rfl,T2,rfl⟩ hv ahp th oJ aia;rw[ahz];have IC:(aA t (J a) v').getD a L=v':=iT (by rw[eK];exact ν.lt.1)
  refine lL rfl (λsR=>apt IQ (cx ahO) (call38 aio IC sR)) (.stop λsR hk=>?_);exact⟨bM,T2,v',rfl,hv,ht.mono th.le,HH.AK th ahp oJ HH.nb hk⟩) gs sl tr q hF (λb hb=>ly.1 hb)
 obtain⟨τ,S9,pv,bv,tv,B,ah⟩:=hB cF hr w1 v' H1 hv;obtain⟨N2,Hz,w2,Qy,tr2,q2,g2,r2,Ic,⟨ov,rfl,aH,Vt,aN⟩,Nj⟩:=ah3 ah mL Qx;rw[aaJ ν] at Ic;have ia:=uQ H1.core aN λa b hab=>Vt b (H1.core.dq a b hab)
 obtain⟨bQ,gQ,ol,gd,hle,hinv,xU,gv,rO,OC⟩:=akg ia H1.core.dq H1.nb aH;have H3:KC W σ bQ gQ w2:=⟨gd,hle _ _ H1.iy,OC,λb hb x hx=>by
  rcases hinv x b hx with h| ⟨_,h⟩
  ·obtain⟨o,h1,h2⟩:=H1.fix b hb x h;exact⟨o,(rO.block x (Ϝ.1 h1).1).trans h1,h2⟩
  ·have:=H1.base.size;omega,λb hb=>(Vt b (Ϣ hb H1.base.size)).trans (H1.kept b hb),sG H1.base Nj,λx y h=>hle _ _ (H1.le _ _ h)⟩
 obtain⟨N3,Nc,M3,g3,w3,Qz,tr3,q3,r3,-,⟨rfl,H4⟩,Np⟩:=DK (Stop:=λ_ g w'=>g=rg f (ib t a c m e0 e1 d0 d1 v' ov (Y I (bT b 0))) [.code υ] [] .normal cs/\KC W σ bQ gQ w') (M:=allM w2) (w:=w2)
  (aj8 ν eK (.stop λsR hk=>⟨rfl,H3.AK (iO.refl _ _ _ _) gd (Bu gd) OC hk⟩)) Hz Qy tr2 q2 Ic (λb hb=>ly.1 hb)
 exact⟨bQ,gQ,hr,ol,⟨Ψ+(N1+(N2+N3)),Nc,w3,Qz,tr3,q3,_,vO _ _ _ T (vO _ _ _ r1 (vO _ _ _ r2 r3)),Np,ahT (Aq.mono hle) (hv.mono hle) xU (.int _ _),H4⟩,gv,rO⟩
end
end Go.Jn
namespace Go.Jn
open Go Go.Proofs Go.Sim Go.Conc Go.Tw
def Qu(hf:ϋ.funcs[f]?=J fn)(hb:fn.body=J c)(ht:aV (tk W) tl (args++ϱ (fn.ntmps - args.size) L))(hM:sD W):
 sL (solo (G (à ϋ f args .normal) []) W) #[] W (tk W) f [] c (tk W) tl (oF W):=by
 rw[OE hf hb args .normal];exact⟨0,_,W,_,#[],λ_=>0,_,rfl,⟨rfl,λi x h hx=>by
  have:i<1:=(Ϝ.1 hx).1;omega,am3,λop h=>absurd h (by simp),λop h=>absurd h (by simp)⟩,ht,af3 C0,(af5 hM).2,af6,λb _=>af4 b,λ_ _=>rfl,G7 W,Ren.le_refl _⟩
def P8(An:DC){m0:Machine}{f:Nat}(h:sL m0 #[] W σ f [] c Z u wl)(hM:sD W)
 (hf:ϋ.funcs[f]?=J fn)(hc:cC ϋ G0 c=D)(T:fn.results=#[.tmp r])(hi:¬2=f)(hl:∀hr,c.wp lp (λe bJ _=>e=.ret/\bJ.defers=[cQ]/\bJ.tmps[r]?=J (.bool D)) ⟨u,[cQ]⟩ (bq wl hr)):
 ∃Ψ last o w' t',Ā ϋ (Ψ+1) m0 #[]=(.ended o w',t')/\runN ϋ Ψ m0=.next last/\
  step ϋ last=.ended o w'/\Conc.Good ϋ (λv w'=>v=.bool D/\RowKit.φ W w') last o w' t':=by
 obtain⟨N0,gs,w,sl,tr,q,t,bh,hF,ht,ν⟩:=h;have hW:cg C1 Z wl w:=aec (C:=C0) (C':=C1) (λ_ h=>h) ν.core
 have V:=ajY (f:=f) (r:=r) hc hl hW ν.iy ν.nb ht;have cq:ee C1 DD Z D ⟨f,u,[.code c,.code dt],[cQ],.run,.normal,H⟩ ⟨f,t,[.code c],[],.run,.normal,H⟩:=
  .mk f ht (.cons (.code c hc) .stop) .stop .run .none ⟨λh=>by simp at h,λ_=>rfl,λh=>absurd rfl h,λh=>by simp at h,rfl,λ_=>rfl⟩
 have hR:oA DD (allM w) Z (aT ⟨f,u,[.code c,.code dt],[cQ],.run,.normal,H⟩ []) wl (aT ⟨f,t,[.code c],[],.run,.normal,H⟩ []) w:=
  ⟨.inside cq .base,hW,agl ν.iy,Bu hW,λ_ hb=>ly.1 hb⟩
 have h0:0<W.heap.size:=by obtain⟨_,h⟩:=hM;exact(Ϝ.1 h).1
 have hMw:sD w:=by obtain⟨x,h⟩:=hM;exact⟨x,(ν.kept 0 h0).trans h⟩
 obtain⟨N1,jw,aF,oZ,pa,tz,eB,aM,dP,aa,r1,uY,⟨t2,todo,h0',rfl⟩,zG,hB,hk⟩:=
  ap4 An (λg w ⟨t,todo,_,e⟩=>by rw[e]) V (n:=0) rfl hR hMw (ν.fix 0 h0) sl hF
 have wR:=sG ν.base hB;have rO:RowKit.φ W aF:=⟨wR.os,wR.tape,wR.e,wR.size,λb hb=>(hk b (Ϣ hb ν.base.size) (ν.fix b hb)).trans (ν.kept b hb)⟩
 have rP:∀au,AtRel aF au->AtEnd ϋ Jy aF.heap.size (λv w'=>v=.bool D/\RowKit.φ W w') eB au:=by
  rintro au ⟨d,rfl⟩;have gr:=zG.gr;generalize eg:aT ⟨f,t2,todo,[cQ],.returning,.normal,H⟩ []=gg at gr;cases gr with
  | @inside b fr ba cs bu cq hL=>
    have e1:=congrArg Goroutine.frame eg;have e2:=congrArg Akb eg;simp only at e1 e2;subst e1 e2;obtain⟨rfl,rfl⟩:=Me hL;cases cq with
    | @mk _ t1 t2 Aq k1 k2 fj d1 d2 kT m1 qy r1 r2 rY kd2 iz=>
      cases rY;have rR:=iz.DJ rfl;subst rR;have hD:=zh kT;subst hD;obtain⟨v',Fi,xU⟩:=JO Aq h0';cases xU;have xS:t2.getD r L=.bool D:=cT Fi;refine⟨rfl,.bool D,#[],?_,λe he=>absurd he (by simp),rfl,rO.os,rO.tape,rO.output,rO.size,rO.block⟩
      have e:Ð ϋ D ⟨f,t2,k2,[],.returning,.normal,H⟩ [] H (aF.at d)=.ended (.done (.bool D)) (aF.at d) #[]:=(by unfold Ð;simp only[hf,results1 T,xS,vR,â,doReturn];simp[hi]);exact e
  |hole f hf hx h aw hL=>have e2:=congrArg Akb eg;simp at e2
 obtain⟨N2,last,o,w',t',k1,k2,k3,k4⟩:=beside_ends (λ_ _ _ (h:False)=>h.elim) (sl:=oZ) uY.zero uY.akb uY.il (n:=0) rP;refine⟨N0+(N1+N2),last,o,w',t',?_,?_,k3,k4⟩
 ·rw[Nat.add_assoc,Nat.add_assoc];exact vO _ _ _ bh (vO _ _ _ r1 k1)
 ·have:=congrArg Prod.fst (vO N0 m0 #[] bh (vO N1 _ _ r1 rfl):_=Ā ϋ N2 (ϫ jw aF oZ) pa);rw[runNT_fst,runNT_fst] at this;rw[this];exact k2
def zW(hle:(tk W).le Z)(ED:∀a b b',Z a b->Z a b'->b=b')(h:aj Z v v')(hp:Pv (fI W) v):aj (tk W) v v':=by have h1:=Pv.rel h hp;refine h1.mono λa b hab=>?_;have:b=a:=ED a b a hab.1 (hle _ _ ⟨rfl,hab.2⟩);subst this;exact⟨rfl,hab.2⟩
def ah2(ah:GF (fI W) W W.heap.size b pv bv tv)(hM:sD W):KW W (tk W) wl b (η #[Y I b.ab,pv,bv,tv]):=by
 intro Z hr w v' ν hv
 letI:=jC
 obtain⟨hB,q1,q2,q3⟩:=af1 ah;obtain⟨a',b',c',d',rfl,r1,r2,r3,r4⟩:=aca hv;refine⟨tk W,oF W,pv,bv,tv,W.heap.size,uQ (af3 C0) ν.base.size λa b hab=>ν.kept b ((af3 C0).dq a b hab),(af5 hM).2,af6,λa q h=>af4 q a h,Nat.le_of_eq Uk.symm,hB,.agg rfl λi h1 h2=>?_⟩
 match i,h1,h2 with
 |0,_,_=>exact zW ν.le ν.core.fn r1 trivial
 |1,_,_=>exact zW ν.le ν.core.fn r2 q1
 |2,_,_=>exact zW ν.le ν.core.fn r3 q2
 |3,_,_=>exact zW ν.le ν.core.fn r4 q3
 |i+4,h1,_=>exact absurd h1 (by simp)
end Go.Jn
namespace Go.Jn
open Go Go.Proofs Go.Sim Go.Conc Go.Tw Go.RowKit
section
variable [Go.Tw.aK]
end
def c16:Ϙ:=(Tryz.f16.body).getD .skip
end Go.Jn
namespace Go.Jn
open Go Go.Proofs Go.Sim Go.Conc Go.Tw Go.RowKit
abbrev B4(W:N)(g:Nat)(a b c d:z):Prop:= W.cell? ⟨g,0,H⟩=J a/\ W.cell? ⟨g,1,H⟩=J b/\ W.cell? ⟨g,2,H⟩=J c/\ W.cell? ⟨g,3,H⟩=J d
end Go.Jn
end
