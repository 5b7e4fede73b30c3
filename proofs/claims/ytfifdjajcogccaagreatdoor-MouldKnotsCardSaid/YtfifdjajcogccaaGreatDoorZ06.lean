import Derived.Test.YtfifdjajcogccaaGreatDoorZ03
import Derived.LaidMore
import Derived.Test.YtfifdjajcogccaaGreatDoorRows
import Derived.OpenShut
import Derived.Stop.Joined
import Derived.Conc.LeavingOf
set_option linter.all false
set_option maxHeartbeats 64000000
set_option maxRecDepth 100000
open Array renaming replicate -> ϱ, getElem?_of_mem -> Ajs, getElem?_eq_some_iff -> Ϝ, getElem?_setIfInBounds_ne -> ċ, getElem?_map -> Ć, size_setIfInBounds -> ü, mem_iff_getElem -> Aay, getElem?_eq_getElem -> â, getElem?_setIfInBounds_self_of_lt -> Ajt, append_empty -> á, mapM_eq_mapM_toList -> ĺ, ext_getElem? -> ĸ, getElem?_setIfInBounds -> Ó, map_empty -> Aju, push_eq_append -> ŋ, getElem?_push -> ŝ, getD_eq_getD_getElem? -> Ò, mem_replicate -> Aav, all_eq_true_iff_forall_mem -> Ě, mem_of_getElem? -> Ļ, getElem?_eq_none -> Ô, ofFn -> Ajv, getElem_ofFn -> Ajw, getElem?_ofFn -> Ajx, getElem?_mapIdx -> Aeo, getElem?_toList -> Ĩ
open Bool renaming false_eq_true -> Ì, and_eq_true -> Ϫ, not_eq_true' -> Ajy
open Classical renaming choose -> ã, choose_spec -> É
open Go renaming Goroutine -> ϐ, Program -> Ϙ, Frame -> ϝ, Deferred -> Æ, FuncId -> Å, CallKind -> ũ, stepG -> Ϛ, Code -> ϑ, Operand -> Ç, yielded -> ê, goexitEntry -> Aj1, Trace -> Â, runNT -> ā, callDeferred -> ě, unwind -> Î, Oper -> Ë, TypeInfo -> Ģ, Addr -> ϖ, TypeId -> ό
open Go.Act renaming put -> Ą
open Go.Conc renaming served -> Ϩ
open Go.Frame renaming eval -> Ü, oper? -> Ū, finish -> Ē, enter -> í
open Go.GStep renaming after -> Þ
open Go.Goroutine renaming callers -> Aj7
open Go.IntKind renaming i64 -> ϗ
open Go.Proofs.Tryz renaming prog -> ϋ
open Go.Region renaming wanted -> Ê, ready -> Ñ, schedule -> Aj9
open Go.Region.linearise renaming go -> Aka
open Go.Sem renaming bind -> ϫ, runT -> Ϧ, pure -> Ŋ
open Go.World renaming grownBy_alloc -> ϯ, cell?_of_block -> ŷ, putObj_heap_same -> Ň, putObj_heap_other -> À
open Go.stepG renaming exec -> Θ, oper -> ż, apply -> Õ
open List renaming mem_of_getElem? -> ϡ, mapM_nil -> Akd, all_eq_true -> ģ, map_toArray -> ū, map_cons -> ď, map_nil -> Ŝ, mem_toArray -> à, mem_singleton -> Ã, mem_cons -> ϥ, not_mem_nil -> ϸ, getElem?_eq_getElem -> Ä, getElem?_take -> Ž, drop -> Aki, take -> Akj, setIfInBounds_toArray -> ë, set_cons_zero -> ì, set_cons_succ -> Û
open Nat renaming le_refl -> ϊ, eq_zero_or_pos -> Akm, le_trans -> ϣ, lt_of_lt_of_le -> ϟ, zero_le -> Ϡ
open Option renaming map_some -> ç, getD_some -> ϭ, map_eq_some_iff -> Ă, bind_eq_some_iff -> ą
open Option.some renaming inj -> Ϟ, injEq -> ï
open Bool renaming true -> θ, false -> χ
open Go renaming Value -> υ, undef -> ω, World -> Ψ
open Go.Ending renaming returned -> Ω
open Go.IntKind renaming i64 -> κ
open Go.Lib renaming hid -> ψ
open Go.Obj renaming cells -> Ξ
open Go.RowKit renaming Below -> Γ, Below -> Γ
open Go.Value renaming slice -> ζ, pointer -> π, tuple -> μ, agg -> η, int -> ξ
open Option renaming some -> φ, none -> ν
variable{es:Array Go.Event}{fs:Array Go.Field}{gs:Array Go.Goroutine}{ops:Array Go.Oper}{t t' tl j6 args:Array υ}{main ok:Bool}{kd:Go.CallKind}{dir:Go.ChanDir}{c y:Go.Code}{fn:Go.Func}{f:Go.FuncId}{g g':Go.Goroutine}{o':Go.Obj}{o:Go.Oper}{P:Go.Program}{ρ σ:Go.Sim.Ren}{S:Go.Sim.Tl}{M:Go.Sim.ay}{C C':Go.Sim.bS}{b:Go.Tw.an}{ty e e7 e6 UW ek:Go.TypeId}{D:List Go.Deferred}{cs:List Go.Frame}{k k':List Go.Item}{rest aB:List Nat}{xs:List υ}{i n r p a B N d bk pk q lb m s g9 ll:Nat}{w w' aa wl W ao bB:Ψ}{v pv bv tv x v0 v' z x0 u ov:υ}
noncomputable section
namespace Go.Jn
open Go Go.Sim
def abQ{F:Array Func}{G:Nat->Bool}(E:Env P F C G)(hh:∀f,C.hole f=χ){Q:ϐ->Ψ->Prop}
 (h:Sim.Safe (tw P F) Q g w)(hi:Inv C S G g w):Sim.Safe (tw P F) (λg w=>Q g w/\bN w.heap) g w:=by
 induction h with
 |stop hq=>exact .stop ⟨hq,hi.1⟩
 |step nx h _ ih=>
  refine .step nx h λT=>ih T ?_
  obtain⟨⟨es,h1⟩,h2⟩:=h T;exact(hi.bh T).step E hh h1 h2
section
variable {P:Ϙ}{F:Array Func}{C:bS}{G:Nat->Bool}
def P6{b:Bool}{bp:List ϝ}(h:Below C S ρ b [] bp):b=θ/\bp=S.callers:=by
 cases h;exact⟨rfl,rfl⟩
def aaA(h:uC C S ρ θ [.code fl] k'):k'=S.items:=by
 cases h with
 |stop=>rfl
 |cons _ t=>cases t
def Dl{k':List Æ}(h:pW S ρ θ [b6] k'):k'=S.defers:=by
 cases h with
 |stop=>rfl
 |cons _ t=>cases t
def atf(E:Env P F C G)(hh:∀f,C.hole f=χ)(S:Tl)(hc:C.clean c){a:Act}(hk:(S.kind==.early)=χ)
 (hd:a.defers=[b6]){QL:Exit->Act->Ψ->Prop}
 (hl:∀T,c.wp (tw P F) (λe bI aa=>(e=.normal/\bI.defers=[b6]\/e=.ret)/\QL e bI aa) a (bh w T))
 (hw:bX C ρ w w')(hg:∀g,G g=θ->ρ g g)(hf:Fits M ρ w)(oD:∀b,M.has b->b<w'.heap.size)(hn:bN w.heap)(ht:aV ρ a.tmps t')
 {Stop:ay->ϐ->Ψ->Prop}
 (post:∀e bI aa bT aI kh aC,QL e bI aa->oq M ρ w w' bT aI aa aC->bX C aI aa aC->Fits bT aI aa->(∀b,bT.has b->b<aC.heap.size)->(∀g,G g=θ->aI g g)->bN aa.heap->aV aI bI.tmps kh->
   (e=.normal->bI.defers=[b6]->Stop bT (aR ⟨f,kh,S.items,S.defers,.run,S.kind,ν⟩ S.callers) aC)/\
   (e=.ret->∀zh D',pW S aI θ bI.defers D'->Stop bT (aR ⟨f,kh,zh,D',.returning,S.kind,ν⟩ S.callers) aC)):
 Walk P main Stop M (aR ⟨f,t',.code c::S.items,S.defers,.run,S.kind,ν⟩ S.callers) w':=by
 let b:ϝ:={ (default:ϝ) with fn:=f,kind:=.normal}
 let Q:ϐ->Ψ->Prop:=λg w=>∃T e bI todo m,QL e bI (bh w T)/\g=aR ⟨f,bI.tmps,todo,bI.defers,m,.normal,ν⟩ []/\
  (e=.normal/\todo=[.code fl]/\m=.run/\bI.defers=[b6]\/e=.ret/\m=.returning)
 have bY:gT C S ρ θ (b.at a [.code c,.code fl]) ⟨f,t',.code c::S.items,S.defers,.run,S.kind,ν⟩:=
  .mk f ht (.cons (.code c hc) .stop) (by rw[hd];exact .stop) .run .none ⟨λh=>by simp at h,λ_=>rfl,λh=>absurd rfl h,λh=>by simp at h,hk,λ_=>rfl⟩
 have gX:zu P (tw P F) C S ρ (aR (b.at a [.code c,.code fl]) []) (aR ⟨f,t',.code c::S.items,S.defers,.run,S.kind,ν⟩ S.callers):=.inside bY .base;have hi:Inv C S G (aR (b.at a [.code c,.code fl]) []) w:=⟨hn,ρ,θ,_,_,_,_,w',rfl,hg,bY,.base,hw⟩;have SH:Sim.Safe (tw P F) Q (aR (b.at a [.code c,.code fl]) []) w:=by
  refine Uh (S:=S) E hh ?_ ?_ hi ?_
  ·rintro g w T ⟨T',e,bI,todo,m,h1,h2,h3⟩
   exact⟨T',e,bI,todo,m,h1,h2,h3⟩
  ·rintro g w ⟨T',e,bI,todo,m,h1,rfl,h3⟩ ch
   rcases h3 with⟨_,_,rfl,_⟩ | ⟨_,rfl⟩<;>simp
  ·intro T
   obtain⟨e,bI,aa,⟨h1,h2⟩,h3⟩:=hl T b [.code fl] [];rcases h1 with⟨rfl,ql⟩ |rfl
   ·obtain⟨n,hr⟩:=h3
    exact⟨n,_,_,aa,hr,aa.tape,.normal,bI,[.code fl],.run,h2,rfl,.inl ⟨rfl,rfl,rfl,ql⟩⟩
   ·obtain⟨todo,n,hr⟩:=h3
    exact⟨n,_,_,aa,hr,aa.tape,.ret,bI,todo,.returning,h2,rfl,.inr ⟨rfl,rfl⟩⟩
 refine acW E main (abQ E hh SH hi) ⟨gX,hw,hg,hf,oD⟩ ?_
 intro bT aI fE aa ic aC hR bZ _ _ hq;obtain⟨gr,core,nU,fits,low⟩:=hR;cases gr with
 |hole f hf=>rw[hh] at hf;simp at hf
 |inside BI I9=>
  obtain⟨⟨T,e,bI,todo,m,h1,h2,h3⟩,sa⟩:=hq.resolve_right λh=>h ⟨_,_,_,_,_,rfl,rfl,BI,I9⟩
  have e1:=congrArg Goroutine.frame h2;have e2:=congrArg Aj7 h2;simp only at e1 e2;subst e1 e2;obtain⟨rfl,rfl⟩:=P6 I9;have QA:bX C aI (bh aa T) aC:=core.left rfl;cases BI with
  |mk _ Ei mS ql yy Ah oY=>
   cases Ah;have Ul:oq M ρ w w' bT aI (bh aa T) aC:=⟨bZ.le,bZ.new,bZ.ta,bZ.ng,bZ.qR,bZ.oJ,bZ.R,bZ.O,bZ.On,bZ.tape,bZ.os,bZ.e⟩;have xe:=oY.ID rfl;subst xe;have:=post e bI (bh aa T) bT aI _ aC h1 Ul QA fits low nU sa Ei;rcases h3 with⟨rfl,rfl,rfl,YJ⟩ | ⟨rfl,rfl⟩
   ·have hD:=ql
    rw[YJ] at hD;rw[aaA mS,Dl hD];exact this.1 rfl YJ
   ·exact this.2 rfl _ _ ql
end
abbrev rg(f:Å)(t:Array υ)(k:List Item)(D:List Æ)(kd:ũ)(cs:List ϝ):ϐ:=aR ⟨f,t,k,D,.run,kd,ν⟩ cs
def FP(M:ay)(w:Ψ):M.grow w w=M:=by
 unfold ay.grow;have:(λb=>M.O b\/(w.heap.size<=b/\b<w.heap.size))=M.O:=funext λb=>propext ⟨λh=>h.elim id λh=>absurd h.1 (by omega),.inl⟩
 rw[this]
section
variable {P:Ϙ}{main:Bool}{Stop:ay->ϐ->Ψ->Prop}{M:ay}{w:Ψ}
def qY(hr:g.status=.running)(h:∀aa,Ϛ P main g aa=.go g' aa #[])(k:Walk P main Stop M g' w):Walk P main Stop M g w:=
 .step hr (λaa=>(g',aa,#[])) (λaa _=>⟨h aa,j4.idle M aa⟩) λaa hk=>by
  show Walk P main Stop (M.grow aa aa) g' aa;rw[FP];exact k.rely hk
variable {f:Å}{t:Array υ}{k:List Item}{D:List Æ}{kd:ũ}{cs:List ϝ}
def mM{x:ϑ}(h:Walk P main Stop M (rg f t (.code x:: .code y::k) D kd cs) w):Walk P main Stop M (rg f t (.code (.seq x y)::k) D kd cs) w:=
 qY rfl (λaa=>by simp[Ϛ,Θ]) h
def U3(h:Walk P main Stop M (rg f t k D kd cs) w):Walk P main Stop M (rg f t (.code .skip::k) D kd cs) w:=
 qY rfl (λaa=>by simp[Ϛ,Θ]) h
def G3{id:Nat}(h:Walk P main Stop M (rg f t (.code c:: .inBlock id::k) D kd cs) w):Walk P main Stop M (rg f t (.code (.block id c)::k) D kd cs) w:=
 qY rfl (λaa=>by simp[Ϛ,Θ]) h
def U0{id:Nat}(h:Walk P main Stop M (rg f t k D kd cs) w):Walk P main Stop M (rg f t (.inBlock id::k) D kd cs) w:=
 qY rfl (λaa=>by simp[Ϛ,Θ]) h
def U2(h:Walk P main Stop M (rg f t (.code c:: .inLoop c::k) D kd cs) w):Walk P main Stop M (rg f t (.code (.loop c)::k) D kd cs) w:=
 qY rfl (λaa=>by simp[Ϛ,Θ]) h
def U1(h:Walk P main Stop M (rg f t (.code c:: .inLoop c::k) D kd cs) w):Walk P main Stop M (rg f t (.inLoop c::k) D kd cs) w:=
 qY rfl (λaa=>by simp[Ϛ,Θ]) h
def UZ{id:Nat}(hk:exitTo id k=φ k')(h:Walk P main Stop M (rg f t k' D kd cs) w):Walk P main Stop M (rg f t (.code (.exit id)::k) D kd cs) w:=
 qY rfl (λaa=>by simp[Ϛ,Θ,hk]) h
def G4{x:ϑ}{q:Bool}(hq:t.getD n ω=.bool q)(h:Walk P main Stop M (rg f t (.code (if q then x else y)::k) D kd cs) w):Walk P main Stop M (rg f t (.code (.cond (.tmp n) x y)::k) D kd cs) w:=
 qY rfl (λaa=>by
  have:Ü ⟨f,t,.code (.cond (.tmp n) x y)::k,D,.run,kd,ν⟩ (.tmp n)=.bool q:=hq;simp[Ϛ,Θ,this]) h
def ato(h:Walk P main Stop M (aR ⟨f,t,.code .ret::k,D,.returning,kd,ν⟩ cs) w):Walk P main Stop M (rg f t (.code .ret::k) D kd cs) w:=
 qY rfl (λaa=>by simp[Ϛ,Θ]) h
def atm(h:Walk P main Stop M (aR ⟨f,t,[],D,.returning,kd,ν⟩ cs) w):Walk P main Stop M (rg f t [] D kd cs) w:=
 qY rfl (λaa=>by simp[Ϛ,Θ]) h
def nS{id:Nat}(h:Walk P main Stop M (rg f t (.inRegion ops (List.range ops.size)::k) D kd cs) w):Walk P main Stop M (rg f t (.code (.region id ops χ)::k) D kd cs) w:=
 qY rfl (λaa=>by simp[Ϛ,Θ]) h
def oP(h:Walk P main Stop M (rg f t k D kd cs) w):Walk P main Stop M (rg f t (.inRegion ops []::k) D kd cs) w:=
 qY rfl (λaa=>by simp[Ϛ,Θ]) h
end
def aX(t:Array υ):Ç->υ:=(Act.mk t []).eval
def zM:Ü ⟨f,t,k,D,.run,kd,ν⟩=aX t:=by
 funext x;cases x<;>rfl
def aA(t:Array υ)(d:Option Tmp)(v:υ):Array υ:=match d with
 |some d=>t.setIfInBounds d v
 |none=>t
section
variable {P:Ϙ}{main:Bool}{Stop:ay->ϐ->Ψ->Prop}{M:ay}{w:Ψ}
variable {f:Å}{t:Array υ}{k:List Item}{D:List Æ}{kd:ũ}{cs:List ϝ}
def Oi(ho:ops[i]?=φ o)(hg:Ê o (ê ops t)=θ)(hk:(kd==.early)=χ)
 (hr:(execOp (aX t) o).runT P aa #[]=(.ok (.value v) ao,es)):
 Ϛ P main (rg f t (.inRegion ops (i::rest)::k) D kd cs) aa=.go (rg f (aA t o.dst v) (.inRegion ops rest::k) D kd cs) ao (seen P f es):=by
 have e1:Ü ⟨f,t,.inRegion ops (i::rest)::k,D,.run,kd,ν⟩=aX t:=zM;simp only[Ϛ,Θ,ho,ç,hg,ϭ,if_true,ż,Ū,Õ,e1,hr];cases hd:o.dst<;>simp[Ē,ho,hd,aA,hk,Þ]
def ack(ho:ops[i]?=φ o)(hg:Ê o (ê ops t)=θ)(hk:(kd==.early)=χ)
 (hr:(execOp (aX t) o).runT P aa #[]=(.ok .skip ao,es)):
 Ϛ P main (rg f t (.inRegion ops (i::rest)::k) D kd cs) aa=.go (rg f (aA t o.dst ω) (.inRegion ops rest::k) D kd cs) ao (seen P f es):=by
 have e1:Ü ⟨f,t,.inRegion ops (i::rest)::k,D,.run,kd,ν⟩=aX t:=zM;simp only[Ϛ,Θ,ho,ç,hg,ϭ,if_true,ż,Ū,Õ,e1,hr];cases hd:o.dst<;>simp[Ē,ho,hd,aA,hk,Þ]
def ar4(ho:ops[i]?=φ o)(hg:Ê o (ê ops t)=θ)(hk:(kd==.early)=χ)
 {d:Æ}(hr:(execOp (aX t) o).runT P aa #[]=(.ok (.defer d) aa,#[])):
 Ϛ P main (rg f t (.inRegion ops (i::rest)::k) D kd cs) aa=.go (rg f (aA t o.dst ω) (.inRegion ops rest::k) (d::D) kd cs) aa #[]:=by
 have e1:Ü ⟨f,t,.inRegion ops (i::rest)::k,D,.run,kd,ν⟩=aX t:=zM;simp only[Ϛ,Θ,ho,ç,hg,ϭ,if_true,ż,Ū,Õ,e1,hr];cases hd:o.dst<;>simp[Ē,ho,hd,aA,hk,Þ,seen]
def acm(ho:ops[i]?=φ o)(hg:Ê o (ê ops t)=θ)(hk:(kd==.early)=χ)
 {d:Æ}(hn:d.target≠ .nil)(hr:(execOp (aX t) o).runT P aa #[]=(.ok (.spawn d) aa,#[])):
 Ϛ P main (rg f t (.inRegion ops (i::rest)::k) D kd cs) aa=.spawn (rg f (aA t o.dst ω) (.inRegion ops rest::k) D kd cs)
  {frame:={ (default:ϝ) with fn:=P.funcs.size,defers:=[d],mode:=.panicking [Aj1]},callers:=[],status:=.running,dying:=ν} aa #[]:=by
 have e1:Ü ⟨f,t,.inRegion ops (i::rest)::k,D,.run,kd,ν⟩=aX t:=zM;simp only[Ϛ,Θ,ho,ç,hg,ϭ,if_true,ż,Ū,Õ,e1,hr];obtain⟨tg,ar⟩:=d;cases tg<;>first|exact absurd rfl hn| (cases hd:o.dst<;>simp[Ē,ho,hd,aA,hk,Þ,seen])
def K0(ho:ops[i]?=φ o)(hg:Ê o (ê ops t)=θ)(hk:(kd==.early)=χ)
 {cases:Array CommCase}{bl:Bool}{sh:CommShape}(hr:(execOp (aX t) o).runT P aa #[]=(.ok (.comm cases bl sh) aa,#[])):
 Ϛ P main (rg f t (.inRegion ops (i::rest)::k) D kd cs) aa=.comm (rg f t (.inRegion ops (i::rest)::k) D kd cs) cases bl sh aa #[]:=by
 have e1:Ü ⟨f,t,.inRegion ops (i::rest)::k,D,.run,kd,ν⟩=aX t:=zM;simp only[Ϛ,Θ,ho,ç,hg,ϭ,if_true,ż,Ū,Õ,e1,hr];simp[hk,Þ,seen]
def G5(ho:ops[i]?=φ o)(hg:Ê o (ê ops t)=θ)(hk:(kd==.early)=χ)
 (h:∀aa,bQ M w aa->∃v ao es,((execOp (aX t) o).runT P aa #[]=(.ok (.value v) ao,es)\/v=ω/\(execOp (aX t) o).runT P aa #[]=(.ok .skip ao,es))/\j4 M aa ao es/\
   Walk P main Stop (M.grow aa ao) (rg f (aA t o.dst v) (.inRegion ops rest::k) D kd cs) ao):
 Walk P main Stop M (rg f t (.inRegion ops (i::rest)::k) D kd cs) w:=by
 have key:∀aa,∃y:ϐ×Ψ×Array Event,bQ M w aa->Ϛ P main (rg f t (.inRegion ops (i::rest)::k) D kd cs) aa=.go y.1 y.2.1 y.2.2/\j4 M aa y.2.1 y.2.2/\Walk P main Stop (M.grow aa y.2.1) y.1 y.2.1:=by
  intro aa;by_cases hw:bQ M w aa
  ·obtain⟨v,ao,es,hr,hd,hW⟩:=h aa hw
   have mJ:j4 M aa ao (seen P f es):=⟨hd.size,hd.kept,hd.tape,hd.os,hd.e,λe he=>hd.ev e (mem_seen he)⟩
   rcases hr with hr| ⟨rfl,hr⟩
   ·exact⟨(_,ao,seen P f es),λ_=>⟨Oi ho hg hk hr,mJ,hW⟩⟩
   ·exact⟨(_,ao,seen P f es),λ_=>⟨ack ho hg hk hr,mJ,hW⟩⟩
  ·exact⟨(rg f t k D kd cs,w,#[]),λh=>absurd h hw⟩
 refine .step rfl (λaa=>ã (key aa)) (λaa hw=>?_) λaa hw=>?_
 ·exact⟨(É (key aa) hw).1,(É (key aa) hw).2.1⟩
 ·exact(É (key aa) hw).2.2
def fw(ho:ops[i]?=φ o)(hg:Ê o (ê ops t)=θ)(hk:(kd==.early)=χ)
 (hr:∀aa,bQ M w aa->∃es,(execOp (aX t) o).runT P aa #[]=(.ok (.value v) aa,es)/\∀e∈es,C6 M e)
 (h:Walk P main Stop M (rg f (aA t o.dst v) (.inRegion ops rest::k) D kd cs) w):Walk P main Stop M (rg f t (.inRegion ops (i::rest)::k) D kd cs) w:=
 G5 ho hg hk λaa hw=>by
  obtain⟨es,h1,h2⟩:=hr aa hw;refine⟨v,aa,es,.inl h1,⟨ϊ _,λ_ _ _=>rfl,rfl,rfl,rfl,λe he=>by rw[FP];exact h2 e he⟩,?_⟩
  rw[FP];exact h.rely hw
def atl{d:Æ}(ho:ops[i]?=φ o)(hg:Ê o (ê ops t)=θ)(hk:(kd==.early)=χ)
 (hr:∀aa,(execOp (aX t) o).runT P aa #[]=(.ok (.defer d) aa,#[]))
 (h:Walk P main Stop M (rg f (aA t o.dst ω) (.inRegion ops rest::k) (d::D) kd cs) w):Walk P main Stop M (rg f t (.inRegion ops (i::rest)::k) D kd cs) w:=
 qY rfl (λaa=>ar4 ho hg hk (hr aa)) h
end
end Go.Jn
namespace Go.Jn
open Go Go.Sim Go.Conc
open Go.ConcN (sumTo upd sumTo_upd upd_ne upd_same)
def Iy(N:Nat)(es:Array Event):Prop:=∀e∈es,∀b,N<=b->e.loc≠ .obj b
inductive WalkE(P:Ϙ)(main:Bool)(N:Nat)(Stop:ay->ϐ->Ψ->Prop):ay->ϐ->Ψ->Prop
 |stop {M:ay} {g:ϐ} {w:Ψ} (h:∀aa,bQ M w aa->Stop M g aa):WalkE P main N Stop M g w
 |step {M:ay} {g:ϐ} {w:Ψ} (run:g.status=.running) (nx:Ψ->ϐ×Ψ×Array Event)
   (h:∀aa,bQ M w aa->Ϛ P main g aa=.go (nx aa).1 (nx aa).2.1 (nx aa).2.2/\j4 M aa (nx aa).2.1 (nx aa).2.2/\Iy N (nx aa).2.2)
   (hs:∀aa,bQ M w aa->WalkE P main N Stop (M.grow aa (nx aa).2.1) (nx aa).1 (nx aa).2.1):WalkE P main N Stop M g w
section
variable {P:Ϙ}{main:Bool}{N:Nat}{Stop:ay->ϐ->Ψ->Prop}
def WalkE.rely(h:WalkE P main N Stop M g w)(k:bQ M w aa):WalkE P main N Stop M g aa:=by
 cases h with
 |stop h=>exact .stop λao k2=>h ao (k.trans k2)
 |step run nx h hs=>exact .step run nx (λao k2=>h ao (k.trans k2)) λao k2=>hs ao (k.trans k2)
def acX(hr:g.status=.running)(h:∀aa,Ϛ P main g aa=.go g' aa #[])(k:WalkE P main N Stop M g' w):WalkE P main N Stop M g w:=
 .step hr (λaa=>(g',aa,#[])) (λaa _=>⟨h aa,j4.idle M aa,λe he=>absurd he (by simp)⟩) λaa hk=>by
  show WalkE P main N Stop (M.grow aa aa) g' aa;rw[FP];exact k.rely hk
variable {f:Å}{k:List Item}{D:List Æ}{kd:ũ}{cs:List ϝ}
def acY(h:WalkE P main N Stop M (rg f t k D kd cs) w):WalkE P main N Stop M (rg f t (.inRegion ops []::k) D kd cs) w:=
 acX rfl (λaa=>by simp[Ϛ,Θ]) h
def ati(ho:ops[i]?=φ o)(hg:Ê o (ê ops t)=θ)(hk:(kd==.early)=χ)
 (h:∀aa,bQ M w aa->∃v ao es,((execOp (aX t) o).runT P aa #[]=(.ok (.value v) ao,es)\/v=ω/\(execOp (aX t) o).runT P aa #[]=(.ok .skip ao,es))/\j4 M aa ao es/\(∀e∈es,∀b,e.loc≠ .obj b)/\
   WalkE P main N Stop (M.grow aa ao) (rg f (aA t o.dst v) (.inRegion ops rest::k) D kd cs) ao):
 WalkE P main N Stop M (rg f t (.inRegion ops (i::rest)::k) D kd cs) w:=by
 have key:∀aa,∃y:ϐ×Ψ×Array Event,bQ M w aa->(Ϛ P main (rg f t (.inRegion ops (i::rest)::k) D kd cs) aa=.go y.1 y.2.1 y.2.2/\j4 M aa y.2.1 y.2.2/\Iy N y.2.2)/\WalkE P main N Stop (M.grow aa y.2.1) y.1 y.2.1:=by
  intro aa;by_cases hw:bQ M w aa
  ·obtain⟨v,ao,es,hr,hd,au,hW⟩:=h aa hw
   have mJ:j4 M aa ao (seen P f es):=⟨hd.size,hd.kept,hd.tape,hd.os,hd.e,λe he=>hd.ev e (Sim.mem_seen he)⟩
   have dw:Iy N (seen P f es):=λe he b _=>au e (Sim.mem_seen he) b
   rcases hr with hr| ⟨rfl,hr⟩
   ·exact⟨(_,ao,seen P f es),λ_=>⟨⟨Oi ho hg hk hr,mJ,dw⟩,hW⟩⟩
   ·exact⟨(_,ao,seen P f es),λ_=>⟨⟨ack ho hg hk hr,mJ,dw⟩,hW⟩⟩
  ·exact⟨(rg f t k D kd cs,w,#[]),λh=>absurd h hw⟩
 refine .step rfl (λaa=>ã (key aa)) (λaa hw=>?_) λaa hw=>?_
 ·exact(É (key aa) hw).1
 ·exact(É (key aa) hw).2
def ath(hk:(kd==.early)=χ)(I:Nat->Array Bool->Array υ->ay->Ψ->Prop)
 (R9:∀n l t M w aa,I n l t M w->bQ M w aa->I n l t M aa)
 (ft:∀n l t M w i,I n l t M w->i∈Ñ .any ops l->∃o v ao es,ops[i]?=φ o/\Ê o (ê ops t)=θ/\
   ((execOp (aX t) o).runT P w #[]=(.ok (.value v) ao,es)\/v=ω/\(execOp (aX t) o).runT P w #[]=(.ok .skip ao,es))/\j4 M w ao es/\(∀e∈es,∀b,e.loc≠ .obj b)/\I (n+1) (l.setIfInBounds i θ) (aA t o.dst v) (M.grow w ao) ao)
 (xc:∀n l t M w,I n l t M w->(Ñ .any ops l=[]\/n=ops.size)->WalkE P main N Stop M (rg f t k D kd cs) w):
 ∀(fuel n s:Nat) (l:Array Bool) (t:Array υ) (M:ay) (w:Ψ),n+fuel=ops.size->I n l t M w->
  WalkE P main N Stop M (rg f t (.inRegion ops (Aka .any ops fuel s l [])::k) D kd cs) w:=by
 intro fuel;induction fuel with
 |zero=>
  intro n s l t M w hn hI;have:Aka .any ops 0 s l []=[]:=by simp[Aka]
  rw[this];exact acY (xc n l t M w hI (.inr (by omega)))
 |succ fuel ih=>
  intro n s l t M w hn hI;simp only[Aka];change WalkE P main N Stop M (rg f t (.inRegion ops (match(Ñ .any ops l)[s % (Ñ .any ops l).length]? with
   |some i=>Aka .any ops fuel (s / (Ñ .any ops l).length) (l.setIfInBounds i θ) [i]
   |none=> [].reverse)::k) D kd cs) w
  cases hi:(Ñ .any ops l)[s % (Ñ .any ops l).length]? with
  |none=>
   have Sn:Ñ .any ops l=[]:=by
    cases hr:Ñ .any ops l with
    |nil=>rfl
    |cons x xs=>
     rw[hr] at hi;have aj:s % (x::xs).length<(x::xs).length:=Nat.mod_lt _ (by simp)
     simp at hi;simp at aj;omega
   exact acY (xc n l t M w hI (.inl Sn))
  |some i=>
   simp only[];rw[linearise_go_acc,List.reverse_singleton,List.singleton_append];have sP:= ϡ hi;obtain⟨o0,-,-,-,ZA,MF,-,-,-,-⟩:=ft n l t M w i hI sP;refine ati ZA MF hk λaa hw=>?_
   obtain⟨o,v,ao,es,ho,hg,hr,hd,au,DE⟩:=ft n l t M aa i (R9 _ _ _ _ _ _ hI hw) sP;rw[ZA] at ho;cases ho
   exact⟨v,ao,es,hr,hd,au,ih (n+1) _ _ _ _ _ (by omega) DE⟩
def atg(hm:P.follows .mixedOrders=θ){id:Nat}(hk:(kd==.early)=χ)(I:Nat->Array Bool->Array υ->ay->Ψ->Prop)
 (R9:∀n l t M w aa,I n l t M w->bQ M w aa->I n l t M aa)
 (ft:∀n l t M w i,I n l t M w->i∈Ñ .any ops l->∃o v ao es,ops[i]?=φ o/\Ê o (ê ops t)=θ/\
   ((execOp (aX t) o).runT P w #[]=(.ok (.value v) ao,es)\/v=ω/\(execOp (aX t) o).runT P w #[]=(.ok .skip ao,es))/\j4 M w ao es/\(∀e∈es,∀b,e.loc≠ .obj b)/\I (n+1) (l.setIfInBounds i θ) (aA t o.dst v) (M.grow w ao) ao)
 (xc:∀n l t M w,I n l t M w->(Ñ .any ops l=[]\/n=ops.size)->WalkE P main N Stop M (rg f t k D kd cs) w)
 (h0:I 0 (ϱ ops.size χ) t M w):
 WalkE P main N Stop M (rg f t (.code (.region id ops θ)::k) D kd cs) w:=by
 have key:=ath (P:=P) (main:=main) (N:=N) (Stop:=Stop) (f:=f) (k:=k) (D:=D) (cs:=cs) hk I R9 ft xc;refine .step rfl (λaa=>(rg f t (.inRegion ops (Aj9 θ ops ((Question.order f id).cut (aa.tape aa.drawn (.order f id))))::k) D kd cs,aa.at (aa.drawn+1),#[])) (λaa hw=>⟨?_,?_,λe he=>absurd he (by simp)⟩) λaa hw=>?_
 ·simp[Ϛ,Θ,choose,Sem.run,Question.forced,hm]
  rfl
 ·exact⟨ϊ _,λ_ _ _=>rfl,rfl,rfl,rfl,λe he=>absurd he (by simp)⟩
 ·have hg:M.grow aa (aa.at (aa.drawn+1))=M:=FP M aa
  show WalkE P main N Stop (M.grow aa (aa.at (aa.drawn+1))) _ _;rw[hg];have:WalkE P main N Stop M (rg f t (.inRegion ops (Aj9 θ ops ((Question.order f id).cut (aa.tape aa.drawn (.order f id))))::k) D kd cs) w:=by
   simp only[Aj9,Bool.true_or,if_true];exact key ops.size 0 _ _ _ _ _ (by simp) h0
  exact this.rely (hw.trans (bQ.of_heap rfl rfl rfl rfl))
def rT(N:Nat)(t:Â):Prop:=∀op∈t,∀a,op.act.touch? =φ a->∀b,N<=b->a.loc≠ .obj b
def rT.app{t u:Â}(h:rT N t)(k:rT N u):rT N (t++u):=λop ae=>(Array.mem_append.1 ae).elim (h op) (k op)
def rT.events{g:Nat}{fn:Å}{pos:String}(h:Iy N es):rT N (MemOp.ofEvents g fn pos es):=by
 intro op ae a ha b hb;obtain⟨e,he,rfl⟩:=Go.Conc.mem_ofEvents ae;have:=h e he b hb;simp only at ha;obtain⟨loc,wr,sy⟩:=e;cases loc with
 |mark m=>cases m<;>cases wr<;>cases sy<;>simp[MemAct.ofEvent,MemAct.touch?] at ha<;>(subst ha;intro hx;cases hx)
 |_=>cases wr<;>cases sy<;>simp[MemAct.ofEvent,MemAct.touch?] at ha<;>subst ha<;>first|exact this| (intro hx;cases hx)
def rT.of_low{t:Â}(h:∀op∈t,op.act.low N):rT N t:=by
 intro op ae a ha b hb e;obtain⟨k,hk⟩:=Ajs ae
 have:touchAt t k=φ a:=by rw[touchAt_of hk];exact ha
 have:=UM h this (.inl e);omega
def XU{sl:Option (Nat×Nat)}{t:Â}{q:Nat->Nat}{fE:ϐ}(h:Fr P gs w t q g)(hs:Ϛ P θ g w=.go fE aa es)(hd:j4 M w aa es)(hM:∀b,M.has b->b<w.heap.size)
 (au:Iy N es)(ht:rT N t):∃aY ops,runT P (crowd gs w sl) 0=(.next (crowd aY aa sl),ops)/\aY.size=gs.size/\Fr P aY aa (t++ops) q fE/\rT N (t++ops):=by
 obtain⟨h0,hL,hP,hN,hG⟩:=h;have Ai:=runT_crowd_go (P:=P) (sl:=sl) (i:=0) h0 (show Ϛ P (0==0) g w=_ from hs)
 have aj:0<gs.size:=(Ϝ.1 h0).1
 refine⟨_,_,Ai,by simp,⟨by simp[aj],λj x hj hx=>?_,(hP.mono hd.size).own λe he=>QK (hd.ev e he) λb hb=>?_,hN.app (TQ hd.ev),λop ae=>?_⟩,ht.app (.events au)⟩
 ·have au:0≠j:=by omega
  rw[ċ au,Ć] at hx
  obtain⟨y,hy,rfl⟩:=Ă.1 hx;have hq:=hL j y hj hy;rw[Sim.woken_quits hq];exact hq
 ·exact FO hd hM b hb
 ·rw[ü,Array.size_map]
  rcases Array.mem_append.1 ae with ae|ae
  ·exact hG op ae
  ·obtain⟨e,_,rfl⟩:=Go.Conc.mem_ofEvents ae
   exact aj
def XW{sl:Option (Nat×Nat)}{t:Â}{q:Nat->Nat}(h:Fr P gs w t q g)(bt:g.status=.running):
 (∃d bz,stepT P (crowd gs w sl)=runT P (crowd gs (w.at d) bz) 0)\/
 ∃aY d bz q',stepT P (crowd gs w sl)=(.next (crowd aY (w.at d) bz),#[])/\aY.size=gs.size/\sumTo aY.size q'<sumTo gs.size q/\Fr P aY (w.at d) t q' g:=by
 obtain⟨h0,hL,hP,hN,hG⟩:=h;have zU:∀g∈gs,awake g:=by
  intro x hx;obtain⟨i,hi,rfl⟩:=Aay.1 hx;rcases Akm i with rfl|yC
  ·have:gs[0]=g:=by simpa [â hi] using h0
   rw[this];exact awake_of (.inl bt)
  ·exact awake_of ((hL i _ yC (â hi)).status.elim .inl λx=>.inr (.inr x))
 obtain⟨i,x,d,bz,hi,hg,aW⟩:=crowd_pick (P:=P) (w:=w) (sl:=sl) zU ⟨0,g,h0,bt⟩;rcases Akm i with rfl|yC
 ·exact .inl ⟨d,bz,aW⟩
 ·right
  have hq:=hL i x yC hi;have di:(i==0)=χ:=by simp;omega
  have aj:i<gs.size:=(Ϝ.1 hi).1
  cases vL:q i with
  |zero=>rw[vL] at hq;rw[show x.status=.finished from hq] at hg;cases hg
  |succ k=>
   rw[vL] at hq;rcases hq with hf| ⟨_,g',JU,vK⟩
   ·rw[hf] at hg;cases hg
   have Ai:=runT_crowd_go (P:=P) (sl:=bz) (i:=i) hi (by rw[di];exact JU (w.at d))
   rw[tU] at Ai;have aL:((gs.map (woken P x g' (w.at d))).setIfInBounds i g').size=gs.size:=by simp
   have M8:sumTo gs.size (upd q i k)+(k+1)=sumTo gs.size q+k:=by
    have:=sumTo_upd q k id aj;simpa [vL] using this
   refine⟨(gs.map (woken P x g' (w.at d))).setIfInBounds i g',d,bz,upd q i k,aW.trans Ai,aL,by rw[aL];omega,?_,λj y hj hy=>?_,hP,hN,λop ae=>by rw[aL];exact hG op ae⟩
   ·have au:i≠0:=by omega
    rw[ċ au,Ć,h0]
    simp[woken_run bt]
   ·by_cases vG:i=j
    ·subst vG
     rw[Ajt (by simpa using aj)] at hy
     obtain rfl:=Ϟ hy;rw[upd_same];exact vK
    ·rw[ċ vG,Ć] at hy
     obtain⟨z,hz,rfl⟩:=Ă.1 hy;have Eb:=hL j z hj hz;rw[Sim.woken_quits Eb,upd_ne q k (Ne.symm vG)];exact Eb
def aeY(h:WalkE P θ N Stop M g w):
 ∀(gs:Array ϐ) (sl:Option (Nat×Nat)) (t:Â) (q:Nat->Nat),Fr P gs w t q g->(∀b,M.has b->b<w.heap.size)->rT N t->
  ∃(n:Nat) (aY:Array ϐ) (M':ay) (g':ϐ) (w':Ψ) (bz:Option (Nat×Nat)) (t':Â) (q':Nat->Nat),
    ā P n (crowd gs w sl) t=(.next (crowd aY w' bz),t')/\aY.size=gs.size/\Stop M' g' w'/\Fr P aY w' t' q' g'/\rT N t':=by
 induction h with
 | @stop M g w h=>exactλgs sl t q hF hM hT=>⟨0,gs,M,g,w,sl,t,q,rfl,rfl,h w (bQ.refl M w),hF,hT⟩
 | @step M g w run nx h hs ih=>
   have key:∀(n:Nat) (gs:Array ϐ) (sl:Option (Nat×Nat)) (t:Â) (q:Nat->Nat) (ao:Ψ),sumTo gs.size q<=n->bQ M w ao->Fr P gs ao t q g->(∀b,M.has b->b<ao.heap.size)->rT N t->
    ∃(n:Nat) (aY:Array ϐ) (M':ay) (g':ϐ) (w':Ψ) (bz:Option (Nat×Nat)) (t':Â) (q':Nat->Nat),
     ā P n (crowd gs ao sl) t=(.next (crowd aY w' bz),t')/\aY.size=gs.size/\Stop M' g' w'/\Fr P aY w' t' q' g'/\rT N t':=by
    intro n;induction n with
    |zero=>
     intro gs sl t q ao hn k hF hM hT;rcases XW (sl:=sl) hF run with⟨d,bz,aW⟩ | ⟨aY,d,bz,q',_,_,aj,_⟩
     ·have k2:=k.trans (Es M ao d)
      obtain⟨h1,h2,h3⟩:=h _ k2;obtain⟨oX,ops,hr,aL,qi,DK⟩:=XU (sl:=bz) (w:=ao.at d) (M:=M) ⟨hF.zero,hF.lv,hF.nO,hF.nd,hF.gb⟩ h1 h2 hM h3 hT;obtain⟨N',aY,M',g',w',td,t',q',r1,r2,r3,r4⟩:=ih _ k2 oX bz _ q qi (FO h2 hM) DK;exact⟨N'+1,aY,M',g',w',td,t',q',by simp only[ā,aW,hr];exact r1,r2.trans aL,r3,r4⟩
     ·omega
    |succ n Kd=>
     intro gs sl t q ao hn k hF hM hT;rcases XW (sl:=sl) hF run with⟨d,bz,aW⟩ | ⟨aY,d,bz,q',aW,aL,aj,qi⟩
     ·have k2:=k.trans (Es M ao d)
      obtain⟨h1,h2,h3⟩:=h _ k2;obtain⟨oX,ops,hr,aL,qi,DK⟩:=XU (sl:=bz) (w:=ao.at d) (M:=M) ⟨hF.zero,hF.lv,hF.nO,hF.nd,hF.gb⟩ h1 h2 hM h3 hT;obtain⟨N',aY,M',g',w',td,t',q',r1,r2,r3,r4⟩:=ih _ k2 oX bz _ q qi (FO h2 hM) DK;exact⟨N'+1,aY,M',g',w',td,t',q',by simp only[ā,aW,hr];exact r1,r2.trans aL,r3,r4⟩
     ·obtain⟨N',Dy,M',g',w',td,t',T1,r1,r2,r3,r4⟩:=Kd aY bz t q' (ao.at d) (by omega) (k.trans (Es M ao d)) qi hM hT
      exact⟨N'+1,Dy,M',g',w',td,t',T1,by simp only[ā,aW,á];exact r1,r2.trans aL,r3,r4⟩
   exactλgs sl t q hF hM hT=>key _ gs sl t q w (ϊ _) (bQ.refl M w) hF hM hT
end
end Go.Jn
namespace Go.Jn
open Go Go.Sim Go.Conc
def LL(w:Ψ):Base w w:=⟨ϊ _,rfl,rfl,rfl⟩
def xW{a b c:Ψ}(h:Base a b)(k:Base b c):Base a c:=⟨ϣ h.size k.size,k.tape.trans h.tape,k.os.trans h.os,k.e.trans h.e⟩
def LK{M:Sim.ay}{a b:Ψ}(k:bQ M a b):Base a b:=⟨k.size,k.tape,k.os,k.e⟩
def Wt{M:Sim.ay}{a b:Ψ}(k:j4 M a b es):Base a b:=⟨k.size,k.tape,k.os,k.e⟩
def K7{Stop:Sim.ay->ϐ->Ψ->Prop}{M:Sim.ay}(h:Walk P main Stop M g w):∀ {w0:Ψ},Base w0 w->Walk P main (λM g w'=>Stop M g w'/\Base w0 w') M g w:=by
 induction h with
 |stop h=>exactλhb=>.stop λaa k=>⟨h aa k,xW hb (LK k)⟩
 |step run nx h hs ih=>exactλhb=>.step run nx h λaa k=>ih aa k (xW (xW hb (LK k)) (Wt (h aa k).2))
def atd{Stop:Sim.ay->ϐ->Ψ->Prop}{M:Sim.ay}(h:WalkE P main N Stop M g w):∀ {w0:Ψ},Base w0 w->WalkE P main N (λM g w'=>Stop M g w'/\Base w0 w') M g w:=by
 induction h with
 |stop h=>exactλhb=>.stop λaa k=>⟨h aa k,xW hb (LK k)⟩
 |step run nx h hs ih=>exactλhb=>.step run nx h λaa k=>ih aa k (xW (xW hb (LK k)) (Wt (h aa k).2.1))
def Ax{b:Nat}{m':Machine}{t':Â}{r:Stepped×Â}:∀(a:Nat) (m:Machine) (t:Â),ā P a m t=(.next m',t')->ā P b m' t'=r->ā P (a+b) m t=r:=by
 intro a;induction a with
 |zero=>intro m t h k;simp only[ā,Prod.mk.injEq,Stepped.next.injEq] at h;obtain⟨rfl,rfl⟩:=h;rw[Nat.zero_add];exact k
 |succ a ih=>
  intro m t h k;rw[Nat.succ_add];simp only[ā] at h |-
  cases hs:Go.stepT P m with
  |mk e ops=>
   rw[hs] at h;cases e with
   |next m1=>exact ih _ _ h k
   |ended o w=>simp at h
def cJ(P:Ϙ):ϝ:={ (default:ϝ) with fn:=P.funcs.size,defers:=[],mode:=.panicking [Aj1]}
def born(P:Ϙ)(d:Æ):ϐ:={frame:={ (default:ϝ) with fn:=P.funcs.size,defers:=[d],mode:=.panicking [Aj1]},callers:=[],status:=.running,dying:=ν}
def Az(P:Ϙ)(f:Å):seen P f #[]=#[]:=by simp[seen]
section
variable {P:Ϙ}{main:Bool}{Stop:ay->ϐ->Ψ->Prop}{M:ay}{w:Ψ}
def ar2(hr:(callFunc f (args++j6)).runT P aa #[]=(.ok (.enter f (args++j6)) aa,#[])):
 Ϛ P main (born P {target:=.fn (.func f) j6,args}) aa=.go (aR (í P f (args++j6) .deferred) [cJ P]) aa #[]:=by
 have hi:invoke (.fn (.func f) j6) args=callFunc f (args++j6):=rfl;have e:ě P (cJ P) [] ν {target:=.fn (.func f) j6,args} aa=.go (aR (í P f (args++j6) .deferred) [cJ P]) aa #[]:=by
  unfold ě;simp only[hi,hr,Az,Þ,Bool.false_and,Ì,if_false];rfl
 exact e
def FH(hf:P.funcs[f]?=φ fn)(hb:fn.body=φ c)(x:Array υ)(kd:ũ):
 í P f x kd=⟨f,x++ϱ (fn.ntmps - x.size) ω,[.code c],[],.run,kd,ν⟩:=by
 simp[í,hf,hb]
def ac0(hf:P.funcs[f]?=φ fn)(hb:fn.body=φ c)(hr:∀aa,(callFunc f (args++j6)).runT P aa #[]=(.ok (.enter f (args++j6)) aa,#[]))
 (h:Walk P main Stop M (rg f ((args++j6)++ϱ (fn.ntmps - (args++j6).size) ω) [.code c] [] .deferred [cJ P]) w):Walk P main Stop M (born P {target:=.fn (.func f) j6,args}) w:=
 qY rfl (λaa=>(ar2 (hr aa)).trans (by rw[FH hf hb])) h
def IN(hf:P.funcs[f]?=φ fn)(hb:fn.body=φ c)(hn:(fn.name== "runtime.NumGoroutine")=χ)(args:Array υ)(aa:Ψ):(callFunc f args).runT P aa #[]=(.ok (.enter f args) aa,#[]):=by
 simp only[callFunc,Go.program,bind,ϫ,Ϧ,hf,hb,hn,Option.isNone_some,Ì,if_false];rfl
def results_none(hr:fn.results=#[])(t:Array υ)(aa:Ψ):(results fn t).runT P aa #[]=(.ok (μ #[]) aa,#[]):=by
 have e:results fn t=Ŋ (μ #[]):=by
  unfold results;rw[hr];simp only[ĺ,Akd];rfl
 rw[e];rfl
def ar8(hf:P.funcs[f]?=φ fn)(hr:fn.results=#[])(aa:Ψ):
 Ϛ P χ (aR ⟨f,t,k,[],.returning,.deferred,ν⟩ [cJ P]) aa=.go (aR (cJ P) []) aa #[]:=by
 have e:Î P χ ⟨f,t,k,[],.returning,.deferred,ν⟩ [cJ P] ν aa=.go (aR (cJ P) []) aa #[]:=by
  unfold Î;simp only[hf,results_none hr,Az,Þ,doReturn];rfl
 exact e
def ar6(aa:Ψ)(hc:(cJ P).catches P=χ):Ϛ P χ (aR (cJ P) []) aa=.go {frame:=cJ P,callers:=[],status:=.finished,dying:=ν} aa #[]:=by
 have e:Î P χ (cJ P) [] ν aa=.go {frame:=cJ P,callers:=[],status:=.finished,dying:=ν} aa #[]:=by
  have e1:(cJ P).defers=[]:=rfl;have e2:(cJ P).mode=.panicking [Aj1]:=rfl;unfold Î;simp only[e1,e2,hc,Ì,if_false];rfl
 exact e
def aiq(P:Ϙ):(cJ P).catches P=χ:=by
 have e:(cJ P).todo=[]:=rfl;have e2:P.funcs[(cJ P).fn]?=ν:=by show P.funcs[P.funcs.size]?=ν;simp
 unfold Frame.catches;rw[e,e2]
def aby(hf:P.funcs[f]?=φ fn)(hr:fn.results=#[]):QuitsIn P 2 (aR ⟨f,t,k,[],.returning,.deferred,ν⟩ [cJ P]):=
 .inr ⟨rfl,_,λaa=>ar8 hf hr aa,.inr ⟨rfl,_,λaa=>ar6 aa (aiq P),rfl⟩⟩
end
end Go.Jn
namespace Go.Jn
open Go Go.Proofs Go.Sim
def aT:ϑ->ϑ
 | .seq a _=>a
 |c=>c
def aG:ϑ->ϑ
 | .seq _ b=>b
 |c=>c
def opsOf:ϑ->Array Ë
 | .region _ ops _=>ops
 |_=>#[]
def Fw:ϑ:=(Tryz.f38.body).getD .skip
def o8:Array Ë:=opsOf (aT (aG (aG Fw)))
def bn(b:Bool):Nat:=if b then 1 else 0
def Bj(i:Nat)(a0 a1 a2 a3 a4 a5:Bool):Bool:=match i with
 |0=> !a0
 |1=> !a1
 |2=> !a2
 |3=> !a3
 |4=> !a4 && a0 && a2
 |5=> !a5 && a1 && a3
 |_=>χ
def Be:List Bool:=[χ,θ]
def LD(p:Bool->Bool->Bool->Bool->Bool->Bool->Bool):Bool:=Be.all λa0=>Be.all λa1=>Be.all λa2=>Be.all λa3=>Be.all λa4=>Be.all λa5=>p a0 a1 a2 a3 a4 a5
def Wj{p:Bool->Bool->Bool->Bool->Bool->Bool->Bool}(h:LD p=θ)(a0 a1 a2 a3 a4 a5:Bool):p a0 a1 a2 a3 a4 a5=θ:=by
 unfold LD at h;simp only[ģ] at h;have hb:∀b:Bool,b∈Be:=by intro b;cases b<;>simp[Be]
 exact h a0 (hb _) a1 (hb _) a2 (hb _) a3 (hb _) a4 (hb _) a5 (hb _)
def apT:LD (λa0 a1 a2 a3 a4 a5=>(Ñ .any o8 #[a0,a1,a2,a3,a4,a5]).all λi=>Bj i a0 a1 a2 a3 a4 a5)=θ:=by decide+kernel
def agQ:LD (λa0 a1 a2 a3 a4 a5=> !(Ñ .any o8 #[a0,a1,a2,a3,a4,a5]).isEmpty|| (a0 && a1 && a2 && a3 && a4 && a5))=θ:=by decide+kernel
def apj:∃o,o8[0]?=φ o/\o.op=.makeChan 154 (.const (ξ κ 0))/\o.dst=φ 19/\o.guard=ν:=⟨_,rfl,rfl,rfl,rfl⟩
def apk:∃o,o8[1]?=φ o/\o.op=.makeChan 155 (.const (ξ κ 0))/\o.dst=φ 20/\o.guard=ν:=⟨_,rfl,rfl,rfl,rfl⟩
def apl:∃o,o8[2]?=φ o/\o.op=.alloc 154/\o.dst=φ 6/\o.guard=ν:=⟨_,rfl,rfl,rfl,rfl⟩
def apm:∃o,o8[3]?=φ o/\o.op=.alloc 155/\o.dst=φ 7/\o.guard=ν:=⟨_,rfl,rfl,rfl,rfl⟩
def apn:∃o,o8[4]?=φ o/\o.op=.store 154 (.tmp 6) (.tmp 19)/\o.dst=ν/\o.guard=ν:=⟨_,rfl,rfl,rfl,rfl⟩
def apo:∃o,o8[5]?=φ o/\o.op=.store 155 (.tmp 7) (.tmp 20)/\o.dst=ν/\o.guard=ν:=⟨_,rfl,rfl,rfl,rfl⟩
def arF:o8.size=6:=rfl
def cg{y:Nat->Option Bool}(h:o.guard=ν):Ê o y=θ:=by unfold Ê;rw[h]
def abM(t:Array υ)(ho:o.op=.makeChan ty (.const (ξ κ 0)))(hu:P.underlying ty=φ (.chan dir e))(w:Ψ)
 (hi:∃i,P.info? e=φ i):(execOp (aX t) o).runT P w #[]=(.ok (.value (.chan (φ w.heap.size))) (w.alloc (.chan 0 #[] χ 0 0 χ)),#[]):=by
 obtain⟨i,hi⟩:=hi;have h1:¬ ((0:Int)<0\/(0:Int)>ϗ.max\/(i.bytes:Int) * 0>2 ^ 48 - 112):=by
  rintro(h|h|h)
  ·omega
  ·exact absurd h (by decide)
  ·omega
 unfold execOp;rw[ho];simp only[Instr.makeChan,aX,Act.eval,asInt,asIntOf,Go.underlying,Go.typeInfo,Go.program,bind,ϫ,Ϧ,hu,hi,pure,newObj,World.alloc];rw[if_neg h1];rfl
def Ud(t:Array υ)(ho:o.op=.alloc ty){i:Ģ}(hi: P.info? ty=φ i)(hz:i.zero=φ v)(hv:v.cells=#[v])(w:Ψ):
 (execOp (aX t) o).runT P w #[]=(.ok (.value (π (φ ⟨w.heap.size,0,ν⟩))) (w.alloc (Ξ #[v] ty)),#[]):=by
 unfold execOp;rw[ho];simp only[Instr.alloc,Go.zeroValue,Go.typeInfo,Go.program,bind,ϫ,Ϧ,hi,hz,pure,newVar,newRow,newObj,World.alloc,hv]
def TY:TypeDesc->Bool
 | .struct _| .array _ _=>χ
 |_=>θ
def al1{d:TypeDesc}(hu:P.underlying ty=φ d)(hd:TY d=θ)(w:Ψ)(es:Array Event):(Go.isAgg ty).runT P w es=(.ok χ w,es):=by
 simp only[Go.isAgg,Go.underlying,Go.program,bind,ϫ,Ϧ,hu,pure];cases d<;>first|rfl|exact absurd hd (by simp[TY])
def Ug(t:Array υ)(ho:o.op=.store ty (.tmp n) (.tmp m)){b:Nat}(ht:t.getD n ω=π (φ ⟨b,0,ν⟩))(hm:t.getD m ω=v)(hv:v.cells=#[v])(h1:Kw v=θ)
 {i:Ģ}(hi: P.info? ty=φ i)(hs:i.size=1)
 (w:Ψ)(hw:w.heap[b]?=φ (Ξ #[v0] e (0,0))):
 (execOp (aX t) o).runT P w #[]=(.ok .skip {w with heap:=w.heap.setIfInBounds b (Ξ #[v] e (0,0))},#[⟨.cell ⟨b,0,ν⟩,θ,χ⟩]):=by
 have hc: w.cell? ⟨b,0,ν⟩=φ v0:=rV hw rfl rfl;have hf: w.frozen? ⟨b,0,ν⟩=χ:=by rw[Ds hw];rfl
 have e1:aX t (.tmp n)=π (φ ⟨b,0,ν⟩):=ht;have e3:aX t (.tmp m)=v:=hm;have M6:w.setCell ⟨b,0,ν⟩ v={w with heap:=w.heap.setIfInBounds b (Ξ #[v] e (0,0))}:=by
  have hh:(w.setCell ⟨b,0,ν⟩ v).heap=w.heap.setIfInBounds b (Ξ #[v] e (0,0)):=by
   apply ĸ;intro i;rw[GQ hw rfl i,Ó]
   by_cases hi:i=b
   ·subst hi
    have aj:=(Ϝ.1 hw).1
    simp only[if_true,aj];rfl
   ·simp only[hi,Ne.symm hi,if_false]
  rw[<-hh];rfl
 have e2:execOp (aX t) o=(storeVar ty ⟨b,0,ν⟩ v>>=λ_=>pure .skip):=by
  unfold execOp;rw[ho];simp only[Instr.storeAt,e1,e3,Instr.sureAddr,bind,ϫ,pure]
 rw[e2];have aW:∀es,(Go.store ⟨b,0,ν⟩ v).runT P w es=(.ok () (w.setCell ⟨b,0,ν⟩ v),es.push ⟨.cell ⟨b,0,ν⟩,θ,χ⟩):=by
  intro es;cases v<;>first| (unfold Go.store;simp only[Ϧ,hc,hf,Ì,if_false];rfl) |cases h1
 rw[<-M6];have au:¬ (#[v].size≠1):=by simp
 simp only[storeVar,hv,storeCells,sizeOf,Go.typeInfo,Go.program,bind,ϫ,Ϧ,hi,hs,pure];rw[if_neg au];have ha:(⟨b,0,ν⟩:ϖ).add 0=⟨b,0,ν⟩:=rfl;rw[ha];show(((Go.store ⟨b,0,ν⟩ v).bind λ_=>Ŋ ()).bind λ_=>Ŋ Next.skip).runT P w #[]=_
 rw[vY,vY,aW];rfl
end Go.Jn
namespace Go.Jn
open Go Go.Sim Go.Conc
section
variable {P:Ϙ}(t:Array υ){o:Ë}(w:Ψ)
def run_move{x:Ç}(ho:o.op=.move x):(execOp (aX t) o).runT P w #[]=(.ok (.value (aX t x)) w,#[]):=by
 unfold execOp;rw[ho];rfl
def run_assign{x:Ç}(ho:o.op=.assign x):(execOp (aX t) o).runT P w #[]=(.ok (.value (aX t x)) w,#[]):=by
 unfold execOp;rw[ho];rfl
def Ue{cp:Array Ç}(ho:o.op=.makeFunc (.func f) #[] cp):(execOp (aX t) o).runT P w #[]=(.ok (.value (.func (.func f) #[] (cp.map (aX t)))) w,#[]):=by
 unfold execOp;rw[ho]
 simp only[Aju,Instr.makeFunc];rfl
def abJ{n:Nat}{ts:Array ό}{f:Å}{j6:Array υ}(ho:o.op=.go {callee:=.value (.tmp n),args:=#[],argTypes:=ts})(hn:t.getD n ω=.func (.func f) #[] j6):
 (execOp (aX t) o).runT P w #[]=(.ok (.spawn {target:=.fn (.func f) j6,args:=#[]}) w,#[]):=by
 have e1:aX t (.tmp n)=.func (.func f) #[] j6:=hn;unfold execOp;rw[ho];simp only[resolve,e1,Deferred.ofValue,Aju,á];rfl
def aqz{n:Nat}{ts:Array ό}{f:Å}{j6:Array υ}(ho:o.op=.defer {callee:=.value (.tmp n),args:=#[],argTypes:=ts})(hn:t.getD n ω=.func (.func f) #[] j6):
 (execOp (aX t) o).runT P w #[]=(.ok (.defer {target:=.fn (.func f) j6,args:=#[]}) w,#[]):=by
 have e1:aX t (.tmp n)=.func (.func f) #[] j6:=hn;unfold execOp;rw[ho];simp only[resolve,e1,Deferred.ofValue,Aju,á];rfl
def abN{x:Ç}{c:Nat}(ho:o.op=.send (.tmp n) x)(hn:t.getD n ω=.chan (φ c)):
 (execOp (aX t) o).runT P w #[]=(.ok (.comm #[scase c (aX t x) (μ #[])] θ .send) w,#[]):=by
 have e1:aX t (.tmp n)=.chan (φ c):=hn;unfold execOp;rw[ho];simp only[e1];rfl
def Uf{c:Nat}(ho:o.op=.recv ty (.tmp n) ok)(hn:t.getD n ω=.chan (φ c))(hu:P.underlying ty=φ (.chan dir e)){i:Ģ}(hi: P.info? e=φ i)(hz:i.zero=φ z):
 (execOp (aX t) o).runT P w #[]=(.ok (.comm #[rcase c z] θ (.recv ok)) w,#[]):=by
 have e1:aX t (.tmp n)=.chan (φ c):=hn;unfold execOp;rw[ho]
 simp only[e1,Go.underlying,Go.zeroValue,Go.typeInfo,Go.program,bind,ϫ,Ϧ,hu,hi,hz,pure];rfl
def KP{x:Array υ}(ho:o.op=.extract (.tmp n) i)(hn:t.getD n ω=.tuple x)(hx:x[i]?=φ v):
 (execOp (aX t) o).runT P w #[]=(.ok (.value v) w,#[]):=by
 have e1:aX t (.tmp n)=.tuple x:=hn;unfold execOp;rw[ho]
 simp only[e1,Instr.extract,hx];rfl
def N6{x y:Ç}{a b:Int}(ho:o.op=.binOp .lss ty x y UW)(hx:aX t x=ξ κ a)(hy:aX t y=ξ κ b):
 (execOp (aX t) o).runT P w #[]=(.ok (.value (.bool (decide (a<b)))) w,#[]):=by
 unfold execOp;rw[ho]
 simp only[hx,hy];rfl
def abG{x y:Ç}{a b:Int}(ho:o.op=.binOp .add ty x y UW)(hx:aX t x=ξ κ a)(hy:aX t y=ξ κ b):
 (execOp (aX t) o).runT P w #[]=(.ok (.value (ξ κ (ϗ.wrap (a+b)))) w,#[]):=by
 unfold execOp;rw[ho]
 simp only[hx,hy];rfl
def abK{n:Nat}{ty e:ό}{b:Option ϖ}{l c:Nat}(ho:o.op=.call {callee:=.builtin .len,args:=#[.tmp n],argTypes:=#[ty]})(hn:t.getD n ω=.slice b l c)(hu:P.underlying ty=φ (.slice e)):
 (execOp (aX t) o).runT P w #[]=(.ok (.value (goInt l)) w,#[]):=by
 have e1:aX t (.tmp n)=.slice b l c:=hn;unfold execOp;rw[ho]
 simp only[resolve,ū,ď,Ŝ,e1];show((Builtin.len_ #[ty] o.type #[.slice b l c]).bind λv=>Ŋ (Next.value v)).runT P w #[]=_
 have e2:(Builtin.len_ #[ty] o.type #[.slice b l c]).runT P w #[]=(.ok (goInt l) w,#[]):=by
  unfold Builtin.len_;simp only[Go.underlying,Go.program,bind,ϫ,Ϧ,pure,List.getElem?_toArray,List.getElem?_cons_zero,hu]
 rw[vY,e2];rfl
def abI{f:Nat}(ho:o.op=.fieldAddr ty (.tmp n) f){a:ϖ}(hn:t.getD n ω=π (φ a))(hu:P.underlying ty=φ (.struct fs)){fd:Field}(hf:fs[f]?=φ fd){i:Ģ}(hi: P.info? fd.type=φ i)(hs:i.size≠0):
 (execOp (aX t) o).runT P w #[]=(.ok (.value (π (φ (a.add fd.offset)))) w,#[]):=by
 have e1:aX t (.tmp n)=π (φ a):=hn;unfold execOp;rw[ho]
 simp only[e1,Instr.fieldAt,Instr.sureAddr,fieldPlace,sizeOf,Go.underlying,Go.typeInfo,Go.program,bind,ϫ,Ϧ,pure,hu,hf,hi,if_neg hs]
def Cz(ho:o.op=.load ty (.tmp n)){a:ϖ}(hn:t.getD n ω=π (φ a)){d:TypeDesc}(hu:P.underlying ty=φ d)(hd:TY d=θ)(hc: w.cell? a=φ v):
 (execOp (aX t) o).runT P w #[]=(.ok (.value v) w,#[⟨.cell a,χ,χ⟩]):=by
 have e1:aX t (.tmp n)=π (φ a):=hn;have e2:execOp (aX t) o=(do let x <-(do if <-Go.isAgg ty then pure (.agg (<-loadCells a (<-sizeOf ty))) else Go.load a);pure (.value x)):=by
  unfold execOp;rw[ho];simp only[Instr.loadAt,e1,Instr.sureAddr,loadVar,bind,ϫ,pure]
 rw[e2];simp only[bind,Go.load];rw[vY,vY,al1 hu hd];simp only[Ì,if_false,Ϧ,hc,ŋ];rfl
def aqy{n:Nat}{ty:ό}{c s r:Nat}(ho:o.op=.call {callee:=.builtin .close,args:=#[.tmp n],argTypes:=#[ty]})(hn:t.getD n ω=.chan (φ c))(hw:w.heap[c]?=φ (.chan 0 #[] χ s r χ)):
 (execOp (aX t) o).runT P w #[]=(.ok (.value (μ #[])) (w.shut c s r χ),#[⟨.obj c,χ,θ⟩,⟨.obj c,θ,θ⟩]):=by
 have e1:aX t (.tmp n)=.chan (φ c):=hn;unfold execOp;rw[ho]
 simp only[resolve,ū,ď,Ŝ,e1];show((Builtin.close_ #[ty] o.type #[.chan (φ c)]).bind λv=>Ŋ (Next.value v)).runT P w #[]=_
 have e2:(Builtin.close_ #[ty] o.type #[.chan (φ c)]).runT P w #[]=(.ok (μ #[]) (w.shut c s r χ),#[⟨.obj c,χ,θ⟩,⟨.obj c,θ,θ⟩]):=by
  have e3:Builtin.close_ #[ty] o.type #[.chan (φ c)]=(do
   let .chan room buf closed arv apV timer <-Go.getObj c|Go.stuck "close: no channel in this block"
   if closed then runtimePanic (.plain "close of closed channel")
   Go.setObj c (.chan room buf θ arv apV timer)
   pure (μ #[])):=rfl
  rw[e3];simp only[Go.getObj,Go.setObj,bind,ϫ,Ϧ,hw,Ì,if_false,pure,ŋ];rfl
 rw[vY,e2];rfl
end
end Go.Jn
namespace Go.Jn
open Go Go.Proofs Go.Sim
def ChanAt(t:Array υ)(M:ay)(w0 w:Ψ)(s c:Nat):Prop:=t[s]?=φ (.chan (φ c))/\M.O c/\w0.heap.size<=c/\w.heap[c]?=φ (.chan 0 #[] χ 0 0 χ)
def uu(t:Array υ)(M:ay)(w0 w:Ψ)(s p:Nat)(v:υ)(ty:ό):Prop:=t[s]?=φ (π (φ ⟨p,0,ν⟩))/\M.O p/\w0.heap.size<=p/\w.heap[p]?=φ (Ξ #[v] ty (0,0))
def qO{o:Obj}{b:Nat}(h:b<w.heap.size):(w.alloc o).heap[b]?=w.heap[b]?:=by
 show(w.heap.push o)[b]?=_;rw[ŝ,if_neg (by omega)]
def qa{o:Obj}:(w.alloc o).heap[w.heap.size]?=φ o:=by
 show(w.heap.push o)[w.heap.size]?=_;rw[ŝ,if_pos rfl]
def kS{o:Obj}:(w.alloc o).heap.size=w.heap.size+1:=by
 show(w.heap.push o).size=_;rw[Array.size_push]
def Dk{o:Obj}:j4 M w (w.alloc o) #[]:=
 ⟨by rw[kS];omega,λb hb _=>qO hb,rfl,rfl,rfl,λe he=>absurd he (by simp)⟩
def pC(w:Ψ)(p:Nat)(o:Obj):Ψ:={w with heap:=w.heap.setIfInBounds p o}
def xB{o:Obj}:(pC w p o).heap.size=w.heap.size:=ü
def CG{b:Nat}{o:Obj}(h:p≠b):(pC w p o).heap[b]?=w.heap[b]?:=by
 show(w.heap.setIfInBounds p o)[b]?=_;rw[Ó,if_neg h]
def Un{o:Obj}(h:p<w.heap.size):(pC w p o).heap[p]?=φ o:=by
 show(w.heap.setIfInBounds p o)[p]?=_;rw[Ó,if_pos rfl,if_pos h]
def QE{o:Obj}(hO:M.O p):j4 M w (pC w p o) #[⟨.cell ⟨p,0,ν⟩,θ,χ⟩]:=
 ⟨by rw[xB];exact ϊ _,λb _ hb=>CG (by rintro rfl;exact hb hO),rfl,rfl,rfl,λe he=>by
   simp only[à,Ã] at he;subst he;exact .inl ⟨p,.inr ⟨⟨p,0,ν⟩,rfl,rfl⟩,rfl,.inl (.inl hO),λ_=>.inl hO⟩⟩
def Mg{o:Obj}:M.grow w (pC w p o)=M:=by
 have:=FP M w;unfold ay.grow at this |-
 rw[xB];exact this
section
variable {t:Array υ}{M:ay}{w0 w:Ψ}{s c:Nat}
def ChanAt.alloc(h:ChanAt t M w0 w s c)(hl:∀b,M.has b->b<w.heap.size){d:Nat}(hd:d≠s){v:υ}{o:Obj}:ChanAt (t.setIfInBounds d v) (M.grow w (w.alloc o)) w0 (w.alloc o) s c:=
 ⟨by rw[Ó,if_neg hd];exact h.1,.inl h.2.1,h.2.2.1,(qO (hl _ (.inl h.2.1))).trans h.2.2.2⟩
def uu.alloc{v0:υ}{ty:ό}(h:uu t M w0 w s c v0 ty)(hl:∀b,M.has b->b<w.heap.size){d:Nat}(hd:d≠s){v:υ}{o:Obj}:uu (t.setIfInBounds d v) (M.grow w (w.alloc o)) w0 (w.alloc o) s c v0 ty:=
 ⟨by rw[Ó,if_neg hd];exact h.1,.inl h.2.1,h.2.2.1,(qO (hl _ (.inl h.2.1))).trans h.2.2.2⟩
def ChanAt.set(h:ChanAt t M w0 w s c)(hp:w.heap[p]?=φ (Ξ #[v] ty (0,0))){o:Obj}:ChanAt t M w0 (pC w p o) s c:=
 ⟨h.1,h.2.1,h.2.2.1,(CG (by rintro rfl;rw[h.2.2.2] at hp;exact absurd hp (by simp))).trans h.2.2.2⟩
def uu.set(h:uu t M w0 w s c v0 ty)(hp:p≠c){o:Obj}:uu t M w0 (pC w p o) s c v0 ty:=
 ⟨h.1,h.2.1,h.2.2.1,(CG hp).trans h.2.2.2⟩
def ChanAt.keep(h:ChanAt t M w0 w s c)(k:bQ M w aa):ChanAt t M w0 aa s c:=⟨h.1,h.2.1,h.2.2.1,(k.kept _ (.inl h.2.1)).trans h.2.2.2⟩
def uu.keep(h:uu t M w0 w s c v0 ty)(k:bQ M w aa):uu t M w0 aa s c v0 ty:=⟨h.1,h.2.1,h.2.2.1,(k.kept _ (.inl h.2.1)).trans h.2.2.2⟩
end
structure I4(t0:Array υ)(M0:ay)(w0:Ψ)(n:Nat)(l:Array Bool)(t:Array υ)(M:ay)(w:Ψ):Prop where
 ex:∃a0 a1 a2 a3 a4 a5:Bool,∃cN cL p6 p7:Nat,l=#[a0,a1,a2,a3,a4,a5]/\n=bn a0+bn a1+bn a2+bn a3+bn a4+bn a5/\
  (a0=θ->ChanAt t M w0 w 19 cN)/\(a1=θ->ChanAt t M w0 w 20 cL)/\
  (a2=θ->uu t M w0 w 6 p6 (if a4 then .chan (φ cN) else .chan ν) 154)/\(a3=θ->uu t M w0 w 7 p7 (if a5 then .chan (φ cL) else .chan ν) 155)/\
  (a4=θ->a0=θ/\a2=θ)/\(a5=θ->a1=θ/\a3=θ)/\(a0=θ->a1=θ->cN≠cL)/\(a2=θ->a3=θ->p6≠p7)
 ua:t.size=41
 same:∀j,j≠19->j≠20->j≠6->j≠7->t[j]?=t0[j]?
 O:∀b,M0.O b->M.O b
 On:∀b,M.O b->M0.O b\/w0.heap.size<=b
 R:M.R=M0.R
 kept:∀b,M0.has b->w.heap[b]?=w0.heap[b]?
 size:w0.heap.size<=w.heap.size
 va:∀b,M0.has b->b<w0.heap.size
 low:∀b,M.has b->b<w.heap.size
 tape:w.tape=w0.tape
 os:w.os=w0.os
 e:w.output=w0.output
section
variable {t0 t:Array υ}{M0 M:ay}{w0 w:Ψ}{n:Nat}{l:Array Bool}
def I4.keep(h:I4 t0 M0 w0 n l t M w){aa:Ψ}(k:bQ M w aa):I4 t0 M0 w0 n l t M aa:=by
 obtain⟨⟨a0,a1,a2,a3,a4,a5,cN,cL,p6,p7,e1,e2,f0,f1,f2,f3,f4,f5,f6,f7⟩,ua,same,O,On,R,kept,size,va,low,tape,os,out⟩:=h;exact⟨⟨a0,a1,a2,a3,a4,a5,cN,cL,p6,p7,e1,e2,λh=>(f0 h).keep k,λh=>(f1 h).keep k,λh=>(f2 h).keep k,λh=>(f3 h).keep k,f4,f5,f6,f7⟩,ua,same,O,On,R,
  λb hb=>(k.kept b (hb.imp (O b) λx=>by rw[R];exact x)).trans (kept b hb),ϣ size k.size,va,λb hb=>ϟ (low b hb) k.size,k.tape.trans tape,k.os.trans os,k.e.trans out⟩
end
def GY:∃dir,ϋ.underlying 154=φ (.chan dir 3):=⟨_,rfl⟩
def UU:∃dir,ϋ.underlying 155=φ (.chan dir 4):=⟨_,rfl⟩
def in3:∃i,ϋ.info? 3=φ i:=⟨_,rfl⟩
def in4:∃i,ϋ.info? 4=φ i:=⟨_,rfl⟩
def aaf:∃i,ϋ.info? 154=φ i/\i.zero=φ (.chan ν)/\i.size=1:=⟨_,rfl,rfl,rfl⟩
def aag:∃i,ϋ.info? 155=φ i/\i.zero=φ (.chan ν)/\i.size=1:=⟨_,rfl,rfl,rfl⟩
section
variable {t0 t:Array υ}{M0 M:ay}{w0 w:Ψ}{n:Nat}{l:Array Bool}
def I4.step(h:I4 t0 M0 w0 n l t M w){i:Nat}(hi:i∈Ñ .any o8 l):
 ∃o v ao es,o8[i]?=φ o/\Ê o (ê o8 t)=θ/\
  ((execOp (aX t) o).runT ϋ w #[]=(.ok (.value v) ao,es)\/v=ω/\(execOp (aX t) o).runT ϋ w #[]=(.ok .skip ao,es))/\j4 M w ao es/\(∀e∈es,∀b,e.loc≠ .obj b)/\I4 t0 M0 w0 (n+1) (l.setIfInBounds i θ) (aA t o.dst v) (M.grow w ao) ao:=by
 obtain⟨⟨a0,a1,a2,a3,a4,a5,cN,cL,p6,p7,rfl,e2,f0,f1,f2,f3,f4,f5,f6,f7⟩,ua,same,O,On,R,kept,size,va,low,tape,os,out⟩:=h;have hr:=Wj apT a0 a1 a2 a3 a4 a5;rw[ģ] at hr;have hc:=hr i hi;have Nz:∀(o:Obj) b,(M.grow w (w.alloc o)).has b->b<(w.alloc o).heap.size:=by
  intro o b hb;rw[kS];rcases hb with(hb|hb) |hb
  ·have:=low b (.inl hb);omega
  ·rw[kS] at hb;omega
  ·have:=low b (.inr hb);omega
 have Nx:∀(o:Obj) b,(M.grow w (w.alloc o)).O b->M0.O b\/w0.heap.size<=b:=by
  rintro o b (hb|hb)
  ·exact On b hb
  ·right;omega
 have Nw:∀(o:Obj) b,M0.has b->(w.alloc o).heap[b]?=w0.heap[b]?:=λo b hb=>(qO (by have:=va b hb;omega)).trans (kept b hb)
 have Ny:∀o:Obj,w0.heap.size<=(w.alloc o).heap.size:=λo=>by rw[kS];omega
 have own:∀o:Obj,(M.grow w (w.alloc o)).O w.heap.size:=λo=>.inr ⟨ϊ _,by rw[kS];omega⟩
 have sm:∀(d:Nat) (v:υ),(d=19\/d=20\/d=6\/d=7)->∀j,j≠19->j≠20->j≠6->j≠7->(t.setIfInBounds d v)[j]?=t0[j]?:=by
  intro d v hd j h1 h2 h3 h4;rw[Ó,if_neg (by rcases hd with rfl|rfl|rfl|rfl<;>omega)]
  exact same j h1 h2 h3 h4
 have at_:∀(d:Nat) (v:υ),d<41->(t.setIfInBounds d v)[d]?=φ v:=by
  intro d v hd;rw[Ó,if_pos rfl,if_pos (by omega)]
 have cK:∀ {s:Nat} {v:υ},t[s]?=φ v->t.getD s ω=v:=by
  intro s v h;rw[Ò,h];rfl
 match i,hc with
 |0,hc=>
  have ha:a0=χ:=by simpa [Bj] using hc
  subst ha;obtain⟨o,ho,ae,hd,hg⟩:=apj;obtain⟨dir,hu⟩:=GY;have h4:a4=χ:=by cases a4;rfl;exact absurd (f4 rfl).1 (by simp)
  subst h4;refine⟨o,_,_,_,ho,cg hg,.inl (abM t ae hu w in3),Dk,by simp,?_⟩
  rw[hd];refine⟨⟨θ,a1,a2,a3,χ,a5,w.heap.size,cL,p6,p7,rfl,by simp only[bn] at *;simp at *;omega,λ_=>⟨at_ 19 _ (by omega),own _,size,qa⟩,λh=>(f1 h).alloc low (by omega),λh=>?_,λh=>(f3 h).alloc low (by omega),by simp,f5,λ_ h=>?_,f7⟩,
   by simp[aA,ua],sm 19 _ (by simp),λb hb=>.inl (O b hb),Nx _,R,Nw _,Ny _,va,Nz _,tape,os,out⟩
  ·have:=(f2 h).alloc low (d:=19) (v:=.chan (φ w.heap.size)) (o:=.chan 0 #[] χ 0 0 χ) (by omega)
   simpa [aA] using this
  ·have:=low cL (.inl (f1 h).2.1);omega
 |1,hc=>
  have ha:a1=χ:=by simpa [Bj] using hc
  subst ha;obtain⟨o,ho,ae,hd,hg⟩:=apk;obtain⟨dir,hu⟩:=UU;have h5:a5=χ:=by cases a5;rfl;exact absurd (f5 rfl).1 (by simp)
  subst h5;refine⟨o,_,_,_,ho,cg hg,.inl (abM t ae hu w in4),Dk,by simp,?_⟩
  rw[hd];refine⟨⟨a0,θ,a2,a3,a4,χ,cN,w.heap.size,p6,p7,rfl,by simp only[bn] at *;simp at *;omega,λh=>(f0 h).alloc low (by omega),λ_=>⟨at_ 20 _ (by omega),own _,size,qa⟩,λh=>(f2 h).alloc low (by omega),λh=>?_,f4,by simp,λh _=>?_,f7⟩,
   by simp[aA,ua],sm 20 _ (by simp),λb hb=>.inl (O b hb),Nx _,R,Nw _,Ny _,va,Nz _,tape,os,out⟩
  ·have:=(f3 h).alloc low (d:=20) (v:=.chan (φ w.heap.size)) (o:=.chan 0 #[] χ 0 0 χ) (by omega)
   simpa [aA] using this
  ·have:=low cN (.inl (f0 h).2.1);omega
 |2,hc=>
  have ha:a2=χ:=by simpa [Bj] using hc
  subst ha;obtain⟨o,ho,ae,hd,hg⟩:=apl;obtain⟨ti,sg,hz,_⟩:=aaf;have h4:a4=χ:=by cases a4;rfl;exact absurd (f4 rfl).2 (by simp)
  subst h4;refine⟨o,_,_,_,ho,cg hg,.inl (Ud t ae sg hz rfl w),Dk,by simp,?_⟩
  rw[hd];refine⟨⟨a0,a1,θ,a3,χ,a5,cN,cL,w.heap.size,p7,rfl,by simp only[bn] at *;simp at *;omega,λh=>(f0 h).alloc low (by omega),λh=>(f1 h).alloc low (by omega),λ_=>⟨at_ 6 _ (by omega),own _,size,qa⟩,λh=>(f3 h).alloc low (by omega),by simp,f5,f6,λ_ h=>?_⟩,
   by simp[aA,ua],sm 6 _ (by simp),λb hb=>.inl (O b hb),Nx _,R,Nw _,Ny _,va,Nz _,tape,os,out⟩
  have:=low p7 (.inl (f3 h).2.1);omega
 |3,hc=>
  have ha:a3=χ:=by simpa [Bj] using hc
  subst ha;obtain⟨o,ho,ae,hd,hg⟩:=apm;obtain⟨ti,sg,hz,_⟩:=aag;have h5:a5=χ:=by cases a5;rfl;exact absurd (f5 rfl).2 (by simp)
  subst h5;refine⟨o,_,_,_,ho,cg hg,.inl (Ud t ae sg hz rfl w),Dk,by simp,?_⟩
  rw[hd];refine⟨⟨a0,a1,a2,θ,a4,χ,cN,cL,p6,w.heap.size,rfl,by simp only[bn] at *;simp at *;omega,λh=>(f0 h).alloc low (by omega),λh=>(f1 h).alloc low (by omega),λh=>(f2 h).alloc low (by omega),λ_=>⟨at_ 7 _ (by omega),own _,size,qa⟩,f4,by simp,f6,λh _=>?_⟩,
   by simp[aA,ua],sm 7 _ (by simp),λb hb=>.inl (O b hb),Nx _,R,Nw _,Ny _,va,Nz _,tape,os,out⟩
  have:=low p6 (.inl (f2 h).2.1);omega
 |4,hc=>
  have ha:(a4=χ/\a0=θ)/\a2=θ:=by simpa [Bj] using hc
  obtain⟨⟨rfl,rfl⟩,rfl⟩:=ha;obtain⟨o,ho,ae,hd,hg⟩:=apn;obtain⟨ti,sg,_,hs⟩:=aaf;have g0:=f0 rfl;have g2:=f2 rfl;refine⟨o,ω,pC w p6 (Ξ #[.chan (φ cN)] 154 (0,0)),_,ho,cg hg,.inr ⟨rfl,Ug t ae (cK g2.1) (cK g0.1) rfl rfl sg hs w g2.2.2.2⟩,QE g2.2.1,by simp,?_⟩
  rw[hd,Mg];refine⟨⟨θ,a1,θ,a3,θ,a5,cN,cL,p6,p7,rfl,by simp only[bn] at *;simp at *;omega,λ_=>g0.set g2.2.2.2,λh=>(f1 h).set g2.2.2.2,λ_=>⟨g2.1,g2.2.1,g2.2.2.1,Un (low _ (.inl g2.2.1))⟩,λh=>(f3 h).set (f7 rfl h),λ_=>⟨rfl,rfl⟩,f5,f6,f7⟩,
   ua,same,O,On,R,λb hb=>(CG (by have:=va b hb;have:=g2.2.2.1;omega)).trans (kept b hb),by rw[xB];exact size,va,λb hb=>by rw[xB];exact low b hb,tape,os,out⟩
 |5,hc=>
  have ha:(a5=χ/\a1=θ)/\a3=θ:=by simpa [Bj] using hc
  obtain⟨⟨rfl,rfl⟩,rfl⟩:=ha;obtain⟨o,ho,ae,hd,hg⟩:=apo;obtain⟨ti,sg,_,hs⟩:=aag;have g1:=f1 rfl;have g3:=f3 rfl;refine⟨o,ω,pC w p7 (Ξ #[.chan (φ cL)] 155 (0,0)),_,ho,cg hg,.inr ⟨rfl,Ug t ae (cK g3.1) (cK g1.1) rfl rfl sg hs w g3.2.2.2⟩,QE g3.2.1,by simp,?_⟩
  rw[hd,Mg];refine⟨⟨a0,θ,a2,θ,a4,θ,cN,cL,p6,p7,rfl,by simp only[bn] at *;simp at *;omega,λh=>(f0 h).set g3.2.2.2,λ_=>g1.set g3.2.2.2,λh=>(f2 h).set (Ne.symm (f7 h rfl)),λ_=>⟨g3.1,g3.2.1,g3.2.2.1,Un (low _ (.inl g3.2.1))⟩,f4,λ_=>⟨rfl,rfl⟩,f6,f7⟩,
   ua,same,O,On,R,λb hb=>(CG (by have:=va b hb;have:=g3.2.2.1;omega)).trans (kept b hb),by rw[xB];exact size,va,λb hb=>by rw[xB];exact low b hb,tape,os,out⟩
 |n+6,hc=>exact absurd hc (by simp[Bj])
structure R4(t0:Array υ)(M0:ay)(w0:Ψ)(cN cL p6 p7:Nat)(t:Array υ)(M:ay)(w:Ψ):Prop where
 n:ChanAt t M w0 w 19 cN
 l:ChanAt t M w0 w 20 cL
 vn:uu t M w0 w 6 p6 (.chan (φ cN)) 154
 vl:uu t M w0 w 7 p7 (.chan (φ cL)) 155
 nl:cN≠cL
 np:p6≠p7
 ua:t.size=41
 same:∀j,j≠19->j≠20->j≠6->j≠7->t[j]?=t0[j]?
 O:∀b,M0.O b->M.O b
 On:∀b,M.O b->M0.O b\/w0.heap.size<=b
 R:M.R=M0.R
 kept:∀b,M0.has b->w.heap[b]?=w0.heap[b]?
 size:w0.heap.size<=w.heap.size
 low:∀b,M.has b->b<w.heap.size
 tape:w.tape=w0.tape
 os:w.os=w0.os
 e:w.output=w0.output
def I4.done(h:I4 t0 M0 w0 n l t M w)(hd:Ñ .any o8 l=[]\/n=o8.size):∃cN cL p6 p7,R4 t0 M0 w0 cN cL p6 p7 t M w:=by
 obtain⟨⟨a0,a1,a2,a3,a4,a5,cN,cL,p6,p7,rfl,e2,f0,f1,f2,f3,f4,f5,f6,f7⟩,ua,same,O,On,R,kept,size,va,low,tape,os,out⟩:=h;have jy:a0=θ/\a1=θ/\a2=θ/\a3=θ/\a4=θ/\a5=θ:=by
  rcases hd with hd|hd
  ·have:=Wj agQ a0 a1 a2 a3 a4 a5
   rw[hd] at this;simpa [and_assoc] using this
  ·rw[arF] at hd
   rw[e2] at hd;cases a0<;>cases a1<;>cases a2<;>cases a3<;>cases a4<;>cases a5<;>simp_all [bn]
 obtain⟨rfl,rfl,rfl,rfl,rfl,rfl⟩:=jy;exact⟨cN,cL,p6,p7,f0 rfl,f1 rfl,f2 rfl,f3 rfl,f6 rfl rfl,f7 rfl rfl,ua,same,O,On,R,kept,size,low,tape,os,out⟩
def mixed:ϋ.follows .mixedOrders=θ:=by decide+kernel
def atn{Stop:ay->ϐ->Ψ->Prop}(hk:(kd==.early)=χ)
 (hs:t0.size=41)(oD:∀b,M0.has b->b<w0.heap.size)
 (h:∀cN cL p6 p7 t M w,R4 t0 M0 w0 cN cL p6 p7 t M w->WalkE ϋ main N Stop M (rg f t k D kd cs) w):
 WalkE ϋ main N Stop M0 (rg f t0 (.code (.region 4 o8 θ)::k) D kd cs) w0:=by
 refine atg mixed hk (I4 t0 M0 w0) (λn l t M w aa hI kp=>hI.keep kp) (λn l t M w i hI hi=>hI.step hi) (λn l t M w hI hd=>?_) ?_
 ·obtain⟨cN,cL,p6,p7,hR⟩:=hI.done hd
  exact h _ _ _ _ _ _ _ hR
 ·refine⟨⟨χ,χ,χ,χ,χ,χ,0,0,0,0,rfl,rfl,by simp,by simp,by simp,by simp,by simp,by simp,by simp,by simp⟩,hs,λ_ _ _ _ _=>rfl,λ_ h=>h,λ_ h=>.inl h,rfl,λ_ _=>rfl,ϊ _,oD,oD,rfl,rfl,rfl⟩
end
end Go.Jn
namespace Go.Jn
open Go Go.Proofs Go.Sim Go.Conc
def xE:ϑ->ϑ
 | .block _ c=>c
 | .loop c=>c
 |c=>c
def Qc:ϑ:=(Tryz.f124.body).getD .skip
def wL:ϑ:=xE (xE (aG (aT Qc)))
def qA:Array Ë:=opsOf (aT (aT Qc))
def qB:Array Ë:=opsOf (aT wL)
def qC:Array Ë:=opsOf (xE (aT (aG (aG wL))))
def qD:Array Ë:=opsOf (aG (aG (aG wL)))
def qE:Array Ë:=opsOf (aG Qc)
def WM:Tryz.f124.body=φ (.seq (.seq (.region 0 qA χ) (.block 0 (.loop wL))) (.region 4 qE χ)):=rfl
def V0:wL=.seq (.region 1 qB χ) (.seq (.cond (.tmp 7) .skip (.exit 0)) (.seq (.block 1 (.region 2 qC χ)) (.region 3 qD χ))):=rfl
def cA0:∃o,qA[0]?=φ o/\o.op=.fieldAddr 26 (.tmp 0) 2/\o.dst=φ 3/\o.guard=ν:=⟨_,rfl,rfl,rfl,rfl⟩
def cA1:∃o,qA[1]?=φ o/\o.op=.load 23 (.tmp 3)/\o.dst=φ 4/\o.guard=ν:=⟨_,rfl,rfl,rfl,rfl⟩
def cA2:∃o,qA[2]?=φ o/\o.op=.call {callee:=.builtin .len,args:=#[.tmp 4],argTypes:=#[23]}/\o.dst=φ 5/\o.guard=ν:=⟨_,rfl,rfl,rfl,rfl⟩
def cA3:∃o,qA[3]?=φ o/\o.op=.move (.const (ξ κ 0))/\o.dst=φ 6/\o.guard=ν:=⟨_,rfl,rfl,rfl,rfl⟩
def WW:∃o,qB[0]?=φ o/\o.op=.binOp .lss 3 (.tmp 6) (.tmp 5) 3/\o.dst=φ 7/\o.guard=ν:=⟨_,rfl,rfl,rfl,rfl⟩
def cC0:∃o,qC[0]?=φ o/\o.op=.load 155 (.tmp 1)/\o.dst=φ 8/\o.guard=ν:=⟨_,rfl,rfl,rfl,rfl⟩
def cC1:∃o,qC[1]?=φ o/\o.op=.recv 155 (.tmp 8) χ/\o.dst=φ 9/\o.guard=ν:=⟨_,rfl,rfl,rfl,rfl⟩
def cD0:∃o,qD[0]?=φ o/\o.op=.binOp .add 3 (.tmp 6) (.const (ξ κ 1)) 3/\o.dst=φ 10/\o.guard=ν:=⟨_,rfl,rfl,rfl,rfl⟩
def cD1:∃o,qD[1]?=φ o/\o.op=.move (.tmp 10)/\o.dst=φ 6/\o.guard=ν:=⟨_,rfl,rfl,rfl,rfl⟩
def cE0:∃o,qE[0]?=φ o/\o.op=.load 154 (.tmp 2)/\o.dst=φ 11/\o.guard=ν:=⟨_,rfl,rfl,rfl,rfl⟩
def WX:∃o,qE[1]?=φ o/\o.op=.call {callee:=.builtin .close,args:=#[.tmp 11],argTypes:=#[154]}/\o.dst=ν/\o.guard=ν:=⟨_,rfl,rfl,rfl,rfl⟩
def zA:qA.size=4:=rfl
def zB:qB.size=1:=rfl
def zC:qC.size=2:=rfl
def zD:qD.size=2:=rfl
def zE:qE.size=2:=rfl
def alR:∃i,ϋ.info? 4=φ i/\i.zero=φ (.bool χ):=⟨_,rfl,rfl⟩
def acL:∃fs fd i,ϋ.underlying 26=φ (.struct fs)/\fs[2]?=φ fd/\fd.offset=2/\ ϋ.info? fd.type=φ i/\i.size≠0:=⟨_,_,_,rfl,rfl,rfl,rfl,by decide⟩
def acK:∃e,ϋ.underlying 23=φ (.slice e):=⟨_,rfl⟩
def Cw{b:Nat}(h:M.has b)(a:ϖ)(ha:a.block=b):∀e∈(#[⟨.cell a,χ,χ⟩]:Array Event),C6 M e:=λe he=>by
 simp only[à,Ã] at he;subst he;exact .inl ⟨b,.inr ⟨a,rfl,ha⟩,rfl,h,λh=>absurd h (by simp)⟩
def ig:∀e∈(#[]:Array Event),C6 M e:=λe he=>absurd he (by simp)
def cK(h:t[s]?=φ v):t.getD s ω=v:=by
 rw[Ò,h];rfl
def jB(h:d<t.size):(t.setIfInBounds d v)[d]?=φ v:=by
 rw[Ó,if_pos rfl,if_pos h]
def bO(h:d≠s):(t.setIfInBounds d v)[s]?=t[s]?:=by
 rw[Ó,if_neg h]
section
variable {n N0 cL cN:Nat}{cR:Nat->Bool}{val:Nat->υ}{End:List Nat->ay->ϐ->Ψ->Prop}
def agm(ht:t.getD 11 ω=.chan (φ cN)):
 AtClose (Pm.mk ϋ n N0 cL cN cR val End) M (rg 124 t [.inRegion qE [1]] [] .deferred [cJ ϋ]) w:=by
 refine⟨rfl,?_,λs r hw=>?_⟩
 ·obtain⟨o,ho,ae,hd,hg⟩:=WX
  show mayWake ϋ (rg 124 t [.inRegion qE [1]] [] .deferred [cJ ϋ])=θ;simp[mayWake,Ū,ho,ae]
 ·obtain⟨o,ho,ae,hd,hg⟩:=WX
  have aW:=Oi (P:=ϋ) (main:=χ) (f:=124) (k:=[]) (D:=[]) (kd:=.deferred) (cs:=[cJ ϋ]) (rest:=[]) ho (cg hg) rfl (aqy t w ae ht hw);rw[hd] at aW;refine⟨rg 124 t [.inRegion qE []] [] .deferred [cJ ϋ],4,aW.trans ?_,?_⟩
  ·have e:seen ϋ 124 #[⟨.obj cN,χ,θ⟩,⟨.obj cN,θ,θ⟩]=#[⟨.obj cN,χ,θ⟩,⟨.obj cN,θ,θ⟩]:=by simp[seen]
   rw[e];rfl
  ·refine .inr ⟨rfl,rg 124 t [] [] .deferred [cJ ϋ],λaa=>by simp[Ϛ,Θ,aA],.inr ⟨rfl,aR ⟨124,t,[],[],.returning,.deferred,ν⟩ [cJ ϋ],λaa=>by simp[Ϛ,Θ],aby Tryz.func124 rfl⟩⟩
def oA(h:d<t.size):(aA t (φ d) v).getD d ω=v:=cK (jB h)
def wrap_small{x:Int}(h0:0<=x)(h1:x<2 ^ 62):ϗ.wrap x=x:=by
 rw[IntWalk.i64_left];exact IntWalk.wrap64_in x (by omega)
def agn{p6 p7:Nat}{f6 f7:Nat×Nat}(m6:M.has p6)(m7:M.has p7)(h6:w.heap[p6]?=φ (Ξ #[.chan (φ cN)] e6 f6))(h7:w.heap[p7]?=φ (Ξ #[.chan (φ cL)] e7 f7))(hn:n<2 ^ 61):
 ∀(r:Nat) (t:Array υ),r<=n->t.size=12->t[1]?=φ (π (φ ⟨p7,0,ν⟩))->t[2]?=φ (π (φ ⟨p6,0,ν⟩))->t[5]?=φ (ξ κ n)->t[6]?=φ (ξ κ ((n:Int) - r))->
  Walk ϋ χ (wP (Pm.mk ϋ n N0 cL cN cR val End) r) M (rg 124 t [.code wL,.inLoop wL,.inBlock 0,.code (.region 4 qE χ)] [] .deferred [cJ ϋ]) w:=by
 intro r;induction r with
 |zero=>
  intro t hr hs t1 t2 t5 t6;rw[V0];refine mM (nS ?_)
  rw[zB];obtain⟨o,ho,ae,hd,hg⟩:=WW;refine fw ho (cg hg) rfl (λaa _=>⟨_,N6 t aa ae (cK t6) (cK t5),ig⟩) ?_
  rw[hd];refine oP (mM (G4 (q:=χ) ?_ ?_))
  ·have:¬ ((n:Int) - ((0:Nat):Int)<n):=by omega
   exact(oA (by omega)).trans (congrArg Value.bool (by simp only[this,decide_true,decide_false]))
  ·refine UZ (k':=[.code (.region 4 qE χ)]) rfl (nS ?_)
   rw[zE];obtain⟨o,ho,ae,hd,hg⟩:=cE0;obtain⟨dir,hu⟩:=GY;refine fw ho (cg hg) rfl (λaa hk=>⟨_,Cz _ aa ae (cK ((bO (by omega)).trans t2)) hu rfl (rV ((hk.kept _ m6).trans h6) rfl rfl),Cw m6 _ rfl⟩) ?_
   rw[hd];exact .stop λaa _=>agm (cK (jB (by simp[aA];omega)))
 |succ r ih=>
  intro t hr hs t1 t2 t5 t6;rw[V0];refine mM (nS ?_)
  rw[zB];obtain⟨o,ho,ae,hd,hg⟩:=WW;refine fw ho (cg hg) rfl (λaa _=>⟨_,N6 t aa ae (cK t6) (cK t5),ig⟩) ?_
  rw[hd];refine oP (mM (G4 (q:=θ) ?_ ?_))
  ·have:(n:Int) - ((r+1:Nat):Int)<n:=by omega
   exact(oA (by omega)).trans (congrArg Value.bool (by simp only[this,decide_true,decide_false]))
  ·refine U3 (mM (G3 (nS ?_)))
   rw[zC];obtain⟨o,ho,ae,hd,hg⟩:=cC0;obtain⟨dir,hu⟩:=UU;refine fw ho (cg hg) rfl (λaa hk=>⟨_,Cz _ aa ae (cK ((bO (by omega)).trans t1)) hu rfl (rV ((hk.kept _ m7).trans h7) rfl rfl),Cw m7 _ rfl⟩) ?_
   rw[hd];suffices rest:∀T:Array υ,T.size=12->T[8]?=φ (.chan (φ cL))->(∀j,j≠7->j≠8->T[j]?=t[j]?)->
    Walk ϋ χ (wP (Pm.mk ϋ n N0 cL cN cR val End) (r+1)) M (rg 124 T (.inRegion qC [1]:: .inBlock 1:: .code (.region 3 qD χ):: .inLoop wL:: .inBlock 0:: [.code (.region 4 qE χ)]) [] .deferred [cJ ϋ]) w from
    rest _ (by simp[aA,hs]) (jB (by simp[aA];omega)) (λj h1 h2=>(bO (Ne.symm h2)).trans (bO (Ne.symm h1)))
   intro T Rj hT8 hTo;obtain⟨o,ho,ae,hd,hg⟩:=cC1;obtain⟨i,hi,hz⟩:=alR;refine .stop λaa hk=>⟨rfl,rfl,⟨.bool χ,K0 ho (cg hg) rfl (Uf T aa ae (cK hT8) hu hi hz)⟩,?_⟩
   have JR:Ϩ (rg 124 T (.inRegion qC [1]:: .inBlock 1:: .code (.region 3 qD χ):: .inLoop wL:: .inBlock 0:: [.code (.region 4 qE χ)]) [] .deferred [cJ ϋ]) (recvd χ (.bool θ) θ)=
    rg 124 (T.setIfInBounds 9 (.bool θ)) (.inRegion qC []:: .inBlock 1:: .code (.region 3 qD χ):: .inLoop wL:: .inBlock 0:: [.code (.region 4 qE χ)]) [] .deferred [cJ ϋ]:=by
    simp[Ϩ,Ē,ho,hd,recvd]
   show Walk ϋ χ (wP (Pm.mk ϋ n N0 cL cN cR val End) r) M (Ϩ (rg 124 T (.inRegion qC [1]:: .inBlock 1:: .code (.region 3 qD χ):: .inLoop wL:: .inBlock 0:: [.code (.region 4 qE χ)]) [] .deferred [cJ ϋ]) (recvd χ (.bool θ) θ)) aa;rw[JR];refine Walk.rely ?_ hk
   refine oP (U0 (nS ?_))
   rw[zD];obtain⟨o,ho,ae,hd,hg⟩:=cD0;have hU:∀j,j≠7->j≠8->j≠9->(T.setIfInBounds 9 (.bool θ))[j]?=t[j]?:=λj h1 h2 h3=>(bO (Ne.symm h3)).trans (hTo j h1 h2)
   refine fw ho (cg hg) rfl (λaa _=>⟨_,abG _ aa ae (cK ((hU 6 (by omega) (by omega) (by omega)).trans t6)) rfl,ig⟩) ?_
   rw[hd];obtain⟨o,ho,ae,hd,hg⟩:=cD1;refine fw ho (cg hg) rfl (λaa _=>⟨_,run_move _ aa ae,ig⟩) ?_
   rw[hd];refine oP (U1 ?_)
   have hw:ϗ.wrap ((n:Int) - ((r+1:Nat):Int)+1)=(n:Int) - r:=by rw[wrap_small (by omega) (by omega)];omega
   rw[hw];have SG:(T.setIfInBounds 9 (.bool θ)).size=12:=by simp[Rj]
   refine ih _ (by omega) (by simp[aA,Rj]) ?_ ?_ ?_ ?_
   ·exact(bO (by omega)).trans ((bO (by omega)).trans ((hU 1 (by omega) (by omega) (by omega)).trans t1))
   ·exact(bO (by omega)).trans ((bO (by omega)).trans ((hU 2 (by omega) (by omega) (by omega)).trans t2))
   ·exact(bO (by omega)).trans ((bO (by omega)).trans ((hU 5 (by omega) (by omega) (by omega)).trans t5))
   ·refine(jB (by simp[aA,Rj])).trans ?_
    exact congrArg φ (cK (jB (by omega)))
def aoO:(Tryz.f124.name== "runtime.NumGoroutine")=χ:=by decide+kernel
def closer{p6 p7:Nat}{eb:ό}{f6 f7 fb:Nat×Nat}{bc:Array υ}{A:Option ϖ}{c:Nat}(mb:M.has bk)(m6:M.has p6)(m7:M.has p7)(hb:w.heap[bk]?=φ (.cells bc eb fb))(hc:bc[2]?=φ (.slice A n c))
 (h6:w.heap[p6]?=φ (Ξ #[.chan (φ cN)] e6 f6))(h7:w.heap[p7]?=φ (Ξ #[.chan (φ cL)] e7 f7))(hn:n<2 ^ 61):
 Walk ϋ χ (wP (Pm.mk ϋ n N0 cL cN cR val End) n) M (born ϋ {target:=.fn (.func 124) #[π (φ ⟨bk,0,ν⟩),π (φ ⟨p7,0,ν⟩),π (φ ⟨p6,0,ν⟩)],args:=#[]}) w:=by
 refine ac0 Tryz.func124 WM (λaa=>IN Tryz.func124 WM aoO _ aa) ?_
 have ht:((#[]++#[π (φ ⟨bk,0,ν⟩),π (φ ⟨p7,0,ν⟩),π (φ ⟨p6,0,ν⟩)])++ϱ (Tryz.f124.ntmps - (#[]++#[π (φ ⟨bk,0,ν⟩),π (φ ⟨p7,0,ν⟩),π (φ ⟨p6,0,ν⟩)]:Array υ).size) ω:Array υ)=
  #[π (φ ⟨bk,0,ν⟩),π (φ ⟨p7,0,ν⟩),π (φ ⟨p6,0,ν⟩),ω,ω,ω,ω,ω,ω,ω,ω,ω]:=rfl
 rw[ht];generalize hT:(#[π (φ ⟨bk,0,ν⟩),π (φ ⟨p7,0,ν⟩),π (φ ⟨p6,0,ν⟩),ω,ω,ω,ω,ω,ω,ω,ω,ω]:Array υ)=t;have hs:t.size=12:=by rw[<-hT];rfl
 have t0:t[0]?=φ (π (φ ⟨bk,0,ν⟩)):=by rw[<-hT];rfl
 have t1:t[1]?=φ (π (φ ⟨p7,0,ν⟩)):=by rw[<-hT];rfl
 have t2:t[2]?=φ (π (φ ⟨p6,0,ν⟩)):=by rw[<-hT];rfl
 clear hT ht;refine mM (mM (nS ?_))
 rw[zA];obtain⟨o,ho,ae,hd,hg⟩:=cA0;obtain⟨fs,fd,fi,hu,hf,Sw,hi,aL⟩:=acL;refine fw ho (cg hg) rfl (λaa _=>⟨_,abI t aa ae (cK t0) hu hf hi aL,ig⟩) ?_
 rw[hd,Sw];obtain⟨o,ho,ae,hd,hg⟩:=cA1;obtain⟨e,JY⟩:=acK;refine fw ho (cg hg) rfl (λaa hk=>⟨_,Cz _ aa ae (cK (jB (by omega))) JY rfl (rV ((hk.kept _ mb).trans hb) rfl hc),Cw mb _ rfl⟩) ?_
 rw[hd];obtain⟨o,ho,ae,hd,hg⟩:=cA2;refine fw ho (cg hg) rfl (λaa _=>⟨_,abK _ aa ae (cK (jB (by simp[aA];omega))) JY,ig⟩) ?_
 rw[hd];obtain⟨o,ho,ae,hd,hg⟩:=cA3;refine fw ho (cg hg) rfl (λaa _=>⟨_,run_move _ aa ae,ig⟩) ?_
 rw[hd];refine oP (G3 (U2 ?_))
 refine agn m6 m7 h6 h7 hn n _ (ϊ _) (by simp[aA,hs]) ?_ ?_ ?_ ?_
 ·exact(bO (by omega)).trans ((bO (by omega)).trans ((bO (by omega)).trans ((bO (by omega)).trans t1)))
 ·exact(bO (by omega)).trans ((bO (by omega)).trans ((bO (by omega)).trans ((bO (by omega)).trans t2)))
 ·exact(bO (by omega)).trans ((jB (by simp[aA];omega)).trans rfl)
 ·refine(jB (by simp[aA];omega)).trans ?_
  have:(n:Int) - n=0:=by omega
  rw[this];rfl
end
def EL:Array Ë:=opsOf ((Tryz.f121.body).getD .skip)
def WL:Tryz.f121.body=φ (.region 0 EL χ):=rfl
def afp:∃o,EL[0]?=φ o/\o.op=.load 155 (.tmp 0)/\o.dst=φ 1/\o.guard=ν:=⟨_,rfl,rfl,rfl,rfl⟩
def afq:∃o,EL[1]?=φ o/\o.op=.send (.tmp 1) (.const (.bool θ))/\o.dst=ν/\o.guard=ν:=⟨_,rfl,rfl,rfl,rfl⟩
def atI:EL.size=2:=rfl
def aoN:(Tryz.f121.name== "runtime.NumGoroutine")=χ:=by decide+kernel
def ar5{g:Å}{D:List Æ}{kd:ũ}{cs:List ϝ}(hf:P.funcs[f]?=φ fn)(hb:fn.body=φ c)(hr:(callFunc f (#[]++j6)).runT P aa #[]=(.ok (.enter f (#[]++j6)) aa,#[])):
 Ϛ P main (aR ⟨g,t,k,{target:=.fn (.func f) j6,args:=#[]}::D,.returning,kd,ν⟩ cs) aa=.go (rg f ((#[]++j6)++ϱ (fn.ntmps - (#[]++j6:Array υ).size) ω) [.code c] [] .deferred (⟨g,t,k,D,.returning,kd,ν⟩::cs)) aa #[]:=by
 have hi:invoke (.fn (.func f) j6) #[]=callFunc f (#[]++j6):=rfl;have e:ě P ⟨g,t,k,D,.returning,kd,ν⟩ cs ν {target:=.fn (.func f) j6,args:=#[]} aa=.go (aR (í P f (#[]++j6) .deferred) (⟨g,t,k,D,.returning,kd,ν⟩::cs)) aa #[]:=by
  unfold ě;simp only[hi,hr,Az,Þ,Bool.false_and,Ì,if_false];rfl
 exact e.trans (by rw[FH hf hb])
def ar1{g:Å}(hf:P.funcs[f]?=φ fn)(hr:fn.results=#[])(aa:Ψ):
 Ϛ P χ (aR ⟨f,t,k,[],.returning,.deferred,ν⟩ (⟨g,t',k',[],.returning,kd,ν⟩::cs)) aa=.go (aR ⟨g,t',k',[],.returning,kd,ν⟩ cs) aa #[]:=by
 have e:Î P χ ⟨f,t,k,[],.returning,.deferred,ν⟩ (⟨g,t',k',[],.returning,kd,ν⟩::cs) ν aa=.go (aR ⟨g,t',k',[],.returning,kd,ν⟩ cs) aa #[]:=by
  unfold Î;simp only[hf,results_none hr,Az,Þ,doReturn];rfl
 exact e
section
variable {n N0 cL cN:Nat}{cR:Nat->Bool}{val:Nat->υ}{End:List Nat->ay->ϐ->Ψ->Prop}
def atu{p7:Nat}{f7:Nat×Nat}(m7:M.has p7)(h7:w.heap[p7]?=φ (Ξ #[.chan (φ cL)] e7 f7))(ak2:Tryz.f120.results=#[]):
 Walk ϋ χ (W2 (Pm.mk ϋ n N0 cL cN cR val End)) M (aR ⟨120,t,k,[{target:=.fn (.func 121) #[π (φ ⟨p7,0,ν⟩)],args:=#[]}],.returning,.deferred,ν⟩ [cJ ϋ]) w:=by
 refine qY rfl (λaa=>ar5 Tryz.func121 WL (IN Tryz.func121 WL aoN _ aa)) ?_
 have ht:((#[]++#[π (φ ⟨p7,0,ν⟩)])++ϱ (Tryz.f121.ntmps - (#[]++#[π (φ ⟨p7,0,ν⟩)]:Array υ).size) ω:Array υ)=#[π (φ ⟨p7,0,ν⟩),ω]:=rfl;rw[ht];refine nS ?_
 rw[atI];obtain⟨o,ho,ae,hd,hg⟩:=afp;obtain⟨dir,hu⟩:=UU;refine fw ho (cg hg) rfl (λaa hk=>⟨_,Cz _ aa ae (v:=.chan (φ cL)) (a:=⟨p7,0,ν⟩) rfl hu rfl (rV ((hk.kept _ m7).trans h7) rfl rfl),Cw m7 _ rfl⟩) ?_
 rw[hd];obtain⟨o,ho,ae,hd,hg⟩:=afq;refine .stop λaa _=>⟨rfl,rfl,⟨μ #[],K0 ho (cg hg) rfl (abN _ aa ae rfl)⟩,5,?_⟩
 have JR:Ϩ (rg 121 #[π (φ ⟨p7,0,ν⟩),.chan (φ cL)] [.inRegion EL [1]] [] .deferred [⟨120,t,k,[],.returning,.deferred,ν⟩,cJ ϋ]) ω=
  rg 121 #[π (φ ⟨p7,0,ν⟩),.chan (φ cL)] [.inRegion EL []] [] .deferred [⟨120,t,k,[],.returning,.deferred,ν⟩,cJ ϋ]:=by
  simp[Ϩ,Ē,ho,hd]
 show QuitsIn ϋ 5 (Ϩ (rg 121 #[π (φ ⟨p7,0,ν⟩),.chan (φ cL)] [.inRegion EL [1]] [] .deferred [⟨120,t,k,[],.returning,.deferred,ν⟩,cJ ϋ]) ω);rw[JR];refine .inr ⟨rfl,rg 121 #[π (φ ⟨p7,0,ν⟩),.chan (φ cL)] [] [] .deferred [⟨120,t,k,[],.returning,.deferred,ν⟩,cJ ϋ],λaa=>by simp[Ϛ,Θ],?_⟩
 refine .inr ⟨rfl,aR ⟨121,#[π (φ ⟨p7,0,ν⟩),.chan (φ cL)],[],[],.returning,.deferred,ν⟩ [⟨120,t,k,[],.returning,.deferred,ν⟩,cJ ϋ],λaa=>by simp[Ϛ,Θ],?_⟩
 exact .inr ⟨rfl,_,λaa=>ar1 Tryz.func121 rfl aa,aby Tryz.func120 ak2⟩
def IG:ϑ:=(Tryz.f120.body).getD .skip
def NQ:Array Ë:=opsOf (aT IG)
def vX:Array Ë:=opsOf (aG (aG (aG IG)))
def AO:ϑ:=aT (aG IG)
def zm:ϑ:=aT (aG (aG IG))
def WK:Tryz.f120.body=φ (.seq (.region 0 NQ χ) (.seq AO (.seq zm (.region 3 vX χ)))):=rfl
def afk:∃o,NQ[0]?=φ o/\o.op=.makeFunc (.func 121) #[] #[.tmp 0]/\o.dst=φ 6/\o.guard=ν:=⟨_,rfl,rfl,rfl,rfl⟩
def afl:∃o,NQ[1]?=φ o/\o.op=.defer {callee:=.value (.tmp 6),args:=#[],argTypes:=#[]}/\o.dst=ν/\o.guard=ν:=⟨_,rfl,rfl,rfl,rfl⟩
def afm:∃o,vX[0]?=φ o/\o.op=.load 154 (.tmp 3)/\o.dst=φ 16/\o.guard=ν:=⟨_,rfl,rfl,rfl,rfl⟩
def afn:∃o,vX[1]?=φ o/\o.op=.load 3 (.tmp 2)/\o.dst=φ 17/\o.guard=ν:=⟨_,rfl,rfl,rfl,rfl⟩
def afo:∃o,vX[2]?=φ o/\o.op=.send (.tmp 16) (.tmp 17)/\o.dst=ν/\o.guard=ν:=⟨_,rfl,rfl,rfl,rfl⟩
def atJ:NQ.size=2:=rfl
def atK:vX.size=3:=rfl
def ty3:ϋ.underlying 3=φ (.int .i64):=rfl
def aoM:(Tryz.f120.name== "runtime.NumGoroutine")=χ:=by decide+kernel
def atv{Stop:ay->ϐ->Ψ->Prop}{w:Ψ}{p6 p7:Nat}
 (h:∀t:Array υ,t.size=18->t[0]?=φ (π (φ ⟨p7,0,ν⟩))->t[1]?=φ (π (φ ⟨bk,0,ν⟩))->t[2]?=φ (π (φ ⟨pk,0,ν⟩))->t[3]?=φ (π (φ ⟨p6,0,ν⟩))->
   t[6]?=φ (.func (.func 121) #[] #[π (φ ⟨p7,0,ν⟩)])->(∀j,4<=j->j<18->j≠6->t[j]?=φ ω)->
   Walk ϋ χ Stop M (rg 120 t [.code (.seq AO (.seq zm (.region 3 vX χ)))] [{target:=.fn (.func 121) #[π (φ ⟨p7,0,ν⟩)],args:=#[]}] .deferred [cJ ϋ]) w):
 Walk ϋ χ Stop M (born ϋ {target:=.fn (.func 120) #[π (φ ⟨p7,0,ν⟩),π (φ ⟨bk,0,ν⟩),π (φ ⟨pk,0,ν⟩),π (φ ⟨p6,0,ν⟩)],args:=#[]}) w:=by
 refine ac0 Tryz.func120 WK (λaa=>IN Tryz.func120 WK aoM _ aa) ?_
 have hn:Tryz.f120.ntmps=18:=rfl;have ht:∀a b c d:υ,((#[]++#[a,b,c,d])++ϱ (18 - (#[]++#[a,b,c,d]:Array υ).size) ω:Array υ)=#[a,b,c,d,ω,ω,ω,ω,ω,ω,ω,ω,ω,ω,ω,ω,ω,ω]:=λ_ _ _ _=>by simp[ϱ]
 rw[hn];rw[ht];generalize hT:(#[π (φ ⟨p7,0,ν⟩),π (φ ⟨bk,0,ν⟩),π (φ ⟨pk,0,ν⟩),π (φ ⟨p6,0,ν⟩),ω,ω,ω,ω,ω,ω,ω,ω,ω,ω,ω,ω,ω,ω]:Array υ)=T;have hs:T.size=18:=by rw[<-hT];rfl
 have t0:T[0]?=φ (π (φ ⟨p7,0,ν⟩)):=by rw[<-hT];rfl
 have t1:T[1]?=φ (π (φ ⟨bk,0,ν⟩)):=by rw[<-hT];rfl
 have t2:T[2]?=φ (π (φ ⟨pk,0,ν⟩)):=by rw[<-hT];rfl
 have t3:T[3]?=φ (π (φ ⟨p6,0,ν⟩)):=by rw[<-hT];rfl
 have tu:∀j,4<=j->j<18->T[j]?=φ ω:=by
  intro j h4 Mk;have:j=4\/j=5\/j=6\/j=7\/j=8\/j=9\/j=10\/j=11\/j=12\/j=13\/j=14\/j=15\/j=16\/j=17:=by omega
  rw[<-hT];rcases this with rfl|rfl|rfl|rfl|rfl|rfl|rfl|rfl|rfl|rfl|rfl|rfl|rfl|rfl<;>rfl
 clear hT ht;refine mM (nS ?_)
 rw[atJ];obtain⟨o,ho,ae,hd,hg⟩:=afk;have hv:(#[Operand.tmp 0].map (aX T))=#[π (φ ⟨p7,0,ν⟩)]:=by
  have:aX T (.tmp 0)=π (φ ⟨p7,0,ν⟩):=cK t0;simp only[ū,ď,Ŝ,this]
 refine fw ho (cg hg) rfl (λaa _=>⟨_,(Ue T aa ae).trans (by rw[hv]),ig⟩) ?_
 rw[hd];obtain⟨o,ho,ae,hd,hg⟩:=afl;refine atl ho (cg hg) rfl (d:={target:=.fn (.func 121) #[π (φ ⟨p7,0,ν⟩)],args:=#[]}) (λaa=>aqz _ aa ae (oA (by omega))) ?_
 rw[hd];refine oP (h _ ?_ ?_ ?_ ?_ ?_ ?_ ?_)
 ·simp[aA,hs]
 ·exact(bO (by omega)).trans t0
 ·exact(bO (by omega)).trans t1
 ·exact(bO (by omega)).trans t2
 ·exact(bO (by omega)).trans t3
 ·exact jB (by omega)
 ·exactλj h4 Mk h6=>(bO (Ne.symm h6)).trans (tu j h4 Mk)
end
end Go.Jn
namespace Go.Sim
open Go
def XQ{α σ:Type}{f:α->σ->Option (ForInStep σ)}(I:σ->Prop)(hf:∀x s r,I s->f x s=φ r->I r.value):∀(l:List α) (s s':σ),I s->forIn l s f=φ s'->I s'
 | [],s,s',hs,h=>by
   simp only[List.forIn_nil] at h;cases h;exact hs
 |x::l,s,s',hs,h=>by
  rw[List.forIn_cons] at h;simp only[bind,ą] at h;obtain⟨r,h1,h2⟩:=h;have hr:=hf x s r hs h1;cases r with
  |done b=>cases h2;exact hr
  |yield b=>exact XQ I hf l b s' hr h2
def Wg(z:Option (Array υ)):Prop:=∀c,z=φ c->aV (λ_ _=>False) c c
def apW{info:ό->Option Ģ}(hi:∀t i v,info t=φ i->i.zero=φ v->Flat v){i:Ģ}(h:Made.reckonStruct info fs=φ i)(hv:i.zero=φ v):Flat v:=by
 unfold Made.reckonStruct at h;simp only[bind,ą] at h;obtain⟨r,h1,h2⟩:=h;have inv:Wg r.2.2.2.2.2.2.2.1:=by
  rw[<-Array.forIn_toList] at h1;refine XQ (λs=>Wg s.2.2.2.2.2.2.2.1) ?_ _ _ _ ?_ h1
  ·intro x s r hs h
   simp only[ą] at h;obtain⟨j,hj,h⟩:=h;have key:r.value.2.2.2.2.2.2.2.1=(if s.2.1+j.size>Made.mostCells then ν else s.2.2.2.2.2.2.2.1.bind λa=>j.zero.bind λb=>φ (a++b.cells)):=by
    by_cases e1:j.str.isEmpty=θ
    ·simp[e1] at h
    by_cases e2:x.embedded=θ
    ·simp[e1,e2] at h
    by_cases e3:x.tag.isEmpty=θ<;>by_cases e4:j.bytes=0<;>simp only[e1,e2,e3,e4,if_true,if_false,ą,pure,ï,Ì] at h<;>obtain⟨tag,ht,rfl⟩:=h<;>rfl
   intro c hc;rw[key] at hc;split at hc
   ·exact absurd hc (by simp)
   ·simp only[ą] at hc
    obtain⟨a,ha,b,hb,hc⟩:=hc;cases hc;exact(hs a ha).append (ah.cells (hi _ _ _ hj hb))
  ·intro c hc;cases hc;exact .empty
 have hz:i.zero=Option.map Value.agg r.2.2.2.2.2.2.2.1:=by
  split at h2<;>cases h2<;>rfl
 rw[hz] at hv;cases hr:r.2.2.2.2.2.2.2.1 with
 |none=>rw[hr] at hv;exact absurd hv (by simp)
 |some c=>rw[hr] at hv;cases hv;exact .Ba (inv c hr)
def aqd{c:Array υ}(h:aV (λ_ _=>False) c c):∀n:Nat,aV (λ_ _=>False) (ϱ n c).flatten (ϱ n c).flatten:=by
 intro n;refine bU.refl λa ha=>?_
 simp only[Array.mem_flatten,Aav] at ha;obtain⟨x,⟨_,rfl⟩,hx⟩:=ha;obtain⟨i,hi,rfl⟩:=Aay.1 hx;exact h.2 i hi hi
def apX{info:ό->Option Ģ}(hi:∀t i v,info t=φ i->i.zero=φ v->Flat v){d:TypeDesc}{i:Ģ}(h:Made.reckon info d=φ i)(hv:i.zero=φ v):Flat v:=by
 unfold Made.reckon at h;split at h
 ·simp only[bind,ą] at h
  obtain⟨j,h1,h2⟩:=h;split at h2
  ·exact absurd h2 (by simp)
  ·split at h2
   ·exact absurd h2 (by simp)
   ·simp only[ą,pure,ï] at h2
    obtain⟨_,_,rfl⟩:=h2;cases hv;exact .ptrNone
  ·simp only[ą,pure,ï] at h2
   obtain⟨_,_,rfl⟩:=h2;cases hv;exact .ptrNone
 ·simp only[bind,ą,pure,ï] at h
  obtain⟨_,_,_,_,rfl⟩:=h;cases hv;exact .sliceNone _ _
 ·simp only[bind,ą,pure,ï] at h
  obtain⟨_,_,_,_,_,_,_,_,rfl⟩:=h;cases hv;exact .mapNone
 ·simp only[bind,ą,pure,ï] at h
  obtain⟨_,_,_,_,rfl⟩:=h;cases hv;exact .chanNone
 ·simp only[bind,ą,pure,ï] at h
  obtain⟨_,_,rfl⟩:=h;cases hv;exact .nilFunc
 ·simp only[bind,ą,pure,ï] at h
  obtain⟨j,hj,_,_,rfl⟩:=h;simp only at hv;split at hv
  ·exact absurd hv (by simp)
  ·split at hv
   ·cases hv;exact .Ba .empty
   ·cases hz:j.zero with
    |none=>rw[hz] at hv;exact absurd hv (by simp)
    |some z=>rw[hz] at hv;cases hv;exact .Ba (aqd (ah.cells (hi _ _ _ hj hz)) _)
 ·exact apW hi h hv
 ·exact absurd h (by simp)
def aan{T:Tables}(h0:∀(t:Nat) (i:Ģ) (v:υ),T.types[t]?=φ i->i.zero=φ v->Flat v):∀(f:Nat) (t:ό) (i:Ģ) (v:υ),Made.infoAt T f t=φ i->i.zero=φ v->Flat v
 |0,_,_,_,h,_=>absurd h (by simp[Made.infoAt])
 |f+1,t,i,v,h,hv=>by
  unfold Made.infoAt at h;split at h
  ·exact h0 _ _ _ h hv
  ·simp only[ą] at h
   obtain⟨d,_,h2⟩:=h;exact apX (aan h0 f) h2 hv
def alW(h0:∀(t:Nat) (i:Ģ) (v:υ),P.types[t]?=φ i->i.zero=φ v->Flat v):uE P where
 zero t i v h hv:=by
  have h':(if t<P.types.size then P.types[t]? else Made.infoAt P.toTables Made.depth t)=φ i:=h
  split at h'
  ·exact h0 _ _ _ h' hv
  ·exact aan (T:=P.toTables) h0 _ _ _ _ h' hv
end Go.Sim
namespace Go.Jn
open Go Go.Proofs Go.Sim
def G0:Nat->Bool:=λg=>g==0
def WN(P:Ϙ)(fn:Func):Bool:=match fn.body with
 |some c=>cy P G0 c && !(fn.name== "runtime.NumGoroutine") && (readies c).isEmpty
 |none=>χ
def okB(P:Ϙ)(i:Nat):Bool:=Tw.An i||match P.funcs[i]? with
 |some fn=>WN P fn
 |none=>χ
def nF:Nat:=241
def apd:(List.range nF).all (okB ϋ)=θ:=by decide+kernel
def few:ϋ.funcs.size=nF:=by decide+kernel
def Ve(i:Ģ):Bool:=match i.zero with
 |some v=>qS 10 v
 |none=>θ
def atO:ϋ.types.all Ve=θ:=by decide+kernel
def QR:ϋ.follows .staticDataAhead=θ:=by decide+kernel
def L4:Vw Tw.dead where
 name:=by decide+kernel
 body:=rfl
 next:=by decide+kernel
 row:=by decide+kernel
 init:=by decide+kernel
def UR(P:Ϙ)(F:Array Func):∀(d:Nat) (t:ό),nT (tw P F) d t=nT P d t
 |0,_=>rfl
 |d+1,t=>by
  unfold nT;have e:nT (tw P F) d=nT P d:=funext λt=>UR P F d t
  rw[rI,pT,e]
def acE(P:Ϙ)(F:Array Func)(G:Nat->Bool):∀c:ϑ,cy (tw P F) G c=cy P G c:=by
 have e0:IU (tw P F)=IU P:=funext λt=>by unfold IU;rw[UR,Ow,GX]
 have e1:Fx (tw P F)=Fx P:=funext λt=>by unfold Fx;rw[pT]
 have e2:FG (tw P F)=FG P:=funext λs=>funext λd=>by unfold FG;rw[pT,pT,e1]
 have e3:IX (tw P F)=IX P:=funext λs=>funext λi=>by
  unfold IX;rw[pT]
  have:(tw P F).info? = P.info? :=funext λt=>rI P F t
  simp only[this]
 have e4:EA (tw P F)=EA P:=funext λt=>by
  unfold EA;rw[pT]
  have:nT (tw P F) 20=nT P 20:=funext λt=>UR P F _ t
  simp only[this]
 have e5:Kv (tw P F)=Kv P:=funext λt=>by
  unfold Kv;have:(tw P F).underlying=P.underlying:=funext λt=>pT P F t
  simp only[this]
 have e6:Bg (tw P F)=Bg P:=funext λts=>funext λn=>funext λb=>by unfold Bg;rw[e5]
 have e7:o5 (tw P F)=o5 P:=funext λo=>by unfold o5;rw[e0,e2,e3,e4,e6]
 have e8:qw (tw P F) G=qw P G:=funext λo=>by unfold qw;rw[e7]
 intro c;induction c with
 |region id ops d=>simp only[cy,e8]
 |seq a b Kb Kc=>simp only[cy,Kb,Kc]
 |cond c a b Kb Kc=>simp only[cy,Kb,Kc]
 |block n b ih=>simp only[cy,ih]
 |loop b ih=>simp only[cy,ih]
 |scope b ih=>simp only[cy,ih]
 |rangeFunc f ps a b Kb Kc=>simp only[cy,Kb,Kc]
 |_=>simp only[cy]
def okF(f:Nat):Bool:=decide (f<nF) && !Tw.An f
def self(P:Ϙ)(F:Array Func):Ϙ:={P with funcs:=F}
def UT(P:Ϙ)(F:Array Func):tw (self P F) F=tw P F:=rfl
def ab1(P:Ϙ)(F:Array Func):(self P F).funcs=F:=rfl
def ab0(P:Ϙ)(F:Array Func)(G:Nat->Bool)(c:ϑ):cy (self P F) G c=cy P G c:=by
 rw[<-acE (self P F) F G c,UT,acE]
def arp(P:Ϙ)(F:Array Func)(t:ό):(self P F).info? t= P.info? t:=by
 rw[<-rI (self P F) F t,UT,rI]
def US(P:Ϙ)(F:Array Func):(tw P F).follows .staticDataAhead=P.follows .staticDataAhead:=rfl
def zg:uE ϋ:=alW λt i v h hv=>by
 have hz:Ve i=θ:=by
  have:=atO;rw[Ě] at this;exact this i (Ļ h)
 unfold Ve at hz;rw[hv] at hz
 exact XN 10 hz
@[reducible] def pa:Tw.aJ:=⟨Tw.dead⟩
def qF:Array Ë:=#[⟨φ 1,.assign (.const (.bool θ)),4,"",#[],ν⟩,⟨ν,.extract (.const (.bool θ)) 0,4,"",#[],φ (0,θ)⟩,⟨φ 0,.assign (.const (.bool θ)),4,"",#[],ν⟩]
def stub:Func:={Tryz.f21 with body:=φ (.seq (.region 0 qF χ) .ret),ntmps:=1,results:=#[.tmp 0]}
@[reducible] def iz:Tw.aJ:=⟨stub⟩
section
variable [Tw.aJ]
def NF{f:Nat}(h:okF f=θ):∃fn c,ϋ.funcs[f]?=φ fn/\Tw.F[f]?=φ fn/\fn.body=φ c/\cy ϋ G0 c=θ/\(fn.name== "runtime.NumGoroutine")=χ/\readies c=[]:=by
 unfold okF at h;simp only[Ϫ,decide_eq_true_eq,Ajy] at h;have h1:=apd;rw[ģ] at h1;have h2:=h1 f (List.mem_range.2 h.1);unfold okB at h2;rw[h.2,Bool.false_or] at h2;cases e:ϋ.funcs[f]? with
 |none=>rw[e] at h2;exact absurd h2 (by simp)
 |some fn=>
  rw[e] at h2;simp only[WN] at h2;cases eb:fn.body with
  |none=>rw[eb] at h2;exact absurd h2 (by simp)
  |some c=>
   rw[eb] at h2;simp only[Ϫ,Ajy,List.isEmpty_iff] at h2;exact⟨fn,c,rfl,(Tw.Vz f h.2).trans e,eb,h2.1.1,h2.1.2,h2.2⟩
def adx:Tw.F.size=nF:=by
 unfold Tw.F;rw[ü,Array.size_mapIdx,few]
def Lj(f:Nat):okF f=θ\/f=21\/Tw.F[f]?=ν\/Tw.F[f]?=φ Tw.dead:=by
 by_cases h:okF f=θ
 ·exact .inl h
 by_cases yh:f=21
 ·exact .inr (.inl yh)
 right;right
 by_cases hn:f<nF
 ·have:Tw.An f=θ:=by
   unfold okF at h;simp only[Ϫ,decide_eq_true_eq,Ajy,not_and,Bool.not_eq_false] at h;exact h hn
  exact Tw.adw f this (Ne.symm yh)
 ·left;exact Ô (by rw[adx];omega)
def aa7(hs:∀c,Tw.aJ.N9.body=φ c->readies c=[])(g:Nat):Tw.prog.stepOf g=ν:=by
 unfold Program.stepOf;rw[Tw.TZ,Array.findIdx?_eq_none_iff]
 intro fn Jt;obtain⟨f,hf⟩:=Ajs Jt
 rcases Lj f with h|rfl|h|h
 ·obtain⟨fn',c,_,h1,h2,_,_,h3⟩:=NF h
  rw[hf] at h1;cases h1
  rw[h2];simp[h3]
 ·rw[Tw.E4] at hf;cases hf
  cases e:Tw.aJ.N9.body with
  |none=>rfl
  |some c=>simp[hs c e]
 ·rw[hf] at h;exact absurd h (by simp)
 ·rw[hf] at h;cases h;rfl
end
def C0:bS:=⟨okF,λ_=>χ,λc=>cy ϋ G0 c=θ⟩
def L7:Env ϋ (@Tw.F pa) C0 G0 where
 zg:=zg
 clean _:=Iff.rfl
 get f h:=by letI:=pa;obtain⟨fn,c,h1,h2,h3,h4,h5,_⟩:=NF h;exact⟨fn,c,h2,h1,h3,h4,h5⟩
 dead f h _:=by
  letI:=pa
  rcases Lj f with k|rfl|k|k
  ·rw[show okF f=χ from h] at k;exact absurd k (by simp)
  ·exact .inr ⟨_,Tw.E4,L4⟩
  ·exact .inl k
  ·exact .inr ⟨_,k,L4⟩
 JL f h:=absurd h (by simp[C0])
 ahead:=(US _ _).trans QR
 steps:=by letI:=pa;exact aa7 λc h=>absurd h (by show Tw.dead.body≠_;simp[Tw.dead])
def C1:bS:=⟨okF,λf=>f==21,λc=>cy ϋ G0 c=θ⟩
def CA:bS:=⟨λf=>okF f||f==21,λ_=>χ,λc=>cy ϋ G0 c=θ⟩
def PA:Ϙ:=self ϋ (@Tw.F iz)
def Ou:tw PA (@Tw.F iz)= @Tw.prog iz:=by unfold PA Tw.prog;exact UT _ _
def Ol:∃c,stub.body=φ c/\cy ϋ G0 c=θ/\readies c=[]:=⟨_,rfl,by decide+kernel,rfl⟩
def UD:(stub.name== "runtime.NumGoroutine")=χ:=by decide+kernel
def aq8:∃c,Tryz.f21.body=φ c:=⟨_,rfl⟩
def arb:(Tryz.f21.name== "runtime.NumGoroutine")=χ:=by decide+kernel
def stepT(g:Nat):(@Tw.prog iz).stepOf g=ν:=by
 letI:=iz
 refine aa7 (λc h=>?_) g
 obtain⟨c',h1,_,h2⟩:=Ol;have:stub.body=φ c:=h;rw[h1] at this;cases this;exact h2
def aho:Env ϋ (@Tw.F iz) C1 G0 where
 zg:=zg
 clean _:=Iff.rfl
 get f h:=by letI:=iz;obtain⟨fn,c,h1,h2,h3,h4,h5,_⟩:=NF h;exact⟨fn,c,h2,h1,h3,h4,h5⟩
 dead f h h':=by
  letI:=iz
  rcases Lj f with k|rfl|k|k
  ·rw[show okF f=χ from h] at k;exact absurd k (by simp)
  ·exact absurd h' (by decide)
  ·exact .inl k
  ·exact .inr ⟨_,k,L4⟩
 JL f h:=by
  have h:f=21:=by simpa [C1] using h
  subst h;obtain⟨c,h1,_⟩:=Ol;obtain⟨c',h2⟩:=aq8;exact⟨stub,_,c,c',@Tw.E4 iz,Tryz.func21,h1,h2,UD,arb⟩
 ahead:=(US _ _).trans QR
 steps:=stepT
def ahn:Env PA (@Tw.F iz) CA G0 where
 zg:=⟨λt i v h hv=>zg.zero t i v ((arp ϋ _ t).symm.trans h) hv⟩
 clean c:=by show cy ϋ G0 c=θ↔cy PA G0 c=θ;rw[show cy PA G0 c=cy ϋ G0 c from ab0 _ _ _ _]
 get f h:=by
  letI:=iz
  have hc:∀c,cy PA G0 c=cy ϋ G0 c:=λc=>ab0 _ _ _ _
  have h:okF f=θ\/f=21:=by simpa [CA] using h
  rcases h with h|rfl
  ·obtain⟨fn,c,h1,h2,h3,h4,h5,_⟩:=NF h;exact⟨fn,c,h2,(congrArg (·[f]?) (ab1 _ _)).trans h2,h3,by rw[hc];exact h4,h5⟩
  ·obtain⟨c,h1,h2,_⟩:=Ol
   exact⟨stub,c,Tw.E4,(congrArg (·[21]?) (ab1 _ _)).trans Tw.E4,h1,by rw[hc];exact h2,UD⟩
 dead f h _:=by
  letI:=iz
  rcases Lj f with k|rfl|k|k
  ·simp[CA,k] at h
  ·exact absurd h (by decide)
  ·exact .inl k
  ·exact .inr ⟨_,k,L4⟩
 JL f h:=absurd h (by simp[CA])
 ahead:=by rw[Ou];exact(US _ _).trans QR
 steps g:=by rw[Ou];exact stepT g
end Go.Jn
namespace Go.Jn
open Go Go.Proofs Go.Sim Go.Conc
def af1:C0.clean AO:=by show cy ϋ G0 AO=θ;decide+kernel
def af2:C0.clean zm:=by show cy ϋ G0 zm=θ;decide+kernel
def UP:tw ϋ (@Tw.F pa)= @Tw.prog pa:=rfl
def piece(S:Tl)(hc:C0.clean c){a:Act}(hk:(S.kind==.early)=χ)
 (hd:a.defers=[b6]){QL:Exit->Act->Ψ->Prop}
 (hl:∀T,c.wp (@Tw.prog pa) (λe bI aa=>(e=.normal/\bI.defers=[b6]\/e=.ret)/\QL e bI aa) a (bh w T))
 (hw:bX C0 ρ w w')(hg:ρ 0 0)(hf:Fits M ρ w)(oD:∀b,M.has b->b<w'.heap.size)(hn:bN w.heap)(ht:aV ρ a.tmps t')
 {Stop:ay->ϐ->Ψ->Prop}
 (post:∀e bI aa bT aI kh aC,QL e bI aa->oq M ρ w w' bT aI aa aC->bX C0 aI aa aC->Fits bT aI aa->(∀b,bT.has b->b<aC.heap.size)->(∀g,G0 g=θ->aI g g)->bN aa.heap->aV aI bI.tmps kh->
   (e=.normal->bI.defers=[b6]->Walk ϋ main Stop bT (aR ⟨f,kh,S.items,S.defers,.run,S.kind,ν⟩ S.callers) aC)/\
   (e=.ret->∀zh D',pW S aI θ bI.defers D'->Walk ϋ main Stop bT (aR ⟨f,kh,zh,D',.returning,S.kind,ν⟩ S.callers) aC)):
 Walk ϋ main Stop M (aR ⟨f,t',.code c::S.items,S.defers,.run,S.kind,ν⟩ S.callers) w':=by
 refine Walk.bind (atf L7 (λ_=>rfl) S hc hk hd (λT=>by rw[UP];exact hl T) hw (λg uQ=>?_) hf oD hn ht post) λ_ _ _ h=>h
 have:g=0:=by simpa [G0] using uQ
 subst this;exact hg
def aqC(h:w.heap[r]?=φ (.deferred (φ []))):(Instr.takeDeferred r).runT P w #[]=(.ok [] (pC w r (.deferred ν)),#[⟨.obj r,χ,χ⟩,⟨.obj r,θ,χ⟩]):=by
 unfold Instr.takeDeferred;simp only[Go.getObj,Go.setObj,bind,ϫ,Ϧ,h,pure,ŋ];rfl
def agM{o:Obj}(hO:M.O r)(ym:∀e∈es,e=⟨.obj r,χ,χ⟩\/e=⟨.obj r,θ,χ⟩):j4 M w (pC w r o) es:=
 ⟨by rw[xB];exact ϊ _,λb _ hb=>CG (by rintro rfl;exact hb hO),rfl,rfl,rfl,λe he=>by
   rcases ym e he with rfl|rfl
   ·exact .inl ⟨r,.inl rfl,rfl,.inl (.inl hO),λh=>absurd h (by simp)⟩
   ·exact .inl ⟨r,.inl rfl,rfl,.inl (.inl hO),λ_=>.inl hO⟩⟩
def atk{Stop:ay->ϐ->Ψ->Prop}{x:Array υ}(hO:M.O r)(hr:w.heap[r]?=φ (.deferred (φ [])))
 (h:∀aa,bQ M w aa->Walk P main Stop M (aR ⟨f,t,k,D,.returning,kd,ν⟩ cs) (pC aa r (.deferred ν))):
 Walk P main Stop M (aR ⟨f,t,k,⟨.collected r,x⟩::D,.returning,kd,ν⟩ cs) w:=by
 have aW:∀aa,bQ M w aa->Ϛ P main (aR ⟨f,t,k,⟨.collected r,x⟩::D,.returning,kd,ν⟩ cs) aa=.go (aR ⟨f,t,k,D,.returning,kd,ν⟩ cs) (pC aa r (.deferred ν)) (seen P f #[⟨.obj r,χ,χ⟩,⟨.obj r,θ,χ⟩]):=by
  intro aa hk;have e:Î P main ⟨f,t,k,⟨.collected r,x⟩::D,.returning,kd,ν⟩ cs ν aa=.go (aR ⟨f,t,k,D,.returning,kd,ν⟩ cs) (pC aa r (.deferred ν)) (seen P f #[⟨.obj r,χ,χ⟩,⟨.obj r,θ,χ⟩]):=by
   unfold Î;simp only[aqC ((hk.kept r (.inl hO)).trans hr),Þ,List.nil_append];simp
  exact e
 refine .step rfl (λaa=>(aR ⟨f,t,k,D,.returning,kd,ν⟩ cs,pC aa r (.deferred ν),seen P f #[⟨.obj r,χ,χ⟩,⟨.obj r,θ,χ⟩])) (λaa hk=>⟨aW aa hk,agM hO λe he=>?_⟩) λaa hk=>?_
 ·have:=Sim.mem_seen he
  simp only[à,ϥ,ϸ,or_false] at this;exact this
 ·show Walk P main Stop (M.grow aa (pC aa r (.deferred ν))) _ _
  rw[Mg];exact h aa hk
def chain:List ϑ->ϑ->ϑ
 | [],z=>z
 |c::cs,z=>.seq c (chain cs z)
def ky(P:Ϙ):List ϑ->(Exit->Act->Ψ->Prop)->Act->Ψ->Prop
 | [],Q=>Q .normal
 |c::cs,Q=>c.wp P (Exit.then (ky P cs Q) Q)
def aqx{z:ϑ}{Q:Exit->Act->Ψ->Prop}(hQ:∀e a w,Q e a w->e=.normal\/e=.ret)(b:ϝ)(k:List Item)(fs:List ϝ):
 ∀(cs:List ϑ) {a:Act} {w:Ψ},ky P cs Q a w->∃e bI aa,Q e bI aa/\
  (e=.normal/\Steps P (lone (b.at a (.code (chain cs z)::k)) fs w) (lone (b.at bI (.code z::k)) fs aa)\/
   e=.ret/\∃todo,Steps P (lone (b.at a (.code (chain cs z)::k)) fs w) (lone {b.at bI todo with mode:=.returning} fs aa)):=by
 intro cs;induction cs with
 |nil=>exactλ{a w} h=>⟨.normal,a,w,h,.inl ⟨rfl,⟨0,rfl⟩⟩⟩
 |cons c cs ih=>
  intro a w h;obtain⟨e,bI,aa,hq,F5⟩:=h b (.code (chain cs z)::k) fs;have aW:Steps P (lone (b.at a (.code (chain (c::cs) z)::k)) fs w) (lone (b.at a (.code c:: .code (chain cs z)::k)) fs w):=.one step_seq;cases e with
  |normal=>
   obtain⟨e2,a2,w2,Ag,h2⟩:=ih hq;refine⟨e2,a2,w2,Ag,?_⟩
   rcases h2 with⟨rfl,h2⟩ | ⟨rfl,todo,h2⟩
   ·exact .inl ⟨rfl,aW.trans (Steps.trans F5 h2)⟩
   ·exact .inr ⟨rfl,todo,aW.trans (Steps.trans F5 h2)⟩
  |ret=>
   obtain⟨todo,h2⟩:=F5;exact⟨.ret,bI,aa,hq,.inr ⟨rfl,todo,aW.trans h2⟩⟩
  |exit id=>rcases hQ _ _ _ hq with h|h<;>cases h
  |goto l=>rcases hQ _ _ _ hq with h|h<;>cases h
  |panic ch=>rcases hQ _ _ _ hq with h|h<;>cases h
  |outgrown=>rcases hQ _ _ _ hq with h|h<;>cases h
def Xp{C:bS}{S:Tl}:∀(cs:List ϑ),(∀c∈cs,C.clean c)->Cut C S (chain cs fl) (chain cs S.code)
 | [],_=>.stop
 |c::cs,h=>.seq (h c (by simp)) (Xp cs λd hd=>h d (by simp[hd]))
section
variable {P:Ϙ}{F:Array Func}{C:bS}{G:Nat->Bool}
def agH{c':ϑ}(h:Cut C S fl c'):c'=S.code:=by
 generalize e:fl=c at h;cases h with
 |stop=>rfl
 |seq _ _=>cases e
def amw(hcut:¬C.clean fl)(h:uC C S ρ θ [.code fl,.code fl] k'):k'=.code S.code::S.items:=by
 cases h with
 |cons hi t=>
  rw[aaA t];cases hi with
  |code _ hc=>exact absurd hc hcut
  |cut hc=>rw[agH hc]
def ate(E:Env P F C G)(hcut:¬C.clean fl)(hh:∀f,C.hole f=χ)(S:Tl){cs:List ϑ}(hc:∀c∈cs,C.clean c){a:Act}(hk:(S.kind==.early)=χ)
 (hd:a.defers=[b6]){QL:Exit->Act->Ψ->Prop}(hQ:∀e a w,QL e a w->e=.normal\/e=.ret)
 (hl:∀T,ky (tw P F) cs QL a (bh w T))
 (hw:bX C ρ w w')(hg:∀g,G g=θ->ρ g g)(hf:Fits M ρ w)(oD:∀b,M.has b->b<w'.heap.size)(hn:bN w.heap)(ht:aV ρ a.tmps t')
 {Stop:ay->ϐ->Ψ->Prop}
 (post:∀e bI aa bT aI kh aC D',QL e bI aa->oq M ρ w w' bT aI aa aC->bX C aI aa aC->Fits bT aI aa->(∀b,bT.has b->b<aC.heap.size)->(∀g,G g=θ->aI g g)->bN aa.heap->aV aI bI.tmps kh->pW S aI θ bI.defers D'->
   (e=.normal->Stop bT (aR ⟨f,kh,.code S.code::S.items,D',.run,S.kind,ν⟩ S.callers) aC)/\
   (e=.ret->∀zh,Stop bT (aR ⟨f,kh,zh,D',.returning,S.kind,ν⟩ S.callers) aC)):
 Walk P main Stop M (aR ⟨f,t',.code (chain cs S.code)::S.items,S.defers,.run,S.kind,ν⟩ S.callers) w':=by
 let b:ϝ:={ (default:ϝ) with fn:=f,kind:=.normal}
 let c:=chain cs fl
 let Q:ϐ->Ψ->Prop:=λg w=>∃T e bI todo m,QL e bI (bh w T)/\g=aR ⟨f,bI.tmps,todo,bI.defers,m,.normal,ν⟩ []/\
  (e=.normal/\todo=[.code fl,.code fl]/\m=.run\/e=.ret/\m=.returning)
 have bY:gT C S ρ θ (b.at a [.code c,.code fl]) ⟨f,t',.code (chain cs S.code)::S.items,S.defers,.run,S.kind,ν⟩:=
  .mk f ht (.cons (.cut (Xp cs hc)) .stop) (by rw[hd];exact .stop) .run .none ⟨λh=>by simp at h,λ_=>rfl,λh=>absurd rfl h,λh=>by simp at h,hk,λ_=>rfl⟩
 have gX:zu P (tw P F) C S ρ (aR (b.at a [.code c,.code fl]) []) (aR ⟨f,t',.code (chain cs S.code)::S.items,S.defers,.run,S.kind,ν⟩ S.callers):=.inside bY .base;have hi:Inv C S G (aR (b.at a [.code c,.code fl]) []) w:=⟨hn,ρ,θ,_,_,_,_,w',rfl,hg,bY,.base,hw⟩;have SH:Sim.Safe (tw P F) Q (aR (b.at a [.code c,.code fl]) []) w:=by
  refine Uh (S:=S) E hh ?_ ?_ hi ?_
  ·rintro g w T ⟨T',e,bI,todo,m,h1,h2,h3⟩
   exact⟨T',e,bI,todo,m,h1,h2,h3⟩
  ·rintro g w ⟨T',e,bI,todo,m,h1,rfl,h3⟩ ch
   rcases h3 with⟨_,_,rfl⟩ | ⟨_,rfl⟩<;>simp
  ·intro T
   obtain⟨e,bI,aa,h1,h3⟩:=aqx (z:=fl) hQ b [.code fl] [] cs (hl T);rcases h3 with⟨rfl,n,hr⟩ | ⟨rfl,todo,n,hr⟩
   ·exact⟨n,_,_,aa,hr,aa.tape,.normal,bI,[.code fl,.code fl],.run,h1,rfl,.inl ⟨rfl,rfl,rfl⟩⟩
   ·exact⟨n,_,_,aa,hr,aa.tape,.ret,bI,todo,.returning,h1,rfl,.inr ⟨rfl,rfl⟩⟩
 refine acW E main (abQ E hh SH hi) ⟨gX,hw,hg,hf,oD⟩ ?_
 intro bT aI fE aa ic aC hR bZ _ _ hq;obtain⟨gr,core,nU,fits,low⟩:=hR;cases gr with
 |hole f hf=>rw[hh] at hf;simp at hf
 |inside BI I9=>
  obtain⟨⟨T,e,bI,todo,m,h1,h2,h3⟩,sa⟩:=hq.resolve_right λh=>h ⟨_,_,_,_,_,rfl,rfl,BI,I9⟩
  have e1:=congrArg Goroutine.frame h2;have e2:=congrArg Aj7 h2;simp only at e1 e2;subst e1 e2;obtain⟨rfl,rfl⟩:=P6 I9;have QA:bX C aI (bh aa T) aC:=core.left rfl;cases BI with
  |mk _ Ei mS ql yy Ah oY=>
   cases Ah;have Ul:oq M ρ w w' bT aI (bh aa T) aC:=⟨bZ.le,bZ.new,bZ.ta,bZ.ng,bZ.qR,bZ.oJ,bZ.R,bZ.O,bZ.On,bZ.tape,bZ.os,bZ.e⟩;have xe:=oY.ID rfl;subst xe;have:=post e bI (bh aa T) bT aI _ aC _ h1 Ul QA fits low nU sa Ei ql;rcases h3 with⟨rfl,rfl,rfl⟩ | ⟨rfl,rfl⟩
   ·rw[amw hcut mS]
    exact this.1 rfl
   ·exact this.2 rfl _
end
def agG:¬C0.clean fl:=by
 intro h;have h:cy ϋ G0 fl=θ:=h;exact absurd h (by decide)
def pieces(S:Tl){cs:List ϑ}(hc:∀c∈cs,C0.clean c){a:Act}(hk:(S.kind==.early)=χ)
 (hd:a.defers=[b6]){QL:Exit->Act->Ψ->Prop}(hQ:∀e a w,QL e a w->e=.normal\/e=.ret)
 (hl:∀T,ky (@Tw.prog pa) cs QL a (bh w T))
 (hw:bX C0 ρ w w')(hg:ρ 0 0)(hf:Fits M ρ w)(oD:∀b,M.has b->b<w'.heap.size)(hn:bN w.heap)(ht:aV ρ a.tmps t')
 {Stop:ay->ϐ->Ψ->Prop}
 (post:∀e bI aa bT aI kh aC D',QL e bI aa->oq M ρ w w' bT aI aa aC->bX C0 aI aa aC->Fits bT aI aa->(∀b,bT.has b->b<aC.heap.size)->aI 0 0->bN aa.heap->aV aI bI.tmps kh->pW S aI θ bI.defers D'->
   (e=.normal->Walk ϋ main Stop bT (aR ⟨f,kh,.code S.code::S.items,D',.run,S.kind,ν⟩ S.callers) aC)/\
   (e=.ret->∀zh,Walk ϋ main Stop bT (aR ⟨f,kh,zh,D',.returning,S.kind,ν⟩ S.callers) aC)):
 Walk ϋ main Stop M (aR ⟨f,t',.code (chain cs S.code)::S.items,S.defers,.run,S.kind,ν⟩ S.callers) w':=by
 refine Walk.bind (ate L7 agG (λ_=>rfl) S hc hk hd hQ (λT=>by rw[UP];exact hl T) hw (λg uQ=>?_) hf oD hn ht λe bI aa bT aI kh aC D' h1 h2 h3 h4 h5 h6 h7 h8 h9=>post e bI aa bT aI kh aC D' h1 h2 h3 h4 h5 (h6 0 rfl) h7 h8 h9) λ_ _ _ h=>h
 have:g=0:=by simpa [G0] using uQ
 subst this;exact hg
end Go.Jn
namespace Go.Jn
open Go Go.Sim Go.Tw
def Pv(S:Nat->Prop):υ->Prop
 | .bool _| .int _ _| .string _| .pointer ν| .slice ν _ _| .map ν| .chan ν| .nilFunc| .nilIface=>True
 | .pointer (φ a)=>S a.block
 | .slice (φ a) n c=>S a.block\/(n=0/\c=0)
 | .func (.func _) x y=>x=#[]/\y=#[]
 |_=>False
def Cr(ρ:Ren)(S:Nat->Prop):Ren:=λa b=>ρ a b/\S a
def Pv.rel{S:Nat->Prop}(h:ah ρ v v')(hp:Pv S v):ah (Cr ρ S) v v':=by
 cases h;case bool b=>exact .bool b
 case int k n=>exact .int k n
 case string s=>exact .string s
 case ptrNone=>exact .ptrNone
 case ptr ha=>exact .ptr ⟨⟨ha.1,hp⟩,ha.2⟩
 case sliceNone n c=>exact .sliceNone n c
 case slice n c ha=>
  rcases hp with hp| ⟨rfl,rfl⟩
  ·exact .slice n c ⟨⟨ha.1,hp⟩,ha.2⟩
  ·exact .sliceDead _ _
 case sliceDead=>exact .sliceDead _ _
 case mapNone=>exact .mapNone
 case map=>exact hp.elim
 case chanNone=>exact .chanNone
 case chan=>exact hp.elim
 case func hf hx h1 hy h2=>
  cases hf with
  |func f=>
   obtain⟨rfl,rfl⟩:=hp;exact .func (.func f) hx (λi hi _=>absurd hi (by simp)) hy (λi hi _=>absurd hi (by simp))
  |yield=>exact hp.elim
 case nilFunc=>exact .nilFunc
 case iface=>exact hp.elim
 case nilIface=>exact .nilIface
 case agg=>exact hp.elim
 case tuple=>exact hp.elim
 case junk=>exact hp.elim
 case fjunk=>exact hp.elim
def ye(σ:Ren):∀v':υ,∃u,ah σ u v'
 | .bool b=>⟨_,.bool b⟩
 | .int k n=>⟨_,.int k n⟩
 | .float k n=>⟨_,.junk rfl (by simp) (by simp)⟩
 | .complex k n m=>⟨_,.junk rfl (by simp) (by simp)⟩
 | .string s=>⟨_,.string s⟩
 | .pointer ν=>⟨_,.ptrNone⟩
 | .pointer (φ a)=>⟨_,.junk rfl (by simp) (by simp)⟩
 | .slice ν n c=>⟨_,.sliceNone n c⟩
 | .slice (φ a) n c=>⟨_,.junk rfl (by simp) (by simp)⟩
 | .map ν=>⟨_,.mapNone⟩
 | .map (φ a)=>⟨_,.junk rfl (by simp) (by simp)⟩
 | .chan ν=>⟨_,.chanNone⟩
 | .chan (φ a)=>⟨_,.junk rfl (by simp) (by simp)⟩
 | .func f x y=>⟨_,.fjunk f x y⟩
 | .nilFunc=>⟨_,.nilFunc⟩
 | .iface t v=>⟨_,.junk rfl (by simp) (by simp)⟩
 | .nilIface=>⟨_,.nilIface⟩
 | .tuple x=>⟨_,.junk rfl (by simp) (by simp)⟩
 | .agg x=>by
   have ih:∀i (h:i<x.size),∃u,ah σ u x[i]:=λi h=>ye σ x[i]
   refine⟨.agg (Ajv λi:Fin x.size=>ã (ih i.1 i.2)),.agg (by simp) λi h1 h2=>?_⟩
   rw[Ajw];exact É (ih i h2)
def uH(S:Nat->Prop)(h:ah ρ v v'):∃u,ah (Cr ρ S) u v'/\(Pv S v->u=v):=by
 by_cases hp:Pv S v
 ·exact⟨v,Pv.rel h hp,λ_=>rfl⟩
 ·obtain⟨u,hu⟩:=ye (Cr ρ S) v'
  exact⟨u,hu,λh=>absurd h hp⟩
def agF(S:Nat->Prop){c c':Array υ}(h:aV ρ c c'):∃u:Array υ,aV (Cr ρ S) u c'/\u.size=c.size/\∀(i:Nat) (v:υ),c[i]?=φ v->Pv S v->u[i]?=φ v:=by
 have key:∀i (h1:i<c.size),∃u,(∀h2:i<c'.size,ah (Cr ρ S) u c'[i])/\(Pv S c[i]->u=c[i]):=λi h1=>by
  obtain⟨u,a,b⟩:=uH S (h.2 i h1 (h.1▸h1));exact⟨u,λ_=>a,b⟩
 refine⟨Ajv λi:Fin c.size=>ã (key i.1 i.2),⟨by simp[h.1],λi h1 h2=>?_⟩,by simp,λi v hi hp=>?_⟩
 ·rw[Ajw]
  exact(É (key i (by simpa using h1))).1 h2
 ·obtain⟨aj,e⟩:=Ϝ.1 hi
  rw[Ajx,dif_pos aj]
  exact congrArg φ (((É (key i aj)).2 (by rw[e];exact hp)).trans e)
section
variable (ρ:Ren)(w w':Ψ)
def nD(a:Nat):Prop:=∃b c c' e fr ba,ρ a b/\w.heap[a]?=φ (.cells c e fr)/\w'.heap[b]?=φ (.cells c' e ba)/\aV ρ c c'
def Pg(a:Nat)(o:Obj):Prop:=∃(b:Nat) (c c':Array υ) (e:ό) (fr ba:Nat×Nat) (u:Array υ),ρ a b/\w.heap[a]?=φ (.cells c e fr)/\w'.heap[b]?=φ (.cells c' e ba)/\aV (Cr ρ (nD ρ w w')) u c'/\u.size=c.size/\(∀(i:Nat) (v:υ),c[i]?=φ v->Pv (nD ρ w w') v->u[i]?=φ v)/\o=.cells u e (0,u.size)
def aiD(h:nD ρ w w' a):∃o,Pg ρ w w' a o:=by
 obtain⟨b,c,c',e,fr,ba,h1,h2,h3,h4⟩:=h;obtain⟨u,k1,k2,k3⟩:=agF (nD ρ w w') h4;exact⟨_,b,c,c',e,fr,ba,u,h1,h2,h3,k1,k2,k3,rfl⟩
open Classical in
def Md(a:Nat):Obj:=if h:∃o,Pg ρ w w' a o then ã h else .cells #[] 0 (0,0)
def wU:Ψ:={w with heap:=w.heap.mapIdx λa _=>Md ρ w w' a}
end
section
variable {ρ:Ren}{w w':Ψ}
def X4:(wU ρ w w').heap.size=w.heap.size:=by simp[wU]
def QV(h:nD ρ w w' a):∃o,(wU ρ w w').heap[a]?=φ o/\Pg ρ w w' a o:=by
 have hx:=aiD ρ w w' h;obtain⟨b,c,c',e,fr,ba,h1,h2,h3,h4⟩:=h;refine⟨Md ρ w w' a,?_,?_⟩
 ·unfold wU
  simp only[Aeo,h2,ç]
 ·unfold Md
  rw[dif_pos hx];exact É hx
def aiG(h:bX C ρ w w'):bX C (Cr ρ (nD ρ w w')) (wU ρ w w') w' where
 fx a b hab:=by rw[X4];exact h.fx a b hab.1
 du a b hab:=h.du a b hab.1
 fn a b b' x y:=h.fn a b b' x.1 y.1
 inj a a' b x y:=h.inj a a' b x.1 y.1
 obj a b o hab ho:=by
  obtain⟨o1,k1,b1,c,c',e,fr,ba,u,h1,h2,h3,h4,h5,h6,rfl⟩:=QV hab.2;rw[k1] at ho;cases ho;rw[h.fn a b b1 hab.1 h1];exact⟨_,h3,.cells e h4 (.inr ⟨rfl,ϊ _⟩)⟩
def aiH:bN (wU ρ w w').heap:=by
 intro o ho hb;obtain⟨a,ha⟩:=Ajs ho
 unfold wU at ha;simp only[Aeo] at ha
 obtain⟨o1,_,rfl⟩:=Ă.1 ha;unfold Md at hb;split at hb
 ·rename_i hx
  obtain⟨b1,c,c',e,fr,ba,u,_,_,_,_,_,_,e2⟩:=É hx;rw[e2] at hb;exact hb
 ·exact hb
def aiF{a:ϖ}(ha:nD ρ w w' a.block)(h: w.cell? a=φ v)(hp:Pv (nD ρ w w') v):(wU ρ w w').cell? a=φ v:=by
 obtain⟨o1,k1,b1,c,c',e,fr,ba,u,h1,h2,h3,h4,h5,h6,rfl⟩:=QV ha;unfold World.cell? at h |-
 rw[h2] at h;rw[k1];simp only at h |-
 split at h
 ·cases h
 ·rename_i hs
  rw[if_neg hs];exact h6 _ _ h hp
def abE(h:bX C ρ w w'){p:ϖ}(hc: w.cell? p=φ u){b:Nat}(hr:ρ p.block b):nD ρ w w' p.block:=by
 unfold World.cell? at hc;split at hc
 ·rename_i c e fr ho
  obtain⟨o',h1,h2⟩:=h.obj _ _ _ hr ho;cases h2 with
  |cells e hv hf=>exact⟨b,c,_,e,fr,_,hr,ho,h1,hv⟩
 ·cases hc
def abD{p:ϖ}(hr:nD ρ w w' p.block)(hc: w.cell? p=φ u):∃u',ah ρ u u':=by
 obtain⟨b,c,c',e,fr,ba,h1,h2,h3,h4⟩:=hr;unfold World.cell? at hc;rw[h2] at hc;simp only at hc;split at hc
 ·cases hc
 ·obtain⟨aj,e⟩:=Ϝ.1 hc
  exact⟨_,by rw[<-e];exact h4.2 _ aj (h4.1▸aj)⟩
end
def Sv(S:Nat->Prop)(v:υ):Prop:=∀A n c,v=ζ (φ A) n c->n=0->S A.block\/c=0
section
variable {α:Type}{ρ:Ren}{w w':Ψ}{B sz:Nat}{R R':α->List υ->Prop}{v:υ}{xs:List α}
def KN(hW:bX C ρ w w')(aL:0<sz)(h:Row w B sz R v xs)(hv:∃v',ah ρ v v')(he:Sv (nD ρ w w') v):Pv (nD ρ w w') v:=by
 obtain⟨A,c,rfl,h1,h2,h3⟩:=h;cases A with
 |none=>exact trivial
 |some A=>
  by_cases hx:xs=[]
  ·subst hx;exact(he A _ c rfl rfl).imp id λh=>⟨rfl,h⟩
  ·obtain⟨ad,e,hb,h4⟩:=h3 hx
   cases e;cases xs with
   |nil=>exact absurd rfl hx
   |cons x xs=>
    obtain⟨cs,_,hl,hc⟩:=h4 0 x rfl;obtain⟨u,hu⟩:∃u,cs[0]?=φ u:=⟨cs[0]'(by omega),Ä _⟩
    have:=hc 0 u hu;obtain⟨v',hv⟩:=hv;cases hv with
    |slice _ _ ha=>
     have e:(A.add (0 * sz+0)).block=A.block:=cq _ _;have:=abE hW this (b:=_) (by rw[e];exact ha.1)
     rw[e] at this;exact .inl this
def I5(aL:0<sz)(h:Row w B sz R v xs)(hv:Pv (nD ρ w w') v)(hR:∀x cs,R x cs->(∀u∈cs,∃p:ϖ,nD ρ w w' p.block/\ w.cell? p=φ u)->R' x cs/\∀u∈cs,Pv (nD ρ w w') u):Row (wU ρ w w') B sz R' v xs:=by
 obtain⟨A,c,e,h1,h2,h3⟩:=h;refine⟨A,c,e,h1,h2,λhx=>?_⟩
 obtain⟨ad,hA,hb,h4⟩:=h3 hx;have hs:nD ρ w w' ad.block:=by
  rw[e,hA] at hv;rcases hv with hv| ⟨h0,_⟩
  ·exact hv
  ·exact absurd (List.length_eq_zero_iff.1 h0) hx
 refine⟨ad,hA,hb,λi x hi=>?_⟩
 obtain⟨cs,r,hl,aq⟩:=h4 i x hi;have:=hR x cs r λu hu=>by
  obtain⟨j,hj⟩:=List.getElem?_of_mem hu
  exact⟨_,by rw[cq];exact hs,aq j u hj⟩
 refine⟨cs,this.1,hl,λj u hu=>?_⟩
 exact aiF (by rw[cq];exact hs) (aq j u hu) (this.2 u (ϡ hu))
end
structure Lh(S:Nat->Prop)(w:Ψ)(B:Nat)(b:an)(pv bv tv:υ):Prop where
 pieces:Row w B 4 Piece.R pv b.pieces
 aF:Row w B 3 (λx cs=>aP.R w B x cs/\∀u∈cs,Sv S u) bv b.aF
 aM:Row w B 3 (λx cs=>Tw.Tape.R w B x cs/\∀u∈cs,Sv S u) tv b.aM
 sp:Sv S pv
 sb:Sv S bv
 st:Sv S tv
def aiE(hW:bX C ρ w w')(h:Lh (nD ρ w w') w B b pv bv tv)(h1:∃v',ah ρ pv v')(h2:∃v',ah ρ bv v')(h3:∃v',ah ρ tv v'):
 bq (wU ρ w w') B b pv bv tv/\Pv (nD ρ w w') pv/\Pv (nD ρ w w') bv/\Pv (nD ρ w w') tv:=by
 have p1:=KN hW (by omega) h.pieces h1 h.sp
 have p2:=KN hW (by omega) h.aF h2 h.sb
 have p3:=KN hW (by omega) h.aM h3 h.st
 refine⟨⟨I5 (by omega) h.pieces p1 λx cs r _=>⟨r,λu hu=>?_⟩,I5 (by omega) h.aF p2 λx cs r hc=>?_,I5 (by omega) h.aM p3 λx cs r hc=>?_⟩,p1,p2,p3⟩
 ·obtain⟨rfl,_⟩:=r
  simp only[ϥ,ϸ,or_false] at hu;rcases hu with rfl|rfl|rfl|rfl<;>exact trivial
 ·obtain⟨⟨kv,rfl,k1,k2⟩,k3⟩:=r
  have hp:Pv (nD ρ w w') kv:=KN hW (by omega) k2 (by obtain⟨p,hp,hu⟩:=hc kv (by simp);exact abD hp hu) (k3 kv (by simp))
  refine⟨⟨kv,rfl,k1,I5 (by omega) k2 hp λx cs r _=>⟨r,λu hu=>?_⟩⟩,λu hu=>?_⟩
  ·rw[show cs=_ from r] at hu
   simp only[ϥ,ϸ,or_false] at hu;rcases hu with rfl|rfl<;>exact trivial
  ·simp only[ϥ,ϸ,or_false] at hu
   rcases hu with rfl|rfl|rfl
   ·exact trivial
   ·exact trivial
   ·exact hp
 ·obtain⟨⟨kv,rfl,k2⟩,k3⟩:=r
  have hp:Pv (nD ρ w w') kv:=KN hW (by omega) k2 (by obtain⟨p,hp,hu⟩:=hc kv (by simp);exact abD hp hu) (k3 kv (by simp))
  refine⟨⟨kv,rfl,I5 (by omega) k2 hp λx cs r _=>⟨r,λu hu=>?_⟩⟩,λu hu=>?_⟩
  ·rw[show cs=_ from r] at hu
   simp only[ϥ,ϸ,or_false] at hu;rcases hu with rfl;exact trivial
  ·simp only[ϥ,ϸ,or_false] at hu
   rcases hu with rfl|rfl|rfl
   ·exact hp
   ·exact trivial
   ·exact trivial
end Go.Jn
namespace Go.Tw
variable [Go.Tw.aJ]
open Go Go.Proofs Go.RowKit
def al2{g k x:Nat}(g0: w.cell? ⟨g,0,ν⟩=φ (ξ κ x))(h0:g<w.heap.size):
 Calls prog 123 (#[ξ κ k]++#[π (φ ⟨g,0,ν⟩)]) w λe w'=>e=Ω (.bool (decide (k=x)))/\Below w.heap.size w w':=by
 go_enter func123,Tryz.ntmps123;go_wp2;refine bodyPost_ret (v:=.bool (decide (k=x))) (by
  have he:((k:Int)==(x:Int))=decide (k=x):=by rw[Bool.eq_iff_iff];simp;omega
  simp[results,Tryz.results123,go_sem,he]) rfl ⟨rfl,Below.refl _ _⟩
end Go.Tw
namespace Go.Jn
open Go Go.Proofs Go.Sim Go.Conc Go.Tw Go.RowKit
attribute [local go_sem] EY EX Oper.semAt_some
def then_self(Q:Exit->Act->Ψ->Prop):Exit.then (Q .normal) Q=Q:=by
 funext e a w;cases e<;>rfl
section
variable [Go.Tw.aJ]
def Lx(b:an)(i:Nat)(v0 v1 v2 v3:υ)(e:Exit)(a:Act)(w:Ψ):Prop:=
 (∃r x,a.defers=[⟨.collected r,x⟩,b6]/\w.heap[r]?=φ (.deferred (φ [])))/\a.tmps.size=18/\a.tmps[0]?=φ v0/\a.tmps[1]?=φ v1/\a.tmps[2]?=φ v2/\a.tmps[3]?=φ v3/\
   ((search b (cw (aH b)) (λk=>decide (k=i)) b.pieces.length []=ν/\e=.normal)\/((search b (cw (aH b)) (λk=>decide (k=i)) b.pieces.length []).isSome=θ/\e=.ret))
def middle{v3 v6:υ}(hB:B<=w.heap.size)(ai:bq w B b pv bv tv)(h:cG b 0=0)
 (c0: w.cell? ⟨bk,0,ν⟩=φ (ξ κ b.ab))(c1: w.cell? ⟨bk,1,ν⟩=φ pv)(c2: w.cell? ⟨bk,2,ν⟩=φ bv)(c3: w.cell? ⟨bk,3,ν⟩=φ tv)(hk: w.cell? ⟨pk,0,ν⟩=φ (ξ κ i))
 (ag:bk<w.heap.size)(fU:pk<w.heap.size):
 ky prog [AO,zm] (Lx b i v0 (π (φ ⟨bk,0,ν⟩)) (π (φ ⟨pk,0,ν⟩)) v3) ⟨#[v0,π (φ ⟨bk,0,ν⟩),π (φ ⟨pk,0,ν⟩),v3,ω,ω,v6,ω,ω,ω,ω,ω,ω,ω,ω,ω,ω,ω],[b6]⟩ w:=by
 have aE:=ψ (Up hB ai h);have bV:=ψ ai;have hv:=ψ (oc (vU h).1);obtain⟨A1,n1,k1,rfl,-⟩:=ai.pieces.Φ;obtain⟨A2,n2,k2,rfl,-⟩:=ai.aF.Φ;obtain⟨A3,n3,k3,rfl,-⟩:=ai.aM.Φ;clear ai h;have HK:=ψ hk;clear hk;unfold ky ky ky;rw[then_self];refine(wpIn_wide (n:=0)).1 ?_
 refine wpIn_mono (Q:=Exit.then (zm.wpIn Fence.wide 0 prog (Lx b i v0 (π (φ ⟨bk,0,ν⟩)) (π (φ ⟨pk,0,ν⟩)) v3)) (Lx b i v0 (π (φ ⟨bk,0,ν⟩)) (π (φ ⟨pk,0,ν⟩)) v3)) ?_ (λe a w h=>by cases e<;>first|exact wpIn_wide.1 h|exact h)
 simp only[AO,zm,IG,Tryz.f120,aT,aG,ϭ]
 gi_wp2_with (first
  | (gi_at_call 119;refine(callsIn_wide.2 aE.e).mono ?_;rintro e w1 ⟨sv,g,rfl,aK,cM,hg,ag⟩
     obtain⟨A9,m9,c9,rfl⟩:=qx aK;have aS:w.heap.size<=w1.heap.size:=ag.size;have El:w.heap.size<w1.heap.size+1:=by omega
     have FR:=ψ (And.intro aK (And.intro cM (And.intro hg ag)));have tH:g<w1.heap.size:=cM.lt;have kX:Row (w1.alloc (Ξ #[ξ κ b.ab,.slice A1 n1 k1,.slice A2 n2 k2,.slice A3 n3 k3,.slice A9 m9 c9,.map (φ g)] 151)) w1.heap.size 3 al.R (.slice A9 m9 c9) (aH b):=aK.row.still ((Δ.refl w1).alloc (ϊ _) _) λ_ _ h=>h
     clear ag aK cM hg)
  | (gi_at_call 122;refine(callsIn_wide.2 (QD (B:=w1.heap.size) (ps:=aH b) kX (by simp) ⟨_,_,_,rfl⟩ ⟨_,_,_,rfl⟩ ⟨_,_,_,rfl⟩)).mono ?_;rintro e w2 ⟨gn,rfl,q0,q1,q2,BM,ak⟩))
 clear kX;have bu:w1.heap.size+1<=w2.heap.size:=by have:=ak.size;simpa using this
 have yp:w1.grownBy w2 (φ g):=(ϯ w1 _ _).trans (py ak (ϊ _) _);have MF:w.grownBy w2 ν:=(py FR.e.2.2.2 (ϊ _) _).trans ((ϯ w1 _ _).trans (py ak (ϊ _) _));have MJ:fI w2 g b:=FR.e.2.1.grown (row:=ν) ((ϯ w1 _ _).trans (py ak (ϊ _) _)) (by simp)
 have Q5:B<=g:=ϣ hB FR.e.2.2.1;have ala:Δ B w w2:=λp hp=>ŷ (MF.block p.block (by omega) (by simp))
 have akV: w2.cell? ⟨pk,0,ν⟩=φ (ξ κ i):=(ŷ (MF.block pk (by omega) (by simp))).trans HK.e
 have hX0:=Uk (Wa:=w1.alloc (Ξ #[ξ κ b.ab,.slice A1 n1 k1,.slice A2 n2 k2,.slice A3 n3 k3,.slice A9 m9 c9,.map (φ g)] 151)) (w2:=w2) (KO:=123) (pP:=#[π (φ ⟨pk,0,ν⟩)]) (out:=λk=>decide (k=i)) (B:=B) (bV.e.still ala) hv.e (Bb hv.e) ⟨_,_,_,rfl⟩ Q5 (by simp;omega) q0 q1 q2 BM call123
  (λk W hk gX=>al2 ((ŷ (gX.block pk (by have:=FR.e.2.2.2.size;omega) (by simp;have:=FR.e.2.2.1;omega))).trans akV) (by have:=gX.size;omega))
 refine T7 (gf:=174) (pre:=#[]) (lb:=#[π (φ ⟨w1.heap.size+1,0,ν⟩),π (φ ⟨w1.heap.size+1+1,0,ν⟩),π (φ ⟨gn,0,ν⟩)]) (by simp[Act.eval]) call174 λfn rc nX=>?_
 have Gg:=((hX0.alloc (by show B<=w2.heap.size;omega) (.deferred (φ []))).alloc (by simp[GP];omega) (.loop rc)).Wr (w2.heap.size+1)
 obtain⟨W1,fJ⟩:∃W1,W1=(w2.alloc (Obj.deferred (φ []))).alloc (Obj.loop rc):=⟨_,rfl⟩
 obtain⟨X,hX⟩:∃X:cS,X={GP w2 b (.slice A1 n1 k1) (.slice A2 n2 k2) (.slice A3 n3 k3) (.slice A9 m9 c9) (aH b) (w1.heap.size+1) gn g 123 #[π (φ ⟨pk,0,ν⟩)] (λk=>decide (k=i)) with w:=W1,l:=w2.heap.size+1}:=⟨_,rfl⟩
 have cE:X.Ok B:=by rw[hX,fJ];simpa [GP] using Gg
 have xw:X.w=W1:=by rw[hX]
 have xl:X.l=w2.heap.size+1:=by rw[hX]
 have xb:X.b=b:=by rw[hX];rfl
 have xg:X.gm=g:=by rw[hX];rfl
 have dn:W1.heap.size=w2.heap.size+2:=by rw[fJ];simp
 have xs:X.s=w2.heap.size+2:=by unfold cS.s;rw[xw,dn]
 have D1:W1.heap[w2.heap.size+1]?=φ (.loop rc):=by rw[fJ];exact Bd (by simp)
 have ql:W1.heap[w2.heap.size]?=φ (.deferred (φ [])):=by rw[fJ];exact sG (Bd (by simp))
 have mS:fI X.w X.gm X.b:=by
  rw[xw,xg,xb,fJ];exact MJ.grown (row:=ν) ((ϯ _ _ _).trans (ϯ _ _ _)) (by simp)
 have hgg:g<w2.heap.size:=MJ.lt;have xn:X.n=cw (aH b):=by rw[hX];rfl
 have xo:X.e=λk=>decide (k=i):=by rw[hX];rfl
 have xp:X.np=b.pieces.length:=by unfold cS.np;rw[xb]
 have xgs:X.gs=w1.heap.size+1:=by rw[hX];rfl
 have xgo:X.go=w1.heap.size+1+1:=by rw[hX];rfl
 have xgn:X.gn=gn:=by rw[hX];rfl
 rw[<-fJ];clear hX fJ;have hZ:Fi X (λ_ W=>W.heap[w2.heap.size]?=φ (.deferred (φ []))/\W.heap[w2.heap.size+1]?=φ (.loop {rc with state:=.done,pending:=φ .ret})/\∃i,Bk W (X.s+2) 27 #[ζ (φ ⟨X.s+1,0,ν⟩) i X.np]):=by
  refine⟨λfull W hz=>hz.2.2,λfull W i hz=>?_,λm full W hlen hD=>?_⟩
  ·obtain⟨z1,z2,j,z3⟩:=hz
   exact⟨(Below.heap_setCell _ _ _ _ (by simp;omega)).trans z1,(Below.heap_setCell _ _ _ _ (by simp;omega)).trans z2,i,z3.set 0 _⟩
  ·have gX:=hD.gr
   rw[xw,xg] at gX;have uS:W.heap[w2.heap.size+1]?=φ (.loop rc):=(gX.block _ (by omega) (by simp;omega)).trans D1
   have mJ:W.heap[w2.heap.size]?=φ (.deferred (φ [])):=(gX.block _ (by omega) (by simp;omega)).trans ql
   have uT:=hD.lv;rw[xs,xp] at uT;have aL:=gX.size;rw[xl];refine Vc (n:=0) nX uS rfl ?_
   gi_wp2
   refine⟨_,Qf nX uS,?_⟩
   gi_wp2
   have Gb:(W.putObj (w2.heap.size+1) (.loop {rc with state:=.busy})).heap[w2.heap.size+1]?=φ (.loop {rc with state:=.busy}):=Ň (by omega)
   refine⟨_,_,Xv .ret Gb,rfl,?_,Ň (by simp;omega),full.length,?_⟩
   ·exact(À (by omega)).trans ((À (by omega)).trans mJ)
   ·exact(À (by omega)).trans ((À (by omega)).trans uT)
 have call:=Xq cE (by rw[xs];omega) hZ mS
 rw[xl,xgs,xgo,xgn,xw,xn,xo,xb,xp] at call;refine(callsIn_wide.2 call).mono ?_
 rintro e W2 ⟨⟨v,rfl⟩,(⟨full,Ak,aS,bu,_⟩ | ⟨Ak,hD⟩)⟩
 ·refine⟨φ .ret,_,Xz bu,?_⟩
  gi_wp2
  refine⟨⟨w2.heap.size,_,rfl,(À (by omega)).trans aS⟩,rfl,rfl,rfl,rfl,rfl,.inr ⟨by rw[Ak];rfl,rfl⟩⟩
 ·have gX:=hD.gr
  rw[xw,xg] at gX;have uS:W2.heap[w2.heap.size+1]?=φ (.loop rc):=(gX.block _ (by omega) (by simp;omega)).trans D1
  have mJ:W2.heap[w2.heap.size]?=φ (.deferred (φ [])):=(gX.block _ (by omega) (by simp;omega)).trans ql
  refine⟨ν,_,QI nX uS,?_⟩
  exact⟨⟨w2.heap.size,_,rfl,(À (by omega)).trans mJ⟩,rfl,rfl,rfl,rfl,rfl,.inl ⟨Ak,rfl⟩⟩
end
end Go.Jn
namespace Go.Jn
open Go Go.Proofs Go.Sim Go.Conc Go.Tw
def ap9(hW:bX C ρ w w'){b o:Nat}(hab:ρ a b)(h:ah ρ (π (φ ⟨a,o,ν⟩)) v'):v'=π (φ ⟨b,o,ν⟩):=by
 cases h with
 |ptr ha=>
  rename_i q;obtain⟨q1,q2,q3⟩:=q;obtain⟨h1,h2,h3⟩:=ha;simp only at h1 h2 h3;subst h2 h3;rw[hW.fn _ _ _ h1 hab]
def NU(h:aV ρ t t')(hi:t[i]?=φ v):∃v',t'[i]?=φ v'/\ah ρ v v':=by
 rcases h.get? i with⟨h1,_⟩ | ⟨a,b,h1,h2,h3⟩
 ·rw[h1] at hi;cases hi
 ·rw[h1] at hi;cases hi;exact⟨b,h2,h3⟩
def Uu(hW:bX C ρ w w')(h:aV ρ t t'){b o:Nat}(hab:ρ a b)(hi:t[i]?=φ (π (φ ⟨a,o,ν⟩))):t'[i]?=φ (π (φ ⟨b,o,ν⟩)):=by
 obtain⟨v',h1,h2⟩:=NU h hi;rw[h1,ap9 hW hab h2]
def ap8{M:Sim.ay}(hW:bX C ρ w w')(hf:Fits M ρ w){r':Nat}(hr:ρ r r')(h:w.heap[r]?=φ (.deferred (φ []))):M.O r'/\w'.heap[r']?=φ (.deferred (φ [])):=by
 obtain⟨o',h1,h2⟩:=hW.obj _ _ _ hr h;cases h2;refine⟨(hf _ _ hr).resolve_right ?_,h1⟩
 rintro⟨_,o,ho,fo⟩;rw[h] at ho;cases ho;exact fo
section
variable {n N0 cL cN:Nat}{cR:Nat->Bool}{val:Nat->υ}{End:List Nat->Sim.ay->ϐ->Ψ->Prop}
def d121(p7:Nat):Æ:={target:=.fn (.func 121) #[π (φ ⟨p7,0,ν⟩)],args:=#[]}
def ac2{M:Sim.ay}{p7:Nat}{x:Array υ}{f7:Nat×Nat}(m7:M.has p7)(h7:w.heap[p7]?=φ (Ξ #[.chan (φ cL)] e7 f7))(hO:M.O r)(hr:w.heap[r]?=φ (.deferred (φ []))):
 Walk ϋ χ (W2 (Pm.mk ϋ n N0 cL cN cR val End)) M (aR ⟨120,t,k,[⟨.collected r,x⟩,d121 p7],.returning,.deferred,ν⟩ [cJ ϋ]) w:=
 atk hO hr λaa hk=>atu m7 ((CG (by rintro rfl;rw[hr] at h7;cases h7)).trans ((hk.kept _ m7).trans h7)) rfl
def atw{M:Sim.ay}{p6 p7:Nat}{x:Array υ}{f6 f7 fk:Nat×Nat}(m6:M.has p6)(m7:M.has p7)(mk:M.has pk)(h6:w.heap[p6]?=φ (Ξ #[.chan (φ cN)] e6 f6))(h7:w.heap[p7]?=φ (Ξ #[.chan (φ cL)] e7 f7))
 (hk:w.heap[pk]?=φ (Ξ #[val i] ek fk))(Zw:cR i=θ)(hO:M.O r)(hr:w.heap[r]?=φ (.deferred (φ [])))(hs:t.size=18)(t2:t[2]?=φ (π (φ ⟨pk,0,ν⟩)))(t3:t[3]?=φ (π (φ ⟨p6,0,ν⟩))):
 Walk ϋ χ (W1 (Pm.mk ϋ n N0 cL cN cR val End) i) M (rg 120 t [.code (.region 3 vX χ)] [⟨.collected r,x⟩,d121 p7] .deferred [cJ ϋ]) w:=by
 refine nS ?_
 rw[atK];obtain⟨o,ho,ae,hd,hg⟩:=afm;obtain⟨dir,hu⟩:=GY;refine fw ho (cg hg) rfl (λaa hk=>⟨_,Cz _ aa ae (cK t3) hu rfl (rV ((hk.kept _ m6).trans h6) rfl rfl),Cw m6 _ rfl⟩) ?_
 rw[hd];obtain⟨o,ho,ae,hd,hg⟩:=afn;refine fw ho (cg hg) rfl (λaa MK=>⟨_,Cz _ aa ae (cK ((bO (by omega)).trans t2)) ty3 rfl (rV ((MK.kept _ mk).trans hk) rfl rfl),Cw mk _ rfl⟩) ?_
 rw[hd];suffices rest:∀T:Array υ,T[16]?=φ (.chan (φ cN))->T[17]?=φ (val i)->
  Walk ϋ χ (W1 (Pm.mk ϋ n N0 cL cN cR val End) i) M (rg 120 T [.inRegion vX [2]] [⟨.collected r,x⟩,d121 p7] .deferred [cJ ϋ]) w from
  rest _ ((bO (by omega)).trans (jB (by omega))) (jB (by simp[aA];omega))
 intro T h16 h17;obtain⟨o,ho,ae,hd,hg⟩:=afo;have hx:aX T (.tmp 17)=val i:=cK h17;refine .stop λaa MK=>.inl ⟨Zw,rfl,rfl,⟨μ #[],K0 ho (cg hg) rfl ((abN T aa ae (cK h16)).trans (by rw[hx]))⟩,?_⟩
 have JR:Ϩ (rg 120 T [.inRegion vX [2]] [⟨.collected r,x⟩,d121 p7] .deferred [cJ ϋ]) ω=
  rg 120 T [.inRegion vX []] [⟨.collected r,x⟩,d121 p7] .deferred [cJ ϋ]:=by
  simp[Ϩ,Ē,ho,hd]
 show Walk ϋ χ (W2 (Pm.mk ϋ n N0 cL cN cR val End)) M (Ϩ (rg 120 T [.inRegion vX [2]] [⟨.collected r,x⟩,d121 p7] .deferred [cJ ϋ]) ω) aa;rw[JR];exact(oP (atm (ac2 m7 h7 hO hr))).rely MK
def worker{M:Sim.ay}{lk l6 l7 p6 p7:Nat}{fk f6 f7:Nat×Nat}
 (hW:bX C0 ρ w w')(hg:ρ 0 0)(hf:Fits M ρ w)(hM:∀b,¬M.O b)(oD:∀b,M.has b->b<w'.heap.size)(hn:bN w.heap)
 (rb:ρ lb bk)(rk:ρ lk pk)(r6:ρ l6 p6)(r7:ρ l7 p7)(m6:M.has p6)(m7:M.has p7)(mk:M.has pk)
 (hB:B<=w.heap.size)(ai:bq w B b pv bv tv)(ae:cG b 0=0)
 (c0: w.cell? ⟨lb,0,ν⟩=φ (ξ κ b.ab))(c1: w.cell? ⟨lb,1,ν⟩=φ pv)(c2: w.cell? ⟨lb,2,ν⟩=φ bv)(c3: w.cell? ⟨lb,3,ν⟩=φ tv)(ck: w.cell? ⟨lk,0,ν⟩=φ (ξ κ i))
 (h6:w'.heap[p6]?=φ (Ξ #[.chan (φ cN)] e6 f6))(h7:w'.heap[p7]?=φ (Ξ #[.chan (φ cL)] e7 f7))(hk:w'.heap[pk]?=φ (Ξ #[val i] ek fk))
 (B0:cR i=(search b (cw (aH b)) (λk=>decide (k=i)) b.pieces.length []).isNone):
 Walk ϋ χ (W1 (Pm.mk ϋ n N0 cL cN cR val End) i) M (born ϋ {target:=.fn (.func 120) #[π (φ ⟨p7,0,ν⟩),π (φ ⟨bk,0,ν⟩),π (φ ⟨pk,0,ν⟩),π (φ ⟨p6,0,ν⟩)],args:=#[]}) w':=by
 letI:=pa
 refine atv λt hs t0 t1 t2 t3 t6 tu=>?_
 obtain⟨v6,hv6⟩:=ye ρ (.func (.func 121) #[] #[π (φ ⟨p7,0,ν⟩)]);have lb1:lb<w.heap.size:=hW.fx _ _ rb;have lk1:lk<w.heap.size:=hW.fx _ _ rk;have ptr:∀ {a b:Nat},ρ a b->ah ρ (π (φ ⟨a,0,ν⟩)) (π (φ ⟨b,0,ν⟩)):=λh=>.ptr ⟨h,rfl,rfl⟩
 have J2:aV ρ #[π (φ ⟨l7,0,ν⟩),π (φ ⟨lb,0,ν⟩),π (φ ⟨lk,0,ν⟩),π (φ ⟨l6,0,ν⟩),ω,ω,v6,ω,ω,ω,ω,ω,ω,ω,ω,ω,ω,ω] t:=by
  refine⟨hs.symm,λj h1 h2=>?_⟩
  have hj:j<18:=by rw[<-hs];exact h2
  have hu:∀q,4<=q->q<18->q≠6->∀h:q<t.size,ah ρ ω t[q]:=by
   intro q h4 Mk h6 h;have:=tu q h4 Mk h6;rw[â h] at this
   rw[Ϟ this];exact .undef
  have he:∀ {q:Nat} {v:υ} (h:q<t.size),t[q]?=φ v->t[q]=v:=λh e=>by rw[â h] at e;exact Ϟ e
  have:j=0\/j=1\/j=2\/j=3\/j=6\/(4<=j/\j≠6):=by omega
  rcases this with rfl|rfl|rfl|rfl|rfl| ⟨h4,h6⟩
  ·rw[he _ t0];exact ptr r7
  ·rw[he _ t1];exact ptr rb
  ·rw[he _ t2];exact ptr rk
  ·rw[he _ t3];exact ptr r6
  ·rw[he _ t6];exact hv6
  ·have:=hu j h4 hj h6 h2
   have:j=4\/j=5\/j=7\/j=8\/j=9\/j=10\/j=11\/j=12\/j=13\/j=14\/j=15\/j=16\/j=17:=by omega
   rcases this with rfl|rfl|rfl|rfl|rfl|rfl|rfl|rfl|rfl|rfl|rfl|rfl|rfl<;>assumption
 have hl:∀T,ky (@Tw.prog pa) [AO,zm] (Lx b i (π (φ ⟨l7,0,ν⟩)) (π (φ ⟨lb,0,ν⟩)) (π (φ ⟨lk,0,ν⟩)) (π (φ ⟨l6,0,ν⟩))) ⟨#[π (φ ⟨l7,0,ν⟩),π (φ ⟨lb,0,ν⟩),π (φ ⟨lk,0,ν⟩),π (φ ⟨l6,0,ν⟩),ω,ω,v6,ω,ω,ω,ω,ω,ω,ω,ω,ω,ω,ω],[b6]⟩ (bh w T):=λT=>
  middle (B:=B) hB (ai.still λ_ _=>rfl) ae c0 c1 c2 c3 ck lb1 lk1
 refine pieces (S:=⟨.region 3 vX χ,[],[d121 p7],[cJ ϋ],.deferred⟩) (cs:=[AO,zm]) ?_ rfl rfl ?_ hl hW hg hf oD hn J2 ?_
 ·intro c hc
  simp only[ϥ,ϸ,or_false] at hc;rcases hc with rfl|rfl
  ·exact af1
  ·exact af2
 ·rintro e a w ⟨_,_,_,_,_,_,⟨_,rfl⟩ | ⟨_,rfl⟩⟩
  ·exact .inl rfl
  ·exact .inr rfl
 ·rintro e bI aa bT aI kh aC D' ⟨⟨r,x,hd,hr⟩,us,u0,u1,u2,u3,BC⟩ bZ fJ oY JF kW sa Ce hD
  rw[hd] at hD;obtain⟨r',x',rr,rfl⟩:∃r' x',aI r r'/\D'=[⟨.collected r',x'⟩,d121 p7]:=by
   cases hD with
   |cons h1 h2=>
    cases h1 with
    |collected hr=>rw[Dl h2];exact⟨_,_,hr,rfl⟩
  obtain⟨hO,JO⟩:=ap8 fJ oY rr hr;have kept:∀q,M.has q->aC.heap[q]?=w'.heap[q]?:=λq hq=>bZ.oJ q hq λa ha=>((hf a q ha).resolve_left (hM q)).2
  have Mv:∀q,M.has q->bT.has q:=λq hq=>ay.zT bZ.R bZ.O hq
  refine⟨λhe=>?_,λhe zh=>?_⟩
  ·subst he
   obtain⟨D5,_⟩:=BC.resolve_right (by rintro⟨_,h⟩;cases h)
   refine atw (Mv _ m6) (Mv _ m7) (Mv _ mk) ((kept _ m6).trans h6) ((kept _ m7).trans h7) ((kept _ mk).trans hk) (by rw[B0,D5];rfl) hO JO (Ce.1.symm.trans us) (Uu fJ Ce (bZ.le _ _ rk) u2) (Uu fJ Ce (bZ.le _ _ r6) u3)
  ·subst he
   obtain⟨ZT,_⟩:=BC.resolve_left (by rintro⟨_,h⟩;cases h)
   refine Walk.mono (ac2 (Mv _ m7) ((kept _ m7).trans h7) hO JO) λM g w h=>.inr ⟨?_,h⟩
   show cR i=χ;rw[B0];cases e:search b (cw (aH b)) (λk=>decide (k=i)) b.pieces.length [] with
   |none=>rw[e] at ZT;cases ZT
   |some _=>rfl
end
end Go.Jn
namespace Go.Jn
open Go Go.Sim Go.Conc
open Go.ConcN (sumTo upd sumTo_upd upd_ne upd_same)
def ash(n:Nat):sumTo n (λ_=>0)=0:=by
 induction n with
 |zero=>rfl
 |succ n ih=>simp only[sumTo,ih]
def aie{X:Pm}{t:Â}{q:Nat->Nat}(hF:Fr X.P gs w t q g)(hN0:X.N0=gs.size)
 (oD:∀b,M.has b->b<w.heap.size/\b≠X.cL/\b≠X.cN)(bt:g.status=.running)(hW:Walk X.P θ (StopA X X.n) M g w)
 (hL:w.heap[X.cL]?=φ (.chan 0 #[] χ 0 0 χ))(hN:w.heap[X.cN]?=φ (.chan 0 #[] χ 0 0 χ))(au:X.cL≠X.cN)(hT:rT N t)(DR:N<=X.cN):
 ∃G,FI X w gs w t G:=by
 obtain⟨T,rX⟩:=hW.tree;have h0:0<gs.size:=(Ϝ.1 hF.zero).1
 have known:∀k a,touchAt t k=φ a->a.loc.isMemory=θ->Knows t 0 k:=λk a ha hm=>(hF.nO.known k a ha hm).elim id λh=>h.1.elim
 refine⟨{j:=0,st:=λ_=>.no,mp:=.spawn,cp:=.no,act:=λi=>if i=0 then φ ⟨M,g,w⟩ else ν,q:=q,tr:=λ_=>T},?_⟩
 refine⟨hN0.symm,by omega,Ϡ _,λh=>(by cases h),⟨λ⟨_,_,e⟩=>(by rcases e with e|e<;>cases e),λh=>(by cases h)⟩,λi _=>⟨λ_=>Ϡ _,λ_=>rfl⟩,⟨g,hF.zero,M,w,rfl,bt,rX⟩,λi hi=>absurd hi (Nat.not_lt_zero _),λh=>(by cases h),
  λi x h1 _ hx=>hF.lv i x h1 hx,λi h1 _=>?_,λi hi=>?_,ash _,λ_ _ _=>rfl,λ⟨_,_,e⟩=>(by cases e),λ⟨_,e⟩=>(by cases e),λ⟨_,_,e⟩=>(by cases e),⟨λi j hj=>?_,λi i' j j' hii hj xd=>?_,λi j hj=>?_,hF.nO.seen,hF.nd,hF.nO.clean,λi j hj k a ha b hb _=>?_,?_,?_⟩,
  ⟨0,hL⟩,⟨0,hN⟩,au,⟨ϊ _,rfl,rfl,rfl⟩,λk a ha hm i _ _=>known k a ha hm,λk i hi=>?_,λi _ hq=>(by cases hq),λ_ k a ha=>?_,λh=>(by cases h)⟩
 ·exact if_neg (by omega)
 ·exact if_neg (by omega)
 ·by_cases e:i=0
  ·simp only[e,if_true,ï] at hj
   subst hj;exact bQ.refl _ _
  ·simp only[e,if_false] at hj;cases hj
 ·by_cases e:i=0
  ·have e':i'≠0:=λx=>hii (e.trans x.symm)
   simp only[e',if_false] at xd;cases xd
  ·simp only[e,if_false] at hj;cases hj
 ·by_cases e:i=0
  ·simp only[e,if_true,ï] at hj
   subst hj;exact oD
  ·simp only[e,if_false] at hj;cases hj
 ·by_cases e:i=0
  ·subst e
   refine known k a ha ?_
   rcases hb with hb| ⟨c,hb,_⟩<;>rw[hb]<;>rfl
  ·simp only[e,if_false] at hj;cases hj
 ·exact(Ϝ.1 hL).1
 ·exact(Ϝ.1 hN).1
 ·unfold Trace.g? at hi
  obtain⟨op,ae,e⟩:=Ă.1 hi;rw[<-e];exact hF.gb op (Ļ ae)
 ·obtain⟨op,ae,cC⟩:=touch_of ha
  exact hT op (mem_of_getElem? ae) a cC _ DR
end Go.Jn
namespace Go.Jn
open Go Go.Proofs Go.Sim Go.Conc
def tW:ϑ:=aG (aG (aG Fw))
def wM:ϑ:=aT (aG Fw)
def p0:Array Ë:=opsOf (aT Fw)
def p5:Array Ë:=opsOf (aT (aT tW))
def AZ:ϑ:=xE (xE (aG (aT tW)))
def p6:Array Ë:=opsOf (aT AZ)
def p7:Array Ë:=opsOf (aT (xE (aT (aG (aG AZ)))))
def p8:Array Ë:=opsOf (aG (xE (aT (aG (aG AZ)))))
def p9:Array Ë:=opsOf (aG (aG (aG AZ)))
def Cy:ϑ:=aG tW
def NM:Array Ë:=opsOf (aT Cy)
def GL:Array Ë:=opsOf (aT (aG Cy))
def Aw:ϑ:=aG (aG Cy)
def KE:Array Ë:=opsOf (aT (aT Aw))
def wK:ϑ:=xE (xE (aG (aT Aw)))
def Au:Array Ë:=opsOf (aT wK)
def NN:Array Ë:=opsOf (aT (xE (aG (aG wK))))
def xA:Array Ë:=opsOf (aG (xE (aG (aG wK))))
def yO:ϑ:=aG Aw
def GM:Array Ë:=opsOf (aT yO)
def EJ:Array Ë:=opsOf (aT (aG yO))
def Ws:Tryz.f38.body=φ (.seq (.region 0 p0 χ) (.seq wM (.seq (.region 4 o8 θ) tW))):=rfl
def aqk:tW=.seq (.seq (.region 5 p5 χ) (.block 0 (.loop AZ))) Cy:=rfl
def V1:AZ=.seq (.region 6 p6 χ) (.seq (.cond (.tmp 25) .skip (.exit 0)) (.seq (.block 1 (.seq (.region 7 p7 χ) (.region 8 p8 χ))) (.region 9 p9 χ))):=rfl
def aqh:Cy=.seq (.region 10 NM χ) (.seq (.region 11 GL χ) Aw):=rfl
def aqi:Aw=.seq (.seq (.region 12 KE χ) (.block 2 (.loop wK))) yO:=rfl
def aqj:yO=.seq (.region 16 GM χ) (.seq (.region 17 EJ χ) .ret):=rfl
def m00:∃o,p0[0]?=φ o/\o.op=.box 26 (.tmp 0)/\o.dst=φ 1/\o.guard=ν:=⟨_,rfl,rfl,rfl,rfl⟩
def m01:∃o,p0[1]?=φ o/\o.op=.assign (.const (ζ ν 0 0))/\o.dst=φ 2/\o.guard=ν:=⟨_,rfl,rfl,rfl,rfl⟩
def m02:∃o,p0[2]?=φ o/\o.op=.assign (.const (ξ κ 0))/\o.dst=φ 3/\o.guard=ν:=⟨_,rfl,rfl,rfl,rfl⟩
def m50:∃o,p5[0]?=φ o/\o.op=.fieldAddr 26 (.tmp 1) 2/\o.dst=φ 21/\o.guard=ν:=⟨_,rfl,rfl,rfl,rfl⟩
def m51:∃o,p5[1]?=φ o/\o.op=.load 23 (.tmp 21)/\o.dst=φ 22/\o.guard=ν:=⟨_,rfl,rfl,rfl,rfl⟩
def m52:∃o,p5[2]?=φ o/\o.op=.call {callee:=.builtin .len,args:=#[.tmp 22],argTypes:=#[23]}/\o.dst=φ 23/\o.guard=ν:=⟨_,rfl,rfl,rfl,rfl⟩
def m53:∃o,p5[3]?=φ o/\o.op=.move (.const (ξ κ 0))/\o.dst=φ 24/\o.guard=ν:=⟨_,rfl,rfl,rfl,rfl⟩
def m60:∃o,p6[0]?=φ o/\o.op=.binOp .lss 3 (.tmp 24) (.tmp 23) 3/\o.dst=φ 25/\o.guard=ν:=⟨_,rfl,rfl,rfl,rfl⟩
def m70:∃o,p7[0]?=φ o/\o.op=.move (.tmp 24)/\o.dst=φ 26/\o.guard=ν:=⟨_,rfl,rfl,rfl,rfl⟩
def m71:∃o,p7[1]?=φ o/\o.op=.alloc 3/\o.dst=φ 8/\o.guard=ν:=⟨_,rfl,rfl,rfl,rfl⟩
def m72:∃o,p7[2]?=φ o/\o.op=.store 3 (.tmp 8) (.tmp 26)/\o.dst=ν/\o.guard=ν:=⟨_,rfl,rfl,rfl,rfl⟩
def m80:∃o,p8[0]?=φ o/\o.op=.makeFunc (.func 120) #[] #[.tmp 7,.tmp 1,.tmp 8,.tmp 6]/\o.dst=φ 27/\o.guard=ν:=⟨_,rfl,rfl,rfl,rfl⟩
def m81:∃o,p8[1]?=φ o/\o.op=.go {callee:=.value (.tmp 27),args:=#[],argTypes:=#[]}/\o.dst=ν/\o.guard=ν:=⟨_,rfl,rfl,rfl,rfl⟩
def m90:∃o,p9[0]?=φ o/\o.op=.binOp .add 3 (.tmp 24) (.const (ξ κ 1)) 3/\o.dst=φ 28/\o.guard=ν:=⟨_,rfl,rfl,rfl,rfl⟩
def m91:∃o,p9[1]?=φ o/\o.op=.move (.tmp 28)/\o.dst=φ 24/\o.guard=ν:=⟨_,rfl,rfl,rfl,rfl⟩
def ant:∃o,NM[0]?=φ o/\o.op=.makeFunc (.func 124) #[] #[.tmp 1,.tmp 7,.tmp 6]/\o.dst=φ 29/\o.guard=ν:=⟨_,rfl,rfl,rfl,rfl⟩
def anu:∃o,NM[1]?=φ o/\o.op=.go {callee:=.value (.tmp 29),args:=#[],argTypes:=#[]}/\o.dst=ν/\o.guard=ν:=⟨_,rfl,rfl,rfl,rfl⟩
def anv:∃o,GL[0]?=φ o/\o.op=.assign (.const (ζ ν 0 0))/\o.dst=φ 9/\o.guard=ν:=⟨_,rfl,rfl,rfl,rfl⟩
def anw:∃o,KE[0]?=φ o/\o.op=.load 154 (.tmp 6)/\o.dst=φ 30/\o.guard=ν:=⟨_,rfl,rfl,rfl,rfl⟩
def Ty:∃o,Au[0]?=φ o/\o.op=.recv 154 (.tmp 30) θ/\o.dst=φ 31/\o.guard=ν:=⟨_,rfl,rfl,rfl,rfl⟩
def aaV:∃o,Au[1]?=φ o/\o.op=.extract (.tmp 31) 1/\o.dst=φ 32/\o.guard=ν:=⟨_,rfl,rfl,rfl,rfl⟩
def anx:∃o,NN[0]?=φ o/\o.op=.extract (.tmp 31) 0/\o.dst=φ 33/\o.guard=ν:=⟨_,rfl,rfl,rfl,rfl⟩
def anz:∃o,NN[1]?=φ o/\o.op=.assign (.tmp 33)/\o.dst=φ 10/\o.guard=ν:=⟨_,rfl,rfl,rfl,rfl⟩
def anF:∃o,EJ[0]?=φ o/\o.op=.move (.tmp 9)/\o.dst=φ 40/\o.guard=ν:=⟨_,rfl,rfl,rfl,rfl⟩
def anG:∃o,EJ[1]?=φ o/\o.op=.assign (.tmp 40)/\o.dst=φ 2/\o.guard=ν:=⟨_,rfl,rfl,rfl,rfl⟩
def anH:∃o,EJ[2]?=φ o/\o.op=.assign (.const (ξ κ 0))/\o.dst=φ 3/\o.guard=ν:=⟨_,rfl,rfl,rfl,rfl⟩
def s0:p0.size=3:=rfl
def s5:p5.size=4:=rfl
def s6:p6.size=1:=rfl
def s7:p7.size=3:=rfl
def s8:p8.size=2:=rfl
def s9:p9.size=2:=rfl
def s10:NM.size=2:=rfl
def s11:GL.size=1:=rfl
def s12:KE.size=1:=rfl
def s13:Au.size=2:=rfl
def s14:NN.size=2:=rfl
def s17:EJ.size=3:=rfl
def Ng:∃i,ϋ.info? 3=φ i/\i.zero=φ (ξ κ 0)/\i.size=1:=⟨_,rfl,rfl,rfl⟩
def aqg:Tryz.f38.results=#[.tmp 2,.tmp 3]:=rfl
def aoP:(Tryz.f38.name== "runtime.NumGoroutine")=χ:=by decide+kernel
def af3:C0.clean wM:=by show cy ϋ G0 wM=θ;decide+kernel
def afW:C0.clean (.region 15 xA χ):=by show cy ϋ G0 (.region 15 xA χ)=θ;decide+kernel
def afX:C0.clean (.region 16 GM χ):=by show cy ϋ G0 (.region 16 GM χ)=θ;decide+kernel
def aqv(t:Array υ)(w:Ψ)(ho:o.op=.box e (.tmp n))(hn:t.getD n ω=v):
 (execOp (aX t) o).runT P w #[]=(.ok (.value (π (φ ⟨w.heap.size,0,ν⟩))) (w.alloc (.cells v.cells e)),#[]):=by
 have e1:aX t (.tmp n)=v:=hn;unfold execOp;rw[ho]
 simp only[Instr.box,e1,newVar,newRow,newObj,bind,ϫ,Ϧ,pure,World.alloc]
def aiy{G:Nat->Bool}(hG:∀g,G g=θ->ρ g g)(h:aV ρ tl t):wD G ρ (aX tl) (aX t):=by
 have:=I3 (f:=0) (k:=[]) (k':=[]) (d:=[]) (d':=[]) (m:=.run) (kd:=.normal) (kg:=.normal) (r:=ν) (r':=ν) hG h;rwa[zM,zM] at this
section
variable {P:Ϙ}{F:Array Func}{C:bS}{G:Nat->Bool}
def ac1(E:Env P F C G){Stop:Sim.ay->ϐ->Ψ->Prop}{M:Sim.ay}
 (ho:ops[i]?=φ o)(hg:Ê o (ê ops t)=θ)(hk:(kd==.early)=χ)(rA:qw P G o=θ)(ht:aV ρ tl t)(hW:bX C ρ wl w')(hG:∀g,G g=θ->ρ g g)(hf:Fits M ρ wl)(oD:∀b,M.has b->b<w'.heap.size)
 {QL:υ->Ψ->Prop}(hl:∀T,∃v aa,(execOp (aX tl) o).run (tw P F) (bh wl T)=.ok (.value v) aa/\QL v aa)
 (h:∀v v' CQ aI bT aC,QL v CQ->ah aI v v'->bX C aI CQ aC->oq M ρ wl w' bT aI CQ aC->Fits bT aI CQ->(∀b,bT.has b->b<aC.heap.size)->Walk P main Stop bT (rg f (aA t o.dst v') (.inRegion ops rest::k) D kd cs) aC):
 Walk P main Stop M (rg f t (.inRegion ops (i::rest)::k) D kd cs) w':=by
 refine G5 ho hg hk λaa hw=>?_
 have hR:=hW.keep hf hw
 let T:Tape:=λj q=>aa.tape (aa.drawn+(j - wl.drawn)) q
 obtain⟨v,CQ,hr,hq⟩:=hl T;have iw:ot C ρ (bh wl T) aa:=(hR.left (aa:=bh wl T) rfl).rel λj q=>by
  show aa.tape (aa.drawn+(wl.drawn+j - wl.drawn)) q=aa.tape (aa.drawn+j) q;rw[Nat.add_sub_cancel_left]
 obtain⟨aI,n',aC,iy,k1,k2,k3,k4,k5⟩:=gU.execOp E o rA (aiy hG ht) ρ ρ.le_refl (bh wl T) aa #[] iw (.value v) CQ hr;cases k2 with
 |value hv=>
  rename_i v';have JF:∀b,M.has b->b<aa.heap.size:=λb hb=>ϟ (oD b hb) hw.size
  have QQ:∀b,b<aa.heap.size->¬M.O b->∀a,ρ a b->∃o,wl.heap[a]?=φ o/\rM o:=λb _ hb a ha=>((hf a b ha).resolve_left hb).2
  have L5:j4 M aa aC iy:=by
   refine⟨k4.ng,λb hb hO=>k4.oJ b hb (QQ b hb hO),k4.CO,k4.Cs,k4.Ct,λe he=>?_⟩
   rcases k5 e he with⟨b,a,e1,e2,e3,e4⟩ |x
   ·refine .inl ⟨b,e1,e2,?_⟩
    rcases k4.new a b e3 with x| ⟨x,y⟩
    ·rcases hf a b x with o| ⟨r,o,ho,fo⟩
     ·exact⟨.inl (.inl o),λ_=>.inl o⟩
     ·refine⟨.inr r,λJ3=>?_⟩
      rcases e4 with e4| ⟨o',uU,e4⟩
      ·have:=hW.fx a b x
       have e4:wl.heap.size<=a:=e4;omega
      ·have e5:wl.heap[a]?=φ o':=uU
       rw[ho] at e5;obtain rfl:=Ϟ e5;exact absurd fo (e4 J3)
    ·have hb:=k3.du a b e3
     exact⟨.inl (.inr ⟨y,hb⟩),λ_=>.inr ⟨y,hb⟩⟩
   ·exact .inr x
  have Ao:(execOp (aX t) o).runT P aa #[]=(.ok (.value v') aC,iy):=by rw[k1];simp
  refine⟨v',aC,iy,.inl Ao,L5,?_⟩
  refine h v v' CQ aI (M.grow aa aC) aC hq hv ⟨k3.fx,k3.du,k3.fn,k3.inj,k3.obj⟩ ((oq.keep hw).trans (wN:=M.grow aa aC) ⟨k4.le,k4.new,k4.ta,k4.ng,k4.qR,λb hb ME=>k4.oJ b (JF b hb) ME,rfl,λ_ x=>.inl x,λ_ x=>x,k4.CO,k4.Cs,k4.Ct⟩ oD) (λa b hab=>?_) (FO L5 JF)
  rcases k4.new a b hab with x| ⟨x,y⟩
  ·rcases hf a b x with o| ⟨r,o,ho,fo⟩
   ·exact .inl (.inl o)
   ·exact .inr ⟨r,o,k4.qR a o ho fo,fo⟩
  ·exact .inl (.inr ⟨y,k3.du a b hab⟩)
end
end Go.Jn
namespace Go.Jn
open Go Go.Proofs Go.Sim Go.Conc Go.Tw
def ext(ρ:Ren)(a0 b0:Nat):Ren:=λa b=>ρ a b\/(a=a0/\b=b0)
def Dp(ρ:Ren)(a0 b0:Nat):ρ.le (ext ρ a0 b0):=λ_ _ h=>.inl h
def Bl{o:Obj}(hW:bX C ρ wl w')(hq:w'.heap[q]?=φ o')(D3:∀a,¬ρ a q)(ho:oS C (ext ρ wl.heap.size q) o o'):
 bX C (ext ρ wl.heap.size q) (wl.alloc o) w' where
 fx a b h:=by
  rw[kS];rcases h with h| ⟨rfl,rfl⟩
  ·have:=hW.fx a b h;omega
  ·omega
 du a b h:=by
  rcases h with h| ⟨rfl,rfl⟩
  ·exact hW.du a b h
  ·exact(Ϝ.1 hq).1
 fn a b b' h h':=by
  rcases h with h| ⟨rfl,rfl⟩
  ·rcases h' with h'| ⟨rfl,rfl⟩
   ·exact hW.fn a b b' h h'
   ·have:=hW.fx _ _ h;omega
  ·rcases h' with h'| ⟨_,rfl⟩
   ·have:=hW.fx _ _ h';omega
   ·rfl
 inj a a' b h h':=by
  rcases h with h| ⟨rfl,rfl⟩
  ·rcases h' with h'| ⟨rfl,rfl⟩
   ·exact hW.inj a a' b h h'
   ·exact absurd h (D3 a)
  ·rcases h' with h'| ⟨rfl,_⟩
   ·exact absurd h' (D3 a')
   ·rfl
 obj a b x h hx:=by
  rcases h with h| ⟨rfl,rfl⟩
  ·rw[qO (hW.fx a b h)] at hx
   obtain⟨y,h1,h2⟩:=hW.obj a b x h hx;exact⟨y,h1,h2.mono (Dp ρ _ _)⟩
  ·rw[qa] at hx
   cases hx;exact⟨o',hq,ho⟩
def zJ(hW:bX C ρ wl w')(hs:w'.heap.size<=bB.heap.size)(hk:∀a b,ρ a b->bB.heap[b]?=w'.heap[b]?):bX C ρ wl bB where
 fx:=hW.fx
 du a b h:=ϟ (hW.du a b h) hs
 fn:=hW.fn
 inj:=hW.inj
 obj a b o h ho:=by
  obtain⟨o',h1,h2⟩:=hW.obj a b o h ho;exact⟨o',(hk a b h).trans h1,h2⟩
structure LW(b:an)(ρ:Ren)(wl:Ψ)(pv bv tv:υ)(B lb l6 l7 bk p6 p7:Nat)(M:Sim.ay)(w':Ψ):Prop where
 core:bX C0 ρ wl w'
 nU:ρ 0 0
 nb:bN wl.heap
 has:∀a q,ρ a q->M.has q
 fixed:∀a q,ρ a q->∃o,wl.heap[a]?=φ o/\rM o
 rb:ρ lb bk
 r6:ρ l6 p6
 r7:ρ l7 p7
 hB:B<=wl.heap.size
 book:bq wl B b pv bv tv
 c0: wl.cell? ⟨lb,0,ν⟩=φ (ξ κ b.ab)
 c1: wl.cell? ⟨lb,1,ν⟩=φ pv
 c2: wl.cell? ⟨lb,2,ν⟩=φ bv
 c3: wl.cell? ⟨lb,3,ν⟩=φ tv
structure St(b:an)(ρ:Ren)(wl:Ψ)(pv bv tv:υ)(B lb l6 l7 bk p6 p7 cN cL n NB:Nat)(wB:Ψ)(M:Sim.ay)(w:Ψ):Prop where
 lw:LW b ρ wl pv bv tv B lb l6 l7 bk p6 p7 M w
 low:∀q,M.has q->q<w.heap.size
 m6:M.has p6
 m7:M.has p7
 mb:M.has bk
 h6:w.heap[p6]?=φ (Ξ #[.chan (φ cN)] 154 (0,0))
 h7:w.heap[p7]?=φ (Ξ #[.chan (φ cL)] 155 (0,0))
 hb:∃bc e fb A c,w.heap[bk]?=φ (.cells bc e fb)/\bc[2]?=φ (.slice A n c)
 old:∀q,q<NB->M.has q/\w.heap[q]?=wB.heap[q]?
 nb:NB<=w.heap.size
 nc:¬M.has cN/\¬M.has cL
 lc:cN<w.heap.size/\cL<w.heap.size
section
variable {b:an}{ρ:Ren}{wl wB w bB:Ψ}{pv bv tv:υ}{B lb l6 l7 bk p6 p7 cN cL n NB:Nat}{M M':Sim.ay}
def St.to(h:(St b ρ wl pv bv tv B lb l6 l7 bk p6 p7 cN cL n NB wB) M w)(hs:w.heap.size<=bB.heap.size)(hk:∀q,M.has q->bB.heap[q]?=w.heap[q]?)(hM:∀q,M.has q->M'.has q)(hl:∀q,M'.has q->q<bB.heap.size)(hc:¬M'.has cN/\¬M'.has cL):(St b ρ wl pv bv tv B lb l6 l7 bk p6 p7 cN cL n NB wB) M' bB:=by
 obtain⟨⟨core,nU,nb,has,fixed,rb,r6,r7,hB,book,c0,c1,c2,c3⟩,low,m6,m7,mb,h6,h7,⟨bc,e,fb,A,c,ag,ak⟩,old,nJ,nc,lc⟩:=h;exact⟨⟨zJ core hs λa q hq=>hk q (has a q hq),nU,nb,λa q hq=>hM q (has a q hq),fixed,rb,r6,r7,hB,book,c0,c1,c2,c3⟩,hl,hM _ m6,hM _ m7,hM _ mb,(hk _ m6).trans h6,(hk _ m7).trans h7,⟨bc,e,fb,A,c,(hk _ mb).trans ag,ak⟩,
  λq hq=>⟨hM q (old q hq).1,(hk q (old q hq).1).trans (old q hq).2⟩,ϣ nJ hs,hc,ϟ lc.1 hs,ϟ lc.2 hs⟩
def St.keep(h:(St b ρ wl pv bv tv B lb l6 l7 bk p6 p7 cN cL n NB wB) M w)(k:bQ M w bB):(St b ρ wl pv bv tv B lb l6 l7 bk p6 p7 cN cL n NB wB) M bB:=h.to k.size k.kept (λ_ h=>h) (λq hq=>ϟ (h.low q hq) k.size) h.nc
def St.shared(h:(St b ρ wl pv bv tv B lb l6 l7 bk p6 p7 cN cL n NB wB) M w):(St b ρ wl pv bv tv B lb l6 l7 bk p6 p7 cN cL n NB wB) M.shared w:=h.to (ϊ _) (λ_ _=>rfl) (λ_ h=>.inr h) (λq hq=>h.low q (hq.resolve_left id)) ⟨λx=>h.nc.1 (x.resolve_left id),λx=>h.nc.2 (x.resolve_left id)⟩
def St.alloc(h:(St b ρ wl pv bv tv B lb l6 l7 bk p6 p7 cN cL n NB wB) M w)(o:Obj):(St b ρ wl pv bv tv B lb l6 l7 bk p6 p7 cN cL n NB wB) (M.grow w (w.alloc o)) (w.alloc o):=by
 refine h.to (by rw[kS];omega) (λq hq=>qO (h.low q hq)) (λq hq=>hq.imp .inl id) (λq hq=>?_) ⟨λhq=>?_,λhq=>?_⟩
 ·rw[kS]
  rcases hq with(hq|hq) |hq
  ·have:=h.low q (.inl hq);omega
  ·rw[kS] at hq;omega
  ·have:=h.low q (.inr hq);omega
 ·rcases hq with(hq|hq) |hq
  ·exact h.nc.1 (.inl hq)
  ·have:=h.lc.1;omega
  ·exact h.nc.1 (.inr hq)
 ·rcases hq with(hq|hq) |hq
  ·exact h.nc.2 (.inl hq)
  ·have:=h.lc.2;omega
  ·exact h.nc.2 (.inr hq)
end
def xF(i:Nat):υ:=ξ κ i
def vs3{b c:Nat}{y:υ}(h1:t[a]?=φ x)(h2:t[b]?=φ y)(h3:t[c]?=φ z):(#[Operand.tmp a,.tmp b,.tmp c].map (aX t))=#[x,y,z]:=by
 have e1:aX t (.tmp a)=x:=cK h1;have e2:aX t (.tmp b)=y:=cK h2;have e3:aX t (.tmp c)=z:=cK h3;simp only[ū,ď,Ŝ,e1,e2,e3]
def vs4{b c:Nat}{y:υ}(h1:t[a]?=φ x)(h2:t[b]?=φ y)(h3:t[c]?=φ z)(h4:t[d]?=φ u):(#[Operand.tmp a,.tmp b,.tmp c,.tmp d].map (aX t))=#[x,y,z,u]:=by
 have e1:aX t (.tmp a)=x:=cK h1;have e2:aX t (.tmp b)=y:=cK h2;have e3:aX t (.tmp c)=z:=cK h3;have e4:aX t (.tmp d)=u:=cK h4;simp only[ū,ď,Ŝ,e1,e2,e3,e4]
section
variable {b:an}{ρ:Ren}{wl wB:Ψ}{pv bv tv:υ}{B lb l6 l7 bk p6 p7 cN cL n N0 NB:Nat}{cR:Nat->Bool}{End:List Nat->Sim.ay->ϐ->Ψ->Prop}
structure pZ(bk p6 p7:Nat)(t:Array υ):Prop where
 sz:t.size=41
 t1:t[1]?=φ (π (φ ⟨bk,0,ν⟩))
 t6:t[6]?=φ (π (φ ⟨p6,0,ν⟩))
 t7:t[7]?=φ (π (φ ⟨p7,0,ν⟩))
def pZ.put(h:pZ bk p6 p7 t)(hd:d≠1/\d≠6/\d≠7):pZ bk p6 p7 (aA t (φ d) v):=
 ⟨by simp[aA,h.sz],(bO hd.1).trans h.t1,(bO hd.2.1).trans h.t6,(bO hd.2.2).trans h.t7⟩
def arQ(B0:∀i,cR i=(search b (cw (aH b)) (λk=>decide (k=i)) b.pieces.length []).isNone)(ae:cG b 0=0){M:Sim.ay}(h:(St b ρ wl pv bv tv B lb l6 l7 bk p6 p7 cN cL n NB wB) M w)(mk:M.has pk)(hk:w.heap[pk]?=φ (Ξ #[ξ κ i] 3 (0,0)))(D3:∀a,¬ρ a pk):
 Walk ϋ χ (W1 (Pm.mk ϋ n N0 cL cN cR xF End) i) M.shared (born ϋ {target:=.fn (.func 120) #[π (φ ⟨p7,0,ν⟩),π (φ ⟨bk,0,ν⟩),π (φ ⟨pk,0,ν⟩),π (φ ⟨p6,0,ν⟩)],args:=#[]}) w:=by
 have hW:=Bl (o:=.cells #[ξ κ i] 3 (0,1)) h.lw.core hk D3 (.cells 3 ⟨rfl,λj h1 h2=>by
  have:j=0:=by simp at h1;omega
  subst this;exact .int _ _⟩ (.inr ⟨rfl,by simp⟩))
 have st:=(Δ.refl wl).alloc h.lw.hB (Ξ #[ξ κ i] 3 (0,1));have old:∀ {j:Nat} {v:υ},wl.cell? ⟨lb,j,ν⟩=φ v->(wl.alloc (Ξ #[ξ κ i] 3 (0,1))).cell? ⟨lb,j,ν⟩=φ v:=λhv=>(World.cell?_alloc_lt wl _ _ (h.lw.core.fx _ _ h.lw.rb)).trans hv
 refine worker (val:=xF) (ρ:=ext ρ wl.heap.size pk) (w:=wl.alloc (Ξ #[ξ κ i] 3 (0,1))) (b:=b) (pv:=pv) (bv:=bv) (tv:=tv) (B:=B) (lb:=lb) (lk:=wl.heap.size) (l6:=l6) (l7:=l7) hW (.inl h.lw.nU) ?_ (λ_ h=>h) (λq hq=>h.low q (hq.resolve_left id)) ?_ (.inl h.lw.rb) (.inr ⟨rfl,rfl⟩) (.inl h.lw.r6) (.inl h.lw.r7) (.inr h.m6) (.inr h.m7) (.inr mk) (by rw[kS];exact Nat.le_succ_of_le h.lw.hB) (h.lw.book.still st) ae (old h.lw.c0) (old h.lw.c1) (old h.lw.c2) (old h.lw.c3) ?_ h.h6 h.h7 hk (B0 i)
 ·rintro a q (hq| ⟨rfl,rfl⟩)
  ·obtain⟨o,ho,fo⟩:=h.lw.fixed a q hq
   exact .inr ⟨h.lw.has a q hq,o,(qO (h.lw.core.fx _ _ hq)).trans ho,fo⟩
  ·exact .inr ⟨mk,_,qa,⟨rfl,by simp⟩⟩
 ·exact h.lw.nb.push (λh=>h)
 ·exact rV qa rfl rfl
def spawns(B0:∀i,cR i=(search b (cw (aH b)) (λk=>decide (k=i)) b.pieces.length []).isNone)(ae:cG b 0=0)(hn:n<2 ^ 61)
 (cont:∀t M w,pZ bk p6 p7 t->(St b ρ wl pv bv tv B lb l6 l7 bk p6 p7 cN cL n NB wB) M w->Walk ϋ θ (tB (Pm.mk ϋ n N0 cL cN cR xF End) n []) M (rg 38 t [.code (.seq (.region 11 GL χ) Aw)] [] .normal cs) w):
 ∀(r:Nat) (t:Array υ) (M:Sim.ay) (w:Ψ),r<=n->pZ bk p6 p7 t->t[23]?=φ (ξ κ n)->t[24]?=φ (ξ κ ((n:Int) - r))->(St b ρ wl pv bv tv B lb l6 l7 bk p6 p7 cN cL n NB wB) M w->
  Walk ϋ θ (StopA (Pm.mk ϋ n N0 cL cN cR xF End) r) M (rg 38 t [.code AZ,.inLoop AZ,.inBlock 0,.code Cy] [] .normal cs) w:=by
 intro r;induction r with
 |zero=>
  intro t M w hr hs t23 t24 hS;rw[V1];refine mM (nS ?_)
  rw[s6];obtain⟨o,ho,bJ,hd,hg⟩:=m60;refine fw ho (cg hg) rfl (λaa _=>⟨_,N6 t aa bJ (cK t24) (cK t23),ig⟩) ?_
  rw[hd];have dn:pZ bk p6 p7 (aA t (φ 25) (.bool (decide ((n:Int) - ((0:Nat):Int)<n)))):=hs.put ⟨by omega,by omega,by omega⟩
  have DD:(aA t (φ 25) (.bool (decide ((n:Int) - ((0:Nat):Int)<n)))).getD 25 ω=.bool χ:=
   (oA (by rw[hs.sz];omega)).trans (congrArg Value.bool (by simp))
  revert dn DD
  generalize aA t (φ 25) (.bool (decide ((n:Int) - ((0:Nat):Int)<n)))=t1;intro dn DD;refine oP (mM (G4 (q:=χ) DD ?_))
  refine UZ (k':=[.code Cy]) rfl ?_
  rw[aqh];refine mM (nS ?_)
  rw[s10];obtain⟨o,ho,bJ,hd,hg⟩:=ant;refine fw ho (cg hg) rfl (λaa _=>⟨_,(Ue t1 aa bJ).trans (by rw[vs3 dn.t1 dn.t7 dn.t6]),ig⟩) ?_
  rw[hd];have Q2:(aA t1 (φ 29) (.func (.func 124) #[] #[π (φ ⟨bk,0,ν⟩),π (φ ⟨p7,0,ν⟩),π (φ ⟨p6,0,ν⟩)])).getD 29 ω=.func (.func 124) #[] #[π (φ ⟨bk,0,ν⟩),π (φ ⟨p7,0,ν⟩),π (φ ⟨p6,0,ν⟩)]:=oA (by rw[dn.sz];omega)
  have fA:pZ bk p6 p7 (aA t1 (φ 29) (.func (.func 124) #[] #[π (φ ⟨bk,0,ν⟩),π (φ ⟨p7,0,ν⟩),π (φ ⟨p6,0,ν⟩)])):=dn.put ⟨by omega,by omega,by omega⟩
  revert Q2 fA
  generalize aA t1 (φ 29) (.func (.func 124) #[] #[π (φ ⟨bk,0,ν⟩),π (φ ⟨p7,0,ν⟩),π (φ ⟨p6,0,ν⟩)])=t2;intro Q2 fA;refine .stop λaa hk=>?_
  obtain⟨o,ho,bJ,hd,hg⟩:=anu;have ld:=hS.keep hk;obtain⟨bc,e,fb,A,c,ag,ak⟩:=ld.hb;refine⟨rfl,_,_,acm (k:=[.code (.seq (.region 11 GL χ) Aw)]) ho (cg hg) rfl (by simp) (abJ t2 aa bJ Q2),rfl,rfl,?_,?_⟩
  ·exact closer (.inr ld.mb) (.inr ld.m6) (.inr ld.m7) ag ak ld.h6 ld.h7 hn
  ·rw[hd]
   exact oP (cont _ _ _ fA ld.shared)
 |succ r ih=>
  intro t M w hr hs t23 t24 hS;rw[V1];refine mM (nS ?_)
  rw[s6];obtain⟨o,ho,bJ,hd,hg⟩:=m60;refine fw ho (cg hg) rfl (λaa _=>⟨_,N6 t aa bJ (cK t24) (cK t23),ig⟩) ?_
  rw[hd];have dn:pZ bk p6 p7 (aA t (φ 25) (.bool (decide ((n:Int) - ((r+1:Nat):Int)<n)))):=hs.put ⟨by omega,by omega,by omega⟩
  have DD:(aA t (φ 25) (.bool (decide ((n:Int) - ((r+1:Nat):Int)<n)))).getD 25 ω=.bool θ:=
   (oA (by rw[hs.sz];omega)).trans (congrArg Value.bool (by have:(n:Int) - ((r+1:Nat):Int)<n:=by omega
                                                            exact decide_eq_true this))
  have DC:(aA t (φ 25) (.bool (decide ((n:Int) - ((r+1:Nat):Int)<n))))[23]?=φ (ξ κ n):=(bO (by omega)).trans t23
  have I7:(aA t (φ 25) (.bool (decide ((n:Int) - ((r+1:Nat):Int)<n))))[24]?=φ (ξ κ ((n:Int) - ((r+1:Nat):Int))):=(bO (by omega)).trans t24
  revert dn DD DC I7
  generalize aA t (φ 25) (.bool (decide ((n:Int) - ((r+1:Nat):Int)<n)))=t1;intro dn DD DC I7;obtain⟨i,hi⟩:∃i,i=n - (r+1):=⟨_,rfl⟩
  have bG:(n:Int) - ((r+1:Nat):Int)=(i:Int):=by omega
  rw[bG] at I7;refine oP (mM (G4 (q:=θ) DD ?_))
  refine U3 (mM (G3 (mM (nS ?_))))
  rw[s7];obtain⟨o,ho,bJ,hd,hg⟩:=m70;have e24:aX t1 (.tmp 24)=ξ κ i:=cK I7;refine fw ho (cg hg) rfl (λaa _=>⟨_,(run_move t1 aa bJ).trans (by rw[e24]),ig⟩) ?_
  rw[hd];have fA:pZ bk p6 p7 (aA t1 (φ 26) (ξ κ i)):=dn.put ⟨by omega,by omega,by omega⟩
  have Tf:(aA t1 (φ 26) (ξ κ i))[26]?=φ (ξ κ i):=jB (by rw[dn.sz];omega)
  have Td:(aA t1 (φ 26) (ξ κ i))[23]?=φ (ξ κ n):=(bO (by omega)).trans DC
  have Te:(aA t1 (φ 26) (ξ κ i))[24]?=φ (ξ κ i):=(bO (by omega)).trans I7
  revert fA Tf Td Te
  generalize aA t1 (φ 26) (ξ κ i)=t2;intro fA Tf Td Te;obtain⟨o,ho,bJ,hd,hg⟩:=m71;obtain⟨ti,sg,hz,oH⟩:=Ng;refine G5 ho (cg hg) rfl λaa hk=>?_
  have ld:=hS.keep hk;refine⟨_,_,_,.inl (Ud t2 bJ sg hz rfl aa),Dk,?_⟩
  rw[hd];have Jd:=ld.alloc (Ξ #[ξ κ 0] 3);obtain⟨pk,Gj⟩:∃pk,pk=aa.heap.size:=⟨_,rfl⟩
  have D3:∀a,¬ρ a pk:=λa ha=>by have:=ld.lw.core.du a pk ha;omega
  have FW:(M.grow aa (aa.alloc (Ξ #[ξ κ 0] 3))).O pk:=.inr ⟨by omega,by rw[kS];omega⟩
  have RJ:(aa.alloc (Ξ #[ξ κ 0] 3)).heap[pk]?=φ (Ξ #[ξ κ 0] 3):=by rw[Gj];exact qa
  rw[<-Gj];have nY:pZ bk p6 p7 (aA t2 (φ 8) (π (φ ⟨pk,0,ν⟩))):=fA.put ⟨by omega,by omega,by omega⟩
  have q8:(aA t2 (φ 8) (π (φ ⟨pk,0,ν⟩)))[8]?=φ (π (φ ⟨pk,0,ν⟩)):=jB (by rw[fA.sz];omega)
  have T5:(aA t2 (φ 8) (π (φ ⟨pk,0,ν⟩)))[26]?=φ (ξ κ i):=(bO (by omega)).trans Tf
  have T3:(aA t2 (φ 8) (π (φ ⟨pk,0,ν⟩)))[23]?=φ (ξ κ n):=(bO (by omega)).trans Td
  have T4:(aA t2 (φ 8) (π (φ ⟨pk,0,ν⟩)))[24]?=φ (ξ κ i):=(bO (by omega)).trans Te
  revert nY q8 T5 T3 T4
  generalize aA t2 (φ 8) (π (φ ⟨pk,0,ν⟩))=t3;intro nY q8 T5 T3 T4
  revert Jd FW RJ
  generalize M.grow aa (aa.alloc (Ξ #[ξ κ 0] 3))=M2;generalize aa.alloc (Ξ #[ξ κ 0] 3)=w2;intro Jd FW RJ;obtain⟨o,ho,bJ,hd,hg⟩:=m72;refine G5 ho (cg hg) rfl λqJ pA=>?_
  have Rg:=Jd.keep pA;have YD:=(pA.kept pk (.inl FW)).trans RJ;refine⟨ω,pC qJ pk (Ξ #[ξ κ i] 3 (0,0)),_,.inr ⟨rfl,Ug t3 bJ (cK q8) (cK T5) rfl rfl sg oH qJ YD⟩,QE FW,?_⟩
  rw[hd,Mg];have au:∀q,M2.has q->q≠pk->(pC qJ pk (Ξ #[ξ κ i] 3 (0,0))).heap[q]?=qJ.heap[q]?:=λq _ hq=>CG (Ne.symm hq)
  have akW:pk<qJ.heap.size:=(Ϝ.1 YD).1
  have Cg:(pC qJ pk (Ξ #[ξ κ i] 3 (0,0))).heap[pk]?=φ (Ξ #[ξ κ i] 3 (0,0)):=Un akW;have zR:NB<=pk:=by have:=ld.nb;omega
  have mQ:p6≠pk:=by have:=ld.low _ ld.m6;omega
  have tG:p7≠pk:=by have:=ld.low _ ld.m7;omega
  have uO:bk≠pk:=by have:=ld.low _ ld.mb;omega
  have Rh:(St b ρ wl pv bv tv B lb l6 l7 bk p6 p7 cN cL n NB wB) M2 (pC qJ pk (Ξ #[ξ κ i] 3 (0,0))):=by
   obtain⟨⟨core,nU,nb,has,fixed,rb,r6,r7,hB,book,c0,c1,c2,c3⟩,low,m6,m7,mb,h6,h7,⟨bc,e,fb,A,c,ag,ak⟩,old,nJ,nc,lc⟩:=Rg;exact⟨⟨zJ core (by rw[xB];omega) λa q hq=>au q (has a q hq) (by rintro rfl;exact D3 a hq),nU,nb,has,fixed,rb,r6,r7,hB,book,c0,c1,c2,c3⟩,λq hq=>by rw[xB];exact low q hq,m6,m7,mb,(au _ m6 mQ).trans h6,(au _ m7 tG).trans h7,
    ⟨bc,e,fb,A,c,(au _ mb uO).trans ag,ak⟩,λq hq=>⟨(old q hq).1,(au q (old q hq).1 (by omega)).trans (old q hq).2⟩,by rw[xB];exact nJ,nc,by rw[xB];exact lc⟩
  revert Rh Cg
  generalize pC qJ pk (Ξ #[ξ κ i] 3 (0,0))=w4;intro Cg Rh;refine oP (nS ?_)
  rw[s8];obtain⟨o,ho,bJ,hd,hg⟩:=m80;refine fw ho (cg hg) rfl (λaa _=>⟨_,(Ue _ aa bJ).trans (by rw[vs4 (t:=aA t3 ν ω) nY.t7 nY.t1 q8 nY.t6]),ig⟩) ?_
  rw[hd];have Q1:(aA t3 (φ 27) (.func (.func 120) #[] #[π (φ ⟨p7,0,ν⟩),π (φ ⟨bk,0,ν⟩),π (φ ⟨pk,0,ν⟩),π (φ ⟨p6,0,ν⟩)])).getD 27 ω=.func (.func 120) #[] #[π (φ ⟨p7,0,ν⟩),π (φ ⟨bk,0,ν⟩),π (φ ⟨pk,0,ν⟩),π (φ ⟨p6,0,ν⟩)]:=oA (by rw[nY.sz];omega)
  have vN:pZ bk p6 p7 (aA t3 (φ 27) (.func (.func 120) #[] #[π (φ ⟨p7,0,ν⟩),π (φ ⟨bk,0,ν⟩),π (φ ⟨pk,0,ν⟩),π (φ ⟨p6,0,ν⟩)])):=nY.put ⟨by omega,by omega,by omega⟩
  have z23:(aA t3 (φ 27) (.func (.func 120) #[] #[π (φ ⟨p7,0,ν⟩),π (φ ⟨bk,0,ν⟩),π (φ ⟨pk,0,ν⟩),π (φ ⟨p6,0,ν⟩)]))[23]?=φ (ξ κ n):=(bO (by omega)).trans T3
  have z24:(aA t3 (φ 27) (.func (.func 120) #[] #[π (φ ⟨p7,0,ν⟩),π (φ ⟨bk,0,ν⟩),π (φ ⟨pk,0,ν⟩),π (φ ⟨p6,0,ν⟩)]))[24]?=φ (ξ κ i):=(bO (by omega)).trans T4
  show Walk ϋ θ (StopA (Pm.mk ϋ n N0 cL cN cR xF End) (r+1)) M2 (rg 38 (aA t3 (φ 27) (.func (.func 120) #[] #[π (φ ⟨p7,0,ν⟩),π (φ ⟨bk,0,ν⟩),π (φ ⟨pk,0,ν⟩),π (φ ⟨p6,0,ν⟩)])) _ _ _ _) w4
  revert Q1 vN z23 z24
  generalize aA t3 (φ 27) (.func (.func 120) #[] #[π (φ ⟨p7,0,ν⟩),π (φ ⟨bk,0,ν⟩),π (φ ⟨pk,0,ν⟩),π (φ ⟨p6,0,ν⟩)])=t4;intro Q1 vN z23 z24;refine .stop λatB Y3=>?_
  obtain⟨o,ho,bJ,hd,hg⟩:=m81;have Yr:=Rh.keep Y3;have hw5:=(Y3.kept pk (.inl FW)).trans Cg;refine⟨rfl,_,_,acm ho (cg hg) rfl (by simp) (abJ t4 atB bJ Q1),rfl,rfl,?_,?_⟩
  ·show Walk ϋ χ (W1 (Pm.mk ϋ n N0 cL cN cR xF End) (n - (r+1))) _ _ _
   rw[<-hi];exact arQ B0 ae Yr (.inl FW) hw5 D3
  ·rw[hd]
   refine oP (U0 (nS ?_))
   rw[s9];obtain⟨o,ho,bJ,hd,hg⟩:=m90;refine fw ho (cg hg) rfl (λaa _=>⟨_,abG t4 aa bJ (cK z24) rfl,ig⟩) ?_
   rw[hd];obtain⟨o,ho,bJ,hd,hg⟩:=m91;have J3:ϗ.wrap ((i:Int)+1)=(n:Int) - r:=by rw[wrap_small (by omega) (by omega)];omega
   rw[J3];have Gq:pZ bk p6 p7 (aA t4 (φ 28) (ξ κ ((n:Int) - r))):=vN.put ⟨by omega,by omega,by omega⟩
   have y28:aX (aA t4 (φ 28) (ξ κ ((n:Int) - r))) (.tmp 28)=ξ κ ((n:Int) - r):=oA (by rw[vN.sz];omega)
   refine fw ho (cg hg) rfl (λaa _=>⟨_,(run_move _ aa bJ).trans (congrArg (λv=>((Result.ok (Next.value v) aa,#[]):Result Next×Array Event)) y28),ig⟩) ?_
   rw[hd];refine oP (U1 ?_)
   exact ih _ _ _ (by omega) (Gq.put ⟨by omega,by omega,by omega⟩) ((bO (by omega)).trans ((bO (by omega)).trans z23)) (jB (by have:=Gq.sz;show 24<(aA t4 (φ 28) (ξ κ ((n:Int) - r))).size;omega)) Yr.shared
end
def QN(ρ:Ren)(t:Array υ):∃u:Array υ,aV ρ u t:=by
 refine⟨Ajv λi:Fin t.size=>ã (ye ρ t[i.1]),by simp,λi h1 h2=>?_⟩
 rw[Ajw];exact É (ye ρ t[i])
def KG{u:Array υ}(h:aV ρ u t)(hv:ah ρ v v')(ht:t[i]?=φ v'):aV ρ (u.setIfInBounds i v) t:=by
 refine⟨by simp[h.1],λj h1 h2=>?_⟩
 rw[Array.getElem_setIfInBounds (by simpa using h1)]
 split
 ·rename_i e
  subst e;rw[â h2] at ht
  rw[Ϟ ht];exact hv
 ·exact h.2 j (by simpa using h1) h2
def aqw(t:Array υ)(w:Ψ)(ho:o.op=.buildSlice 33 1 #[(0,.tmp n)])(hn:t.getD n ω=v)(hv:v.cells=#[v]):
 (execOp (aX t) o).runT ϋ w #[]=(.ok (.value (ζ (φ ⟨w.heap.size,0,ν⟩) 1 1)) (w.alloc (Ξ #[v] 3)),#[]):=by
 have e1:aX t (.tmp n)=v:=hn;obtain⟨i,hi,hz,hs⟩:=Ng;have hu:ϋ.underlying 33=φ (.slice 3):=rfl;have hb:(Instr.buildSlice 33 1 #[(0,v)]).runT ϋ w #[]=(.ok (ζ (φ ⟨w.heap.size,0,ν⟩) 1 1) (w.alloc (Ξ #[v] 3)),#[]):=by
  have e3:¬ (1 * 1>2 ^ 24):=by decide
  have e4:¬ (1 * 1=0):=by decide
  simp only[Instr.buildSlice,Go.underlying,Go.program,Go.typeInfo,Go.sizeOf,Go.zeroValue,bind,ϫ,Ϧ,pure,hu,hi,hs,hz,if_neg e3,if_neg e4,newRow,newObj,World.alloc];generalize hq:Instr.fill _ _ _=q;have h2:q=φ #[v]:=by
   have e2:Array.range (1 * 1)=#[0]:=rfl;rw[<-hq,e2];simp[Instr.fill,hv]
  rw[h2];rfl
 unfold execOp;rw[ho]
 have e5:(#[(0,Operand.tmp n)].map λ(i,x)=>(i,aX t x))=#[(0,v)]:=by simp only[ū,ď,Ŝ,e1]
 show((Instr.buildSlice 33 1 (#[(0,Operand.tmp n)].map λ(i,x)=>(i,aX t x))).bind λv=>Ŋ (Next.value v)).runT ϋ w #[]=_
 rw[e5,vY,hb];rfl
def abq(hW:bX C ρ wl w){base NR:Nat}{xs:List Int}(hv:ah ρ v v')(h:wl.ownsRow base 3 1 v n (xs.map (ξ κ)))(hn:n≠0)(hb:∀a q,base<=a->ρ a q->NR<=q):
 w.ownsRow NR 3 1 v' n (xs.map (ξ κ))/\∃a q cap,v=ζ (φ ⟨a,0,ν⟩) n cap/\v'=ζ (φ ⟨q,0,ν⟩) n cap/\ρ a q/\∃cur,wl.heap[a]?=φ (.cells cur 3 (0,0))/\cur.size≠0:=by
 obtain⟨hl,hc⟩:=h;rcases hc with⟨_,rfl⟩ | ⟨g,cap,cur,rfl,zV,hg,gY,rZ,mR,yE⟩
 ·exact absurd rfl hn
 ·cases hv with
  |sliceDead=>exact absurd rfl hn
  |slice _ _ ha=>
   rename_i q;obtain⟨qb,qo,qs⟩:=q;obtain⟨h1,h2,h3⟩:=ha;simp only at h1 h2 h3;subst h2 h3;obtain⟨o',uU,hr⟩:=hW.obj _ _ _ h1 hg;cases hr with
   | @cells _ c' _ _ ba hc hf=>
     have bY:ba=(0,0):=by
      rcases hf with hf|hf
      ·exact hf
      ·obtain⟨_,hf⟩:=hf
       have:cur.size<=0:=hf;omega
     subst bY;refine⟨⟨hl,.inr ⟨qb,cap,c',rfl,hb _ _ zV h1,uU,gY,rZ,hc.1.symm.trans mR,?_⟩⟩,_,_,_,rfl,rfl,h1,cur,hg,by omega⟩
     apply List.ext_getElem?;intro j;rw[<-yE];rw[Ž,Ž]
     split
     ·rename_i hj
      rw[Ĩ,Ĩ]
      rcases hc.get? j with⟨e1,e2⟩ | ⟨x,y,e1,e2,e3⟩
      ·rw[e1,e2]
      ·rw[e1,e2]
       have hx:(cur.toList.take (n * 1))[j]?=φ x:=by rw[Ž,if_pos hj,Ĩ,e1]
       rw[yE] at hx;rw[List.getElem?_map] at hx
       obtain⟨z,_,rfl⟩:=Ă.1 hx;cases e3;rfl
     ·rfl
def anA:∃o,xA[0]?=φ o/\o.op=.move (.tmp 9)/\o.dst=φ 34/\o.guard=ν:=⟨_,rfl,rfl,rfl,rfl⟩
def anB:∃o,xA[1]?=φ o/\o.op=.move (.tmp 10)/\o.dst=φ 35/\o.guard=ν:=⟨_,rfl,rfl,rfl,rfl⟩
def anC:∃o,xA[2]?=φ o/\o.op=.buildSlice 33 1 #[(0,.tmp 35)]/\o.dst=φ 36/\o.guard=ν:=⟨_,rfl,rfl,rfl,rfl⟩
def anD:∃o,xA[3]?=φ o/\o.op=.call {callee:=.builtin .append,args:=#[.tmp 34,.tmp 36],argTypes:=#[33,33]}/\o.dst=φ 37/\o.guard=ν:=⟨_,rfl,rfl,rfl,rfl⟩
def anE:∃o,xA[4]?=φ o/\o.op=.assign (.tmp 37)/\o.dst=φ 9/\o.guard=ν:=⟨_,rfl,rfl,rfl,rfl⟩
def s15:xA.size=5:=rfl
def apw{id:Nat}{d:Bool}(h:C0.clean (.region id ops d))(ho:ops[i]?=φ o):qw ϋ G0 o=θ:=by
 have h:cy ϋ G0 (.region id ops d)=θ:=h;have h:ops.all (qw ϋ G0)=θ:=by
  unfold cy at h;simpa using h
 exact Ě.1 h o (Ļ ho)
def aqu{P:Ϙ}{tl:Array υ}{w aa:Ψ}{v v' x:υ}(ho:o.op=.call {callee:=.builtin .append,args:=#[.tmp 34,.tmp 36],argTypes:=#[33,33]})(h34:tl.getD 34 ω=v)(h36:tl.getD 36 ω=x)
 (hr:(Builtin.append_ #[33,33] o.type #[v,x]).run P w=.ok v' aa):(execOp (aX tl) o).run P w=.ok (.value v') aa:=by
 have e1:aX tl (.tmp 34)=v:=h34;have e2:aX tl (.tmp 36)=x:=h36;unfold execOp;rw[ho]
 simp only[resolve,ū,ď,Ŝ,e1,e2];show((Builtin.append_ #[33,33] o.type #[v,x]).bind λv=>Ŋ (Next.value v)).run P w=_
 rw[run_bind,hr];rfl
section
variable {b:an}{ρ:Ren}{wl wB:Ψ}{pv bv tv:υ}{B lb l6 l7 bk p6 p7 cN cL n N0 NB NR:Nat}
def St.to2{M M':Sim.ay}(h:(St b ρ wl pv bv tv B lb l6 l7 bk p6 p7 cN cL n NB wB) M w)(hr:∀a q,ρ a q->q<NR)(hN:NB<=NR)(hs:w.heap.size<=bB.heap.size)(hk:∀q,M.has q->q<NR->bB.heap[q]?=w.heap[q]?)(hM:∀q,M.has q->M'.has q)(hl:∀q,M'.has q->q<bB.heap.size)(hc:¬M'.has cN/\¬M'.has cL):(St b ρ wl pv bv tv B lb l6 l7 bk p6 p7 cN cL n NB wB) M' bB:=by
 obtain⟨⟨core,nU,nb,has,fixed,rb,r6,r7,hB,book,c0,c1,c2,c3⟩,low,m6,m7,mb,h6,h7,⟨bc,e,fb,A,c,ag,ak⟩,old,nJ,nc,lc⟩:=h;exact⟨⟨zJ core hs λa q hq=>hk q (has a q hq) (hr a q hq),nU,nb,λa q hq=>hM q (has a q hq),fixed,rb,r6,r7,hB,book,c0,c1,c2,c3⟩,hl,hM _ m6,hM _ m7,hM _ mb,(hk _ m6 (hr _ _ r6)).trans h6,(hk _ m7 (hr _ _ r7)).trans h7,⟨bc,e,fb,A,c,(hk _ mb (hr _ _ rb)).trans ag,ak⟩,
  λq hq=>⟨hM q (old q hq).1,(hk q (old q hq).1 (by omega)).trans (old q hq).2⟩,ϣ nJ hs,hc,ϟ lc.1 hs,ϟ lc.2 hs⟩
structure RI(NR:Nat)(aB:List Nat)(t:Array υ)(M:Sim.ay)(w:Ψ):Prop where
 own:∃ov,t[9]?=φ ov/\w.ownsRow NR 3 1 ov aB.length ((aB.map λi:Nat=>(i:Int)).map (ξ κ))/\∀g k c,ov=ζ (φ g) k c->M.O g.block
 le:NR<=w.heap.size
 nz:aB=[]->t[9]?=φ (ζ ν 0 0)
def TW{base n:Nat}(h:w.ownsRow base 3 1 v n xs)(hk:∀g k c,v=ζ (φ g) k c->aa.heap[g.block]?=w.heap[g.block]?):aa.ownsRow base 3 1 v n xs:=by
 refine⟨h.1,?_⟩
 rcases h.2 with h0| ⟨g,cap,cur,rfl,zV,hg,h4⟩
 ·exact .inl h0
 ·exact .inr ⟨g,cap,cur,rfl,zV,(hk _ _ _ rfl).trans hg,h4⟩
def RI.keep{M:Sim.ay}(h:RI NR aB t M w)(k:bQ M w aa)(ht:t'[9]?=t[9]?):RI NR aB t' M aa:=by
 obtain⟨⟨ov,h1,h2,h3⟩,hle,hz⟩:=h;exact⟨⟨ov,ht.trans h1,TW h2 λg k' c e=>k.kept _ (.inl (h3 g k' c e)),h3⟩,ϣ hle k.size,λe=>ht.trans (hz e)⟩
def Ua(ρ:Ren)(c:Array υ)(m:Nat)(xs:List Int)(h:c.toList.take (m * 1)=xs.map (ξ κ)):∃u:Array υ,aV ρ u c/\u.toList.take (m * 1)=xs.map (ξ κ):=by
 have key:∀i:Fin c.size,∃u,ah ρ u c[i.1]/\(i.1<m->u=c[i.1]):=by
  intro i;by_cases hi:i.1<m
  ·have hx:(c.toList.take (m * 1))[i.1]?=φ c[i.1]:=by
    rw[Ž,if_pos (by omega),Ĩ,â i.2]
   rw[h,List.getElem?_map] at hx
   obtain⟨z,_,e⟩:=Ă.1 hx;exact⟨c[i.1],by rw[<-e];exact .int _ _,λ_=>rfl⟩
  ·obtain⟨u,hu⟩:=ye ρ c[i.1]
   exact⟨u,hu,λh=>absurd h hi⟩
 refine⟨Ajv λi=>ã (key i),⟨by simp,λi h1 h2=>?_⟩,?_⟩
 ·rw[Ajw]
  exact(É (key ⟨i,h2⟩)).1
 ·rw[<-h]
  apply List.ext_getElem?;intro j;rw[Ž,Ž]
  split
  ·rename_i hj
   rw[Ĩ,Ĩ,Ajx]
   split
   ·rename_i aj
    rw[(É (key ⟨j,aj⟩)).2 (by simpa using hj),â aj]
   ·rename_i aj
    rw[Ô (by omega)]
  ·rfl
end
def alP:∃i,ϋ.info? 3=φ i/\i.zero=φ (ξ κ 0)/\i.size=1/\i.bytes=8:=⟨_,rfl,rfl,rfl,rfl⟩
def ints(aB:List Nat):List Int:=aB.map λi:Nat=>(i:Int)
def al0(aB:List Nat)(i:Nat):(ints aB).map (ξ κ)++ [ξ κ i]=(ints (aB++ [i])).map (ξ κ):=by simp[ints]
section
variable {b:an}{ρ:Ren}{wl wB:Ψ}{pv bv tv:υ}{B lb l6 l7 bk p6 p7 cN cL n N0 NB NR:Nat}
def amY{M:Sim.ay}(h:(St b ρ wl pv bv tv B lb l6 l7 bk p6 p7 cN cL n NB wB) M w)(hr:∀a q,ρ a q->q<NR)(ho:w.ownsRow NR 3 1 ov aB.length ((ints aB).map (ξ κ)))(hO:∀g k c,ov=ζ (φ g) k c->M.O g.block/\g.block≠q)
 (hq:w.heap[q]?=φ (Ξ #[ξ κ i] 3))(Gk:M.O q)(MX:NR<=q):
 ∃(bP:Ren) (nh:Ψ) (ol:υ) (lq:Nat),bX C0 bP nh w/\ρ.le bP/\(∀a p,bP a p->ρ a p\/(wl.heap.size<=a/\NR<=p/\M.O p))/\ah bP ol ov/\nh.ownsRow wl.heap.size 3 1 ol aB.length ((ints aB).map (ξ κ))/\bP lq q/\
  nh.heap[lq]?=φ (Ξ #[ξ κ i] 3)/\(∀(a:Nat) (o:Obj),wl.heap[a]?=φ o->nh.heap[a]?=φ o)/\wl.heap.size<=nh.heap.size:=by
 have fJ:=Bl (o:=.cells #[ξ κ i] 3) h.lw.core hq (λa ha=>by have:=hr a q ha;omega) (.cells 3 ⟨rfl,λj h1 h2=>by
  have:j=0:=by simp at h1;omega
  subst this;exact .int _ _⟩ (.inl rfl))
 rcases ho.2 with⟨rfl,h0⟩ | ⟨g,cap,cur,rfl,zV,hg,gY,rZ,mR,yE⟩
 ·refine⟨_,_,ζ ν 0 0,_,fJ,Dp _ _ _,?_,.sliceNone 0 0,⟨ho.1,.inl ⟨rfl,h0⟩⟩,.inr ⟨rfl,rfl⟩,qa,λa o ha=>(qO (Ϝ.1 ha).1).trans ha,by rw[kS];omega⟩
  rintro a p (ha| ⟨rfl,rfl⟩)
  ·exact .inl ha
  ·exact .inr ⟨ϊ _,MX,Gk⟩
 ·obtain⟨YP,YQ⟩:=hO _ _ _ rfl
  simp only at YP YQ;obtain⟨u,hu,J0⟩:=Ua (ext (ext ρ wl.heap.size q) (wl.alloc (Ξ #[ξ κ i] 3)).heap.size g) cur aB.length (ints aB) yE;have kU:=Bl (o:=.cells u 3) fJ hg (λa ha=>by
   rcases ha with ha| ⟨_,e⟩
   ·have:=hr a g ha;omega
   ·exact YQ e) (.cells 3 hu (.inl rfl))
  refine⟨_,_,ζ (φ ⟨(wl.alloc (Ξ #[ξ κ i] 3)).heap.size,0,ν⟩) aB.length cap,wl.heap.size,kU,Ren.le_trans (Dp _ _ _) (Dp _ _ _),?_,.slice _ _ ⟨.inr ⟨rfl,rfl⟩,rfl,rfl⟩,⟨ho.1,.inr ⟨_,cap,u,rfl,by rw[kS];omega,qa,gY,rZ,hu.1.trans mR,J0⟩⟩,.inl (.inr ⟨rfl,rfl⟩),(qO (by rw[kS];omega)).trans qa,
   λa o ha=>(qO (by rw[kS];have:=(Ϝ.1 ha).1;omega)).trans ((qO (Ϝ.1 ha).1).trans ha),by rw[kS,kS];omega⟩
  rintro a p ((ha| ⟨rfl,rfl⟩) | ⟨rfl,rfl⟩)
  ·exact .inl ha
  ·exact .inr ⟨ϊ _,MX,Gk⟩
  ·exact .inr ⟨by rw[kS];omega,zV,YP⟩
def aiI{c:Array υ}(hc:c.size≠0):¬rM (.cells c 3 (0,0)):=by
 rintro⟨_,h⟩;have h:c.size<=0:=h;omega
def atj{Stop:Sim.ay->ϐ->Ψ->Prop}{M:Sim.ay}(h:(St b ρ wl pv bv tv B lb l6 l7 bk p6 p7 cN cL n NB wB) M w)(hr:∀a q,ρ a q->q<NR)(hN:NB<=NR)(Jc:NR<=w.heap.size)(BM:aB.length<=1000)(ho:w.ownsRow NR 3 1 ov aB.length ((ints aB).map (ξ κ)))(hO:∀g k c,ov=ζ (φ g) k c->M.O g.block/\g.block≠q)
 (hq:w.heap[q]?=φ (Ξ #[ξ κ i] 3))(Gk:M.O q)(MX:NR<=q)(t34:t[34]?=φ ov)(t36:t[36]?=φ (ζ (φ ⟨q,0,ν⟩) 1 1))
 (cont:∀v' bT aC,(St b ρ wl pv bv tv B lb l6 l7 bk p6 p7 cN cL n NB wB) bT aC->aC.ownsRow NR 3 1 v' (aB++ [i]).length ((ints (aB++ [i])).map (ξ κ))->(∀g k c,v'=ζ (φ g) k c->bT.O g.block)->NR<=aC.heap.size->Walk ϋ main Stop bT (rg 38 (aA t (φ 37) v') (.inRegion xA rest::k) [] .normal cs) aC):
 Walk ϋ main Stop M (rg 38 t (.inRegion xA (3::rest)::k) [] .normal cs) w:=by
 obtain⟨bP,nh,ol,lq,hW,hle,hinv,hv,aK,hlq,hcq,hold,aL⟩:=amY h hr ho hO hq Gk MX;obtain⟨u0,Ek⟩:=QN bP t;have SP:=KG Ek hv t34;have hu2:=KG SP (i:=36) (v:=ζ (φ ⟨lq,0,ν⟩) 1 1) (v':=ζ (φ ⟨q,0,ν⟩) 1 1) (.slice 1 1 ⟨hlq,rfl,rfl⟩) t36;have ak7:34<t.size:=(Ϝ.1 t34).1
 have ak8:36<t.size:=(Ϝ.1 t36).1
 have l36:((u0.setIfInBounds 34 ol).setIfInBounds 36 (ζ (φ ⟨lq,0,ν⟩) 1 1)).getD 36 ω=ζ (φ ⟨lq,0,ν⟩) 1 1:=cK (jB (by rw[ü,Ek.1];exact ak8))
 have l34:((u0.setIfInBounds 34 ol).setIfInBounds 36 (ζ (φ ⟨lq,0,ν⟩) 1 1)).getD 34 ω=ol:=cK ((bO (by omega)).trans (jB (by rw[Ek.1];exact ak7)))
 obtain⟨o,uU,ae,hd,hg⟩:=anD;obtain⟨ti,sg,hz,hs,Ry⟩:=alP;have hf:Fits M bP nh:=by
  intro a p hp;rcases hinv a p hp with hp| ⟨_,_,hp⟩
  ·obtain⟨o,h1,h2⟩:=h.lw.fixed a p hp
   rcases h.lw.has a p hp with hx|hx
   ·exact .inl hx
   ·exact .inr ⟨hx,o,hold a o h1,h2⟩
  ·exact .inl hp
 refine ac1 (M:=M) (ρ:=bP) (wl:=nh) (QL:=λv aa=>aa.ownsRow wl.heap.size 3 1 v (aB++ [i]).length ((ints (aB++ [i])).map (ξ κ))) L7 uU (cg hg) rfl (apw afW uU) hu2 hW (λg uQ=>?_) hf h.low (λT=>?_) ?_
 ·have:g=0:=by simpa [G0] using uQ
  subst this;exact hle _ _ h.lw.nU
 ·have aq:(bh nh T).cell? ⟨lq,0,ν⟩=φ (ξ κ i):=rV (w:=bh nh T) hcq rfl rfl
  obtain⟨v',w',h1,h2,h3,h4⟩:=run_append_own (P:=tw ϋ (@Tw.F pa)) (w:=bh nh T) wl.heap.size 33 o.type 3 ti (ξ κ 0) 1 8 (by rw[pT];rfl) (by rw[rI];exact sg) hz hs Ry rfl (by omega) ol aB.length ((ints aB).map (ξ κ)) aK ⟨lq,0,ν⟩ 1 1 [ξ κ i] rfl
   (λj u hu=>by
     cases j with
     |zero=>simp at hu;subst hu;exact aq
     |succ j=>simp at hu) (λu hu=>by simp at hu;subst hu;rfl) (by unfold maxLen;omega) (by omega) aL
  refine⟨v',w',aqu ae l34 l36 h1,?_⟩
  rw[al0] at h2;rw[List.length_append];exact h2
 ·intro v v' CQ aI bT aC Af Ce fJ bZ oY JF
  have hb:∀a p,wl.heap.size<=a->aI a p->NR<=p:=by
   intro a p ha hp;rcases bZ.new a p hp with hp| ⟨_,hp⟩
   ·rcases hinv a p hp with hp| ⟨_,hp,_⟩
    ·have:=h.lw.core.fx a p hp;omega
    ·exact hp
   ·omega
  obtain⟨cO,a1,q1,at7,rfl,rfl,Ah,aug,mG,qk⟩:=abq fJ Ce Af (by simp) hb
  have kept:∀p,M.has p->p<NR->aC.heap[p]?=w.heap[p]?:=by
   intro p hp aj;refine bZ.oJ p hp λa ha=>?_
   rcases hinv a p ha with ha| ⟨_,hx,_⟩
   ·obtain⟨o,h1,h2⟩:=h.lw.fixed a p ha
    exact⟨o,hold a o h1,h2⟩
   ·omega
  have nc:∀c,¬M.has c->c<w.heap.size->¬bT.has c:=by
   intro c h1 h2 hx;rcases hx with hx|hx
   ·rcases bZ.On c hx with hx| ⟨hx,_⟩
    ·exact h1 (.inl hx)
    ·omega
   ·rw[bZ.R] at hx;exact h1 (.inr hx)
  have ld:(St b ρ wl pv bv tv B lb l6 l7 bk p6 p7 cN cL n NB wB) bT aC:=h.to2 hr hN bZ.ng kept (λp hp=>ay.zT bZ.R bZ.O hp) JF ⟨nc _ h.nc.1 h.lc.1,nc _ h.nc.2 h.lc.2⟩
  rw[hd];refine cont _ bT aC ld cO (λg k c e=>?_) (ϣ Jc bZ.ng)
  cases e;rcases oY _ _ Ah with hx| ⟨_,o,MT,fo⟩
  ·exact hx
  ·rw[mG] at MT;cases MT
   exact absurd fo (aiI qk)
end
def Iw:ϑ:=aG wK
def Lv:wK=.seq (.region 13 Au χ) Iw:=rfl
def VY:Iw=.seq (.cond (.tmp 32) .skip (.exit 2)) (.block 3 (.seq (.region 14 NN χ) (.region 15 xA χ))):=rfl
section
variable {b:an}{ρ:Ren}{wl wB:Ψ}{pv bv tv:υ}{B lb l6 l7 bk p6 p7 cN cL n N0 NB NR:Nat}{cR:Nat->Bool}{cs:List ϝ}
def C5(NR NB:Nat)(wB:Ψ)(cs:List ϝ)(aB:List Nat)(M:Sim.ay)(g:ϐ)(w:Ψ):Prop:=
 ∃(t:Array υ) (z:υ),g=rg 38 t [.inRegion Au [1],.code Iw,.inLoop wK,.inBlock 2,.code yO] [] .normal cs/\t.size=41/\t[31]?=φ (μ #[z,.bool χ])/\RI NR aB t M w/\
  (∀q,q<NB->w.heap[q]?=wB.heap[q]?)/\NB<=w.heap.size
def ab3:Ϩ (rg 38 t (.inRegion Au [0,1]::k) [] .normal cs) (recvd θ v ok)=rg 38 (t.setIfInBounds 31 (μ #[v,.bool ok])) (.inRegion Au [1]::k) [] .normal cs:=by
 obtain⟨o,ho,ae,hd,hg⟩:=Ty;simp[Ϩ,Ē,ho,hd,recvd]
def Xy{M:Sim.ay}(hs:t.size=41)(hR:RI NR aB t M w)(hS:(St b ρ wl pv bv tv B lb l6 l7 bk p6 p7 cN cL n NB wB) M w):
 C5 NR NB wB cs aB M (Ϩ (rg 38 t (.inRegion Au [0,1]:: [.code Iw,.inLoop wK,.inBlock 2,.code yO]) [] .normal cs) (recvd θ z χ)) w:=by
 refine⟨_,z,ab3,by simp[hs],jB (by omega),?_,λq hq=>(hS.old q hq).2,hS.nb⟩
 exact hR.keep (bQ.refl M w) (bO (by omega))
def recvs(hr:∀a q,ρ a q->q<NR)(hN:NB<=NR)(hn:n<=1000):∀(f:Nat) (aB:List Nat) (t:Array υ) (M:Sim.ay) (w:Ψ),f+aB.length=n->t.size=41->t[30]?=φ (.chan (φ cN))->RI NR aB t M w->(St b ρ wl pv bv tv B lb l6 l7 bk p6 p7 cN cL n NB wB) M w->
 Walk ϋ θ (tB (Pm.mk ϋ n N0 cL cN cR xF (C5 NR NB wB cs)) f aB) M (rg 38 t [.code wK,.inLoop wK,.inBlock 2,.code yO] [] .normal cs) w:=by
 intro f;induction f with
 |zero=>
  intro aB t M w hf hs t30 hR hS;rw[Lv];refine mM (nS ?_)
  rw[s13];obtain⟨o,ho,ae,hd,hg⟩:=Ty;obtain⟨dir,hu⟩:=GY;obtain⟨ti,sg,hz,_⟩:=Ng;rw[<-Lv];refine .stop λaa hk=>⟨rfl,rfl,_,K0 ho (cg hg) rfl (Uf t aa ae (cK t30) hu sg hz),?_⟩
  exact Xy hs (hR.keep hk rfl) (hS.keep hk)
 |succ f ih=>
  intro aB t M w hf hs t30 hR hS;rw[Lv];refine mM (nS ?_)
  rw[s13];obtain⟨o,ho,ae,hd,hg⟩:=Ty;obtain⟨dir,hu⟩:=GY;obtain⟨ti,sg,hz,_⟩:=Ng;rw[<-Lv];refine .stop λaa hk=>⟨rfl,rfl,_,K0 ho (cg hg) rfl (Uf t aa ae (cK t30) hu sg hz),Xy hs (hR.keep hk rfl) (hS.keep hk),λi hi Zw avf=>?_⟩
  show Walk ϋ θ (tB (Pm.mk ϋ n N0 cL cN cR xF (C5 NR NB wB cs)) f (aB++ [i])) M (Ϩ (rg 38 t (.inRegion Au [0,1]:: [.code Iw,.inLoop wK,.inBlock 2,.code yO]) [] .normal cs) (recvd θ (ξ κ i) θ)) aa;rw[ab3];have uL:=hR.keep (t':=t.setIfInBounds 31 (μ #[ξ κ i,.bool θ])) hk (bO (by omega))
  have ld:=hS.keep hk;have FT:(t.setIfInBounds 31 (μ #[ξ κ i,.bool θ]))[31]?=φ (μ #[ξ κ i,.bool θ]):=jB (by omega)
  have Q3:(t.setIfInBounds 31 (μ #[ξ κ i,.bool θ]))[30]?=φ (.chan (φ cN)):=(bO (by omega)).trans t30
  have dn:(t.setIfInBounds 31 (μ #[ξ κ i,.bool θ])).size=41:=by simp[hs]
  clear hR hS ho ae hd hg
  revert uL ld FT Q3 dn
  generalize t.setIfInBounds 31 (μ #[ξ κ i,.bool θ])=t1;generalize aa=w at *;intro uL ld FT Q3 dn;obtain⟨o,ho,ae,hd,hg⟩:=aaV;refine fw (v:=.bool θ) ho (cg hg) rfl (λaa _=>⟨_,KP t1 aa ae (cK FT) rfl,ig⟩) ?_
  rw[hd];refine oP ?_
  rw[VY];refine mM (G4 (q:=θ) (oA (by omega)) (U3 (G3 (mM (nS ?_)))))
  rw[s14];have Rb:=uL.keep (t':=aA t1 (φ 32) (.bool θ)) (bQ.refl M w) (bO (by omega))
  have S6:(aA t1 (φ 32) (.bool θ))[31]?=φ (μ #[ξ κ i,.bool θ]):=(bO (by omega)).trans FT
  have S5:(aA t1 (φ 32) (.bool θ))[30]?=φ (.chan (φ cN)):=(bO (by omega)).trans Q3
  have js:(aA t1 (φ 32) (.bool θ)).size=41:=by simp[aA,dn]
  revert Rb S6 S5 js
  generalize aA t1 (φ 32) (.bool θ)=t2;intro Rb S6 S5 js;obtain⟨o,ho,ae,hd,hg⟩:=anx;refine fw (v:=ξ κ i) ho (cg hg) rfl (λaa _=>⟨_,KP t2 aa ae (cK S6) rfl,ig⟩) ?_
  rw[hd];have Rc:=Rb.keep (t':=aA t2 (φ 33) (ξ κ i)) (bQ.refl M w) (bO (by omega))
  have Th:aX (aA t2 (φ 33) (ξ κ i)) (.tmp 33)=ξ κ i:=oA (by omega)
  have Ep:(aA t2 (φ 33) (ξ κ i))[30]?=φ (.chan (φ cN)):=(bO (by omega)).trans S5
  have ks:(aA t2 (φ 33) (ξ κ i)).size=41:=by simp[aA,js]
  revert Rc Th Ep ks
  generalize aA t2 (φ 33) (ξ κ i)=t3;intro Rc Th Ep ks;obtain⟨o,ho,ae,hd,hg⟩:=anz;refine fw ho (cg hg) rfl (λaa _=>⟨_,(run_assign t3 aa ae).trans (by rw[Th]),ig⟩) ?_
  rw[hd];have Re:=Rc.keep (t':=aA t3 (φ 10) (ξ κ i)) (bQ.refl M w) (bO (by omega))
  have n10:aX (aA t3 (φ 10) (ξ κ i)) (.tmp 10)=ξ κ i:=oA (by omega)
  have TG:(aA t3 (φ 10) (ξ κ i))[10]?=φ (ξ κ i):=jB (by omega)
  have n30:(aA t3 (φ 10) (ξ κ i))[30]?=φ (.chan (φ cN)):=(bO (by omega)).trans Ep
  have ns:(aA t3 (φ 10) (ξ κ i)).size=41:=by simp[aA,ks]
  revert Re n10 TG n30 ns
  generalize aA t3 (φ 10) (ξ κ i)=t4;intro Re n10 TG n30 ns;obtain⟨⟨ov,u9,aK,hO⟩,hle,_⟩:=Re;refine oP (nS ?_)
  rw[s15];obtain⟨o,ho,ae,hd,hg⟩:=anA;have e9:aX t4 (.tmp 9)=ov:=cK u9;refine fw ho (cg hg) rfl (λaa _=>⟨_,(run_move t4 aa ae).trans (by rw[e9]),ig⟩) ?_
  rw[hd];have PW:(aA t4 (φ 34) ov)[34]?=φ ov:=jB (by omega)
  have PT:aX (aA t4 (φ 34) ov) (.tmp 10)=ξ κ i:=cK ((bO (by omega)).trans TG)
  have PU:(aA t4 (φ 34) ov)[30]?=φ (.chan (φ cN)):=(bO (by omega)).trans n30
  have P4:(aA t4 (φ 34) ov).size=41:=by simp[aA,ns]
  revert PW PT PU P4
  generalize aA t4 (φ 34) ov=t5;intro PW PT PU P4;obtain⟨o,ho,ae,hd,hg⟩:=anB;refine fw ho (cg hg) rfl (λaa _=>⟨_,(run_move t5 aa ae).trans (by rw[PT]),ig⟩) ?_
  rw[hd];have Qk:(aA t5 (φ 35) (ξ κ i))[34]?=φ ov:=(bO (by omega)).trans PW
  have po:(aA t5 (φ 35) (ξ κ i)).getD 35 ω=ξ κ i:=oA (by omega)
  have Qj:(aA t5 (φ 35) (ξ κ i))[30]?=φ (.chan (φ cN)):=(bO (by omega)).trans PU
  have bp:(aA t5 (φ 35) (ξ κ i)).size=41:=by simp[aA,P4]
  revert Qk po Qj bp
  generalize aA t5 (φ 35) (ξ κ i)=t6;intro Qk po Qj bp;obtain⟨o,ho,ae,hd,hg⟩:=anC;refine G5 ho (cg hg) rfl λaa mS=>⟨_,_,_,.inl (aqw t6 aa ae po rfl),Dk,?_⟩
  rw[hd];have Jd:=(ld.keep mS).alloc (Ξ #[ξ κ i] 3);have El:NR<=aa.heap.size:=ϣ hle mS.size;have cO:=TW (aa:=aa.alloc (Ξ #[ξ κ i] 3)) aK λg k c e=>(qO (ϟ (ld.low _ (.inl (hO g k c e))) mS.size)).trans (mS.kept _ (.inl (hO g k c e)))
  have hO1:∀g k c,ov=ζ (φ g) k c->(M.grow aa (aa.alloc (Ξ #[ξ κ i] 3))).O g.block/\g.block≠aa.heap.size:=λg k c e=>⟨.inl (hO g k c e),by have:=ld.low _ (.inl (hO g k c e));have:=mS.size;omega⟩
  have Gk:(M.grow aa (aa.alloc (Ξ #[ξ κ i] 3))).O aa.heap.size:=.inr ⟨ϊ _,by rw[kS];omega⟩
  have d34:(aA t6 (φ 36) (ζ (φ ⟨aa.heap.size,0,ν⟩) 1 1))[34]?=φ ov:=(bO (by omega)).trans Qk
  have d36:(aA t6 (φ 36) (ζ (φ ⟨aa.heap.size,0,ν⟩) 1 1))[36]?=φ (ζ (φ ⟨aa.heap.size,0,ν⟩) 1 1):=jB (by omega)
  have d30:(aA t6 (φ 36) (ζ (φ ⟨aa.heap.size,0,ν⟩) 1 1))[30]?=φ (.chan (φ cN)):=(bO (by omega)).trans Qj
  have ds:(aA t6 (φ 36) (ζ (φ ⟨aa.heap.size,0,ν⟩) 1 1)).size=41:=by simp[aA,bp]
  refine atj Jd hr hN (by rw[kS];omega) (by omega) cO hO1 qa Gk El d34 d36 ?_
  revert d30 ds
  generalize aA t6 (φ 36) (ζ (φ ⟨aa.heap.size,0,ν⟩) 1 1)=t7;intro d30 ds v' wN ao Rg Ae hO3 akx;obtain⟨o,ho,ae,hd,hg⟩:=anE;have e37:aX (aA t7 (φ 37) v') (.tmp 37)=v':=oA (by omega)
  have f30:(aA t7 (φ 37) v')[30]?=φ (.chan (φ cN)):=(bO (by omega)).trans d30
  have fs:(aA t7 (φ 37) v').size=41:=by simp[aA,ds]
  refine fw ho (cg hg) rfl (λaa _=>⟨_,(run_assign (aA t7 (φ 37) v') aa ae).trans (by rw[e37]),ig⟩) ?_
  rw[hd];refine oP (U0 (U1 ?_))
  exact ih (aB++ [i]) _ wN ao (by simp;omega) (by simp[aA,ds]) ((bO (by omega)).trans f30) ⟨⟨v',jB (by omega),Ae,hO3⟩,akx,λe=>by simp at e⟩ Rg
end
end Go.Jn
namespace Go.Jn
open Go Go.Proofs Go.Sim Go.Conc Go.Tw Go.RowKit
attribute [local go_sem] EY EX Oper.semAt_some
def Le(lb:Nat)(e:Exit)(a:Act)(_:Ψ):Prop:=e=.normal/\a.defers=[b6]/\a.tmps.size=41/\a.tmps[1]?=φ (π (φ ⟨lb,0,ν⟩))
section
variable [Go.Tw.aJ]
def ahead(hB:B<=w.heap.size)(ai:bq w B b pv bv tv)(h:cG b 0=0)
 (c0: w.cell? ⟨lb,0,ν⟩=φ (ξ κ b.ab))(c1: w.cell? ⟨lb,1,ν⟩=φ pv)(c2: w.cell? ⟨lb,2,ν⟩=φ bv)(c3: w.cell? ⟨lb,3,ν⟩=φ tv)(ag:lb<w.heap.size):
 ky prog [wM] (Le lb)
  ⟨(x0:: π (φ ⟨lb,0,ν⟩):: ζ ν 0 0:: ξ κ 0::ω::ω::ω::ω::ω::ω::ω::ω::ω::ω::ω::ω::ω::ω::ω::ω::ω::ω::ω::ω::ω::ω::ω::ω::ω::ω::ω::ω::ω::ω::ω::ω::ω::ω::ω::ω::ω:: []).toArray,[b6]⟩ w:=by
 have aE:=ψ (Up hB ai h);obtain⟨A1,n1,k1,rfl,-⟩:=ai.pieces.Φ;obtain⟨A2,n2,k2,rfl,-⟩:=ai.aF.Φ;obtain⟨A3,n3,k3,rfl,-⟩:=ai.aM.Φ;clear ai h;unfold ky ky;rw[then_self];refine(wpIn_wide (n:=0)).1 ?_
 simp only[wM,Fw,Tryz.f38,aT,aG,ϭ]
 gi_wp2_with (first
  | (gi_at_call 119;refine(callsIn_wide.2 aE.e).mono ?_;rintro e w1 ⟨sv,g,rfl,aK,cM,hg,ag⟩
     obtain⟨A9,m9,c9,rfl⟩:=qx aK;have aS:w.heap.size<=w1.heap.size:=ag.size;clear ag aK cM hg))
 exact⟨rfl,rfl,rfl,rfl⟩
def am8(u:Array υ)(h:u.size=41):∃x0 x1 x2 x3 x4 x5 x6 x7 x8 x9 OB OC OD OE OF OG OH fB fC OJ OL ni iD qK OM xH xI xJ xK ON OO OP OQ cT cU cV cW cX cY cZ da:υ,u=(x0::x1::x2::x3::x4::x5::x6::x7::x8::x9::OB::OC::OD::OE::OF::OG::OH::fB::fC::OJ::OL::ni::iD::qK::OM::xH::xI::xJ::xK::ON::OO::OP::OQ::cT::cU::cV::cW::cX::cY::cZ::da:: []).toArray:=by
 obtain⟨l⟩:=u;simp only[List.size_toArray] at h;match l,h with
 |x0::x1::x2::x3::x4::x5::x6::x7::x8::x9::OB::OC::OD::OE::OF::OG::OH::fB::fC::OJ::OL::ni::iD::qK::OM::xH::xI::xJ::xK::ON::OO::OP::OQ::cT::cU::cV::cW::cX::cY::cZ::da:: [],_=>exact⟨x0,x1,x2,x3,x4,x5,x6,x7,x8,x9,OB,OC,OD,OE,OF,OG,OH,fB,fC,OJ,OL,ni,iD,qK,OM,xH,xI,xJ,xK,ON,OO,OP,OQ,cT,cU,cV,cW,cX,cY,cZ,da,rfl⟩
def arK{base:Nat}{ol:υ}{zs:List Int}(ho:w.ownsRow base 3 1 ol n (zs.map (ξ κ)))(hn:n<=100000)(hb:base<=w.heap.size){u:Array υ}(hu:u.size=41)(h9:u[9]?=φ ol):
 (Code.region 16 GM χ).wp prog (λe a w'=>(e=.normal/\a.defers=[b6]\/e=.ret)/\(e=.normal/\a.tmps.size=41/\a.tmps[9]?=φ ol/\w'.ownsRow base 3 1 ol n ((mV zs).map (ξ κ)))) ⟨u,[b6]⟩ w:=by
 have aE:=ψ (Ux ho hn hb);obtain⟨x0,x1,x2,x3,x4,x5,x6,x7,x8,x9,OB,OC,OD,OE,OF,OG,OH,fB,fC,OJ,OL,ni,iD,qK,OM,xH,xI,xJ,xK,ON,OO,OP,OQ,cT,cU,cV,cW,cX,cY,cZ,da,rfl⟩:=am8 u hu;cases h9;clear ho hu;refine(wpIn_wide (n:=0)).1 ?_
 simp only[GM,yO,Aw,Cy,tW,Fw,Tryz.f38,aT,aG,opsOf,ϭ]
 gi_wp2_with (first
  | (gi_at_call 101;refine(callsIn_wide.2 aE.e).mono ?_;rintro e w1 ⟨rfl,aK,ag⟩
     have HO:=ψ aK;clear aK ag))
 exact HO.e
end
end Go.Jn
namespace Go.Jn
open Go Go.Proofs Go.Sim Go.Conc Go.Tw
def allM(w:Ψ):Sim.ay:=⟨λq=>q<w.heap.size,λ_=>False⟩
def qN:(allM w).has q↔q<w.heap.size:=⟨λh=>h.elim id False.elim,.inl⟩
def Fs(h:bX C ρ wl w):Fits (allM w) ρ wl:=λa q hq=>.inl (h.du a q hq)
structure OY(b:an)(σ:Ren)(wl:Ψ)(pv bv tv:υ)(B:Nat)(arg:υ)(w:Ψ):Prop where
 core:bX C0 σ wl w
 nU:σ 0 0
 nb:bN wl.heap
 fixed:∀a q,σ a q->∃o,wl.heap[a]?=φ o/\rM o
 hB:B<=wl.heap.size
 book:bq wl B b pv bv tv
 arg:ah σ (η #[ξ κ b.ab,pv,bv,tv]) arg
def abz{a b c d:υ}(h:ah σ (η #[a,b,c,d]) x):∃a' b' c' d',x=η #[a',b',c',d']/\ah σ a a'/\ah σ b b'/\ah σ c c'/\ah σ d d':=by
 cases h with
 | @agg _ x' hx h1=>
   obtain⟨l⟩:=x';simp only[List.size_toArray] at hx;match l,hx,h1 with
   | [a',b',c',d'],_,h1=>exact⟨a',b',c',d',rfl,h1 0 (by simp) (by simp),h1 1 (by simp) (by simp),h1 2 (by simp) (by simp),h1 3 (by simp) (by simp)⟩
def aqa{A:Option ϖ}{c:Nat}(h:ah σ (.slice A n c) x):∃A',x=.slice A' n c:=by
 cases h with
 |sliceNone=>exact⟨_,rfl⟩
 |slice=>exact⟨_,rfl⟩
 |sliceDead=>exact⟨_,rfl⟩
structure PQ(b:an)(ρ:Ren)(wl:Ψ)(pv bv tv:υ)(B lb bk n NB:Nat)(wB:Ψ)(w:Ψ):Prop where
 core:bX C0 ρ wl w
 nU:ρ 0 0
 nbh:bN wl.heap
 fixed:∀a q,ρ a q->∃o,wl.heap[a]?=φ o/\rM o
 rb:ρ lb bk
 hB:B<=wl.heap.size
 book:bq wl B b pv bv tv
 c0: wl.cell? ⟨lb,0,ν⟩=φ (ξ κ b.ab)
 c1: wl.cell? ⟨lb,1,ν⟩=φ pv
 c2: wl.cell? ⟨lb,2,ν⟩=φ bv
 c3: wl.cell? ⟨lb,3,ν⟩=φ tv
 hb:∃bc e fb A c,w.heap[bk]?=φ (.cells bc e fb)/\bc[2]?=φ (.slice A n c)
 old:∀q,q<NB->w.heap[q]?=wB.heap[q]?
 nb:NB<=w.heap.size
def We(b:an)(pv bv tv:υ)(B NB:Nat)(wB:Ψ)(cs:List ϝ)(_:Sim.ay)(g:ϐ)(w:Ψ):Prop:=
 ∃(t:Array υ) (bk lb:Nat) (ρ:Ren) (wl:Ψ),g=rg 38 t [.code (.seq (.region 4 o8 θ) tW)] [] .normal cs/\t.size=41/\t[1]?=φ (π (φ ⟨bk,0,ν⟩))/\PQ b ρ wl pv bv tv B lb bk b.aF.length NB wB w
def asD(x p s i:υ):((((#[x]++ϱ 40 ω:Array υ).setIfInBounds 1 p).setIfInBounds 2 s).setIfInBounds 3 i)=(x::p::s::i::ω::ω::ω::ω::ω::ω::ω::ω::ω::ω::ω::ω::ω::ω::ω::ω::ω::ω::ω::ω::ω::ω::ω::ω::ω::ω::ω::ω::ω::ω::ω::ω::ω::ω::ω::ω::ω:: []).toArray:=by
 have e:(#[x]++ϱ 40 ω:Array υ)=(x::ω::ω::ω::ω::ω::ω::ω::ω::ω::ω::ω::ω::ω::ω::ω::ω::ω::ω::ω::ω::ω::ω::ω::ω::ω::ω::ω::ω::ω::ω::ω::ω::ω::ω::ω::ω::ω::ω::ω::ω:: []).toArray:=by
  apply Array.ext';simp[List.replicate]
 rw[e];simp
def aeT(hx:ah ρ x0 x):aV ρ (#[x0]++ϱ 40 ω) (#[x]++ϱ 40 ω):=by
 have h1:aV ρ #[x0] #[x]:=⟨rfl,λi h1 h2=>by
  have:i=0:=by simp at h1;omega
  subst this;exact hx⟩
 have h2:aV ρ (ϱ 40 ω) (ϱ 40 ω):=⟨rfl,λi h1 h2=>by rw[Array.getElem_replicate];exact .undef⟩
 exact bU.append h1 h2
def arX{p p':υ}(hx:ah ρ x0 x)(hp:ah ρ p p'):
 aV ρ ((((#[x0]++ϱ 40 ω:Array υ).setIfInBounds 1 p).setIfInBounds 2 (ζ ν 0 0)).setIfInBounds 3 (ξ κ 0)) (aA (aA (aA (#[x]++ϱ 40 ω:Array υ) (φ 1) p') (φ 2) (ζ ν 0 0)) (φ 3) (ξ κ 0)):=by
 have h0:=aeT hx
 revert h0
 generalize (#[x0]++ϱ 40 ω:Array υ)=U;generalize (#[x]++ϱ 40 ω:Array υ)=V;intro h0;exact((h0.set 1 hp).set 2 (.sliceNone 0 0)).set 3 (.int _ _)
def amX(hB:B<=wl.heap.size)(ai:bq wl B b pv bv tv)(h:cG b 0=0)
 (c0: wl.cell? ⟨lb,0,ν⟩=φ (ξ κ b.ab))(c1: wl.cell? ⟨lb,1,ν⟩=φ pv)(c2: wl.cell? ⟨lb,2,ν⟩=φ bv)(c3: wl.cell? ⟨lb,3,ν⟩=φ tv)(ag:lb<wl.heap.size)(T:Tape):
 ky (@Tw.prog pa) [wM] (Le lb) ⟨((((#[x0]++ϱ 40 ω:Array υ).setIfInBounds 1 (π (φ ⟨lb,0,ν⟩))).setIfInBounds 2 (ζ ν 0 0)).setIfInBounds 3 (ξ κ 0)),[b6]⟩ (bh wl T):=by
 letI:=pa
 rw[asD];exact ahead (b:=b) (pv:=pv) (bv:=bv) (tv:=tv) (B:=B) (lb:=lb) (x0:=x0) hB (ai.still λ_ _=>rfl) h c0 c1 c2 c3 ag
def arU{rJ wB:Ψ}{NB:Nat}{M1:Sim.ay}{w1:Ψ}(ae:cG b 0=0)(hP:PQ b ρ rJ pv bv tv B lb bk b.aF.length NB wB w1)
 (hM:∀q,M1.has q->q<w1.heap.size)(uL:∀a q,ρ a q->M1.O q)(FU:∀q,q<NB->M1.O q){u T:Array υ}(J2:aV ρ u T)(hl:∀T,ky (@Tw.prog pa) [wM] (Le lb) ⟨u,[b6]⟩ (bh rJ T)):
 Walk ϋ θ (We b pv bv tv B NB wB cs) M1 (rg 38 T [.code (.seq wM (.seq (.region 4 o8 θ) tW))] [] .normal cs) w1:=by
 obtain⟨hW,ry,MQ,r8,sS,uJ,Mz,c0,c1,LR,c3,⟨bc,be,bf,bA,bC,ajF,Rv⟩,old,zR⟩:=hP;refine pieces (S:=⟨.seq (.region 4 o8 θ) tW,[],[],cs,.normal⟩) (cs:=[wM]) (f:=38) (a:=⟨u,[b6]⟩) (λc hc=>?_) rfl rfl (QL:=Le lb) (λe a w h=>.inl h.1) hl hW ry (λa q hq=>.inl (uL a q hq)) hM MQ J2 ?_
 ·simp only[ϥ,ϸ,or_false] at hc
  subst hc;exact af3
 ·rintro e bI ao wN bK Ox ij D' ⟨rfl,F8,aL,h1⟩ bZ kU ru akA tH dw Gr hD
  rw[F8] at hD;rw[Dl hD];have kept:∀q,M1.has q->ij.heap[q]?=w1.heap[q]?:=λq hq=>bZ.oJ q hq λa ha=>r8 a q ha
  refine⟨λ_=>?_,λhe=>by cases he⟩
  refine .stop λqJ pA=>?_
  have RZ:∀q,M1.has q->qJ.heap[q]?=w1.heap[q]?:=λq hq=>(pA.kept q (ay.zT bZ.R bZ.O hq)).trans (kept q hq)
  refine⟨Ox,bk,lb,ρ,rJ,rfl,Gr.1.symm.trans aL,Uu kU Gr (bZ.le _ _ sS) h1,?_⟩
  exact⟨zJ hW (ϣ bZ.ng pA.size) λa q hq=>RZ q (.inl (uL a q hq)),ry,MQ,r8,sS,uJ,Mz,c0,c1,LR,c3,⟨bc,be,bf,bA,bC,(RZ bk (.inl (uL _ _ sS))).trans ajF,Rv⟩,λq hq=>(RZ q (.inl (FU q hq))).trans (old q hq),ϣ zR (ϣ bZ.ng pA.size)⟩
def stA{arg:υ}(h:OY b σ wl pv bv tv B arg w)(ae:cG b 0=0):
 Walk ϋ θ (We b pv bv tv B w.heap.size w cs) (allM w) (rg 38 (#[arg]++ϱ 40 ω) [.code (.seq (.region 0 p0 χ) (.seq wM (.seq (.region 4 o8 θ) tW)))] [] .normal cs) w:=by
 letI:=pa
 obtain⟨a',oN,oz,mK,rfl,ra,rp,T9,rt⟩:=abz h.arg;obtain⟨A2,n2,c2,ebv,en2,-⟩:=h.book.aF.Φ;obtain⟨A2',ahh⟩:=aqa (by rw[ebv] at T9;exact T9)
 refine mM (nS ?_)
 rw[s0];obtain⟨o,ho,bJ,hd,hg⟩:=m00;have Cc:(#[Value.agg #[a',oN,oz,mK]]++ϱ 40 ω:Array υ).getD 0 ω=η #[a',oN,oz,mK]:=by simp[Ò]
 refine G5 ho (cg hg) rfl λaa hk=>⟨_,_,_,.inl (aqv _ aa bJ Cc),Dk,?_⟩
 rw[hd];have ajN:(Value.agg #[a',oN,oz,mK]).cells=#[a',oN,oz,mK]:=rfl;rw[ajN];have hM:∀q,((allM w).grow aa (aa.alloc (Ξ #[a',oN,oz,mK] 26))).has q->q<(aa.alloc (Ξ #[a',oN,oz,mK] 26)).heap.size:=by
  rintro q ((hq|hq) |hq)
  ·have hq:q<w.heap.size:=hq
   have:=hk.size;rw[kS];omega
  ·exact hq.2
  ·exact hq.elim
 have FU:∀q,q<w.heap.size->((allM w).grow aa (aa.alloc (Ξ #[a',oN,oz,mK] 26))).O q:=λq hq=>.inl hq
 have Mw:((allM w).grow aa (aa.alloc (Ξ #[a',oN,oz,mK] 26))).O aa.heap.size:=.inr ⟨ϊ _,by rw[kS];omega⟩
 have old:∀q,q<w.heap.size->(aa.alloc (Ξ #[a',oN,oz,mK] 26)).heap[q]?=w.heap[q]?:=λq hq=>(qO (ϟ hq hk.size)).trans (hk.kept q (.inl hq))
 have YH:bX C0 σ wl (aa.alloc (Ξ #[a',oN,oz,mK] 26)):=zJ h.core (by rw[kS];have:=hk.size;omega) λa q hq=>old q (h.core.du a q hq)
 have hW:=Bl (o:=.cells #[ξ κ b.ab,pv,bv,tv] 26 (0,4)) YH (q:=aa.heap.size) qa (λa ha=>by have:=h.core.du a _ ha;have:=hk.size;omega) (.cells 26 ⟨rfl,λj h1 h2=>by
  have:j=0\/j=1\/j=2\/j=3:=by simp at h1;omega
  have hle:=Dp σ wl.heap.size aa.heap.size;rcases this with rfl|rfl|rfl|rfl
  ·exact ra.mono hle
  ·exact rp.mono hle
  ·exact T9.mono hle
  ·exact rt.mono hle⟩ (.inr ⟨rfl,by simp⟩))
 obtain⟨rJ,Gu⟩:∃rJ,rJ=wl.alloc (Ξ #[ξ κ b.ab,pv,bv,tv] 26 (0,4)):=⟨_,rfl⟩
 obtain⟨lb,Aa⟩:∃lb,lb=wl.heap.size:=⟨_,rfl⟩
 obtain⟨bk,ai⟩:∃bk,bk=aa.heap.size:=⟨_,rfl⟩
 have Gc:rJ.heap[lb]?=φ (Ξ #[ξ κ b.ab,pv,bv,tv] 26 (0,4)):=by rw[Gu,Aa];exact qa
 have Rw:(aa.alloc (Ξ #[a',oN,oz,mK] 26)).heap[bk]?=φ (Ξ #[a',oN,oz,mK] 26):=by rw[ai];exact qa
 have r8:∀a q,ext σ lb bk a q->∃o,rJ.heap[a]?=φ o/\rM o:=by
  rintro a q (ha| ⟨rfl,rfl⟩)
  ·obtain⟨o,h1,h2⟩:=h.fixed a q ha
   exact⟨o,by rw[Gu];exact(qO (h.core.fx _ _ ha)).trans h1,h2⟩
  ·exact⟨_,Gc,⟨rfl,by simp⟩⟩
 have MQ:bN rJ.heap:=by rw[Gu];exact h.nb.push λh=>h
 have uJ:B<=rJ.heap.size:=by rw[Gu,kS];exact Nat.le_succ_of_le h.hB
 have Mz:bq rJ B b pv bv tv:=by rw[Gu];exact h.book.still ((Δ.refl wl).alloc h.hB _)
 have avb:w.heap.size<=bk:=by rw[ai];exact hk.size
 rw[<-Gu,<-Aa,<-ai] at hW;rw[<-ai] at Mw |-
 have zR:w.heap.size<=(aa.alloc (Ξ #[a',oN,oz,mK] 26)).heap.size:=by rw[kS];have:=hk.size;omega
 revert hM FU Mw old hW Rw zR
 generalize (allM w).grow aa (aa.alloc (Ξ #[a',oN,oz,mK] 26))=M1;clear YH;generalize aa.alloc (Ξ #[a',oN,oz,mK] 26)=w1;intro hM FU old Mw hW Rw zR;obtain⟨o,ho,bJ,hd,hg⟩:=m01;refine fw ho (cg hg) rfl (λaa _=>⟨_,run_assign _ aa bJ,ig⟩) ?_
 rw[hd];obtain⟨o,ho,bJ,hd,hg⟩:=m02;refine fw ho (cg hg) rfl (λaa _=>⟨_,run_assign _ aa bJ,ig⟩) ?_
 rw[hd];refine oP ?_
 obtain⟨x0,Ci⟩:=ye (ext σ lb bk) (η #[a',oN,oz,mK]);have c0: rJ.cell? ⟨lb,0,ν⟩=φ (ξ κ b.ab):=rV Gc rfl rfl;have c1: rJ.cell? ⟨lb,1,ν⟩=φ pv:=rV Gc rfl rfl;have LR: rJ.cell? ⟨lb,2,ν⟩=φ bv:=rV Gc rfl rfl;have c3: rJ.cell? ⟨lb,3,ν⟩=φ tv:=rV Gc rfl rfl;have ag:lb<rJ.heap.size:=(Ϝ.1 Gc).1
 have J2:=arX (ρ:=ext σ lb bk) (p:=π (φ ⟨lb,0,ν⟩)) (p':=π (φ ⟨bk,0,ν⟩)) Ci (.ptr ⟨.inr ⟨rfl,rfl⟩,rfl,rfl⟩);exact arU ae ⟨hW,.inl h.nU,MQ,r8,.inr ⟨rfl,rfl⟩,uJ,Mz,c0,c1,LR,c3,⟨_,_,_,A2',c2,Rw,by rw[ahh,<-en2];rfl⟩,old,zR⟩ hM (λa q hq=>by
  rcases hq with hq| ⟨_,rfl⟩
  ·exact FU q (h.core.du _ _ hq)
  ·exact Mw) FU J2 (amX uJ Mz ae c0 c1 LR c3 ag)
end Go.Jn
namespace Go.Jn
open Go Go.Proofs Go.Sim Go.Conc
section
variable {P:Ϙ}{main:Bool}
variable {f:Å}{t:Array υ}{k:List Item}{D:List Æ}{kd:ũ}{cs:List ϝ}
def ar9(ho:ops[i]?=φ o)(hg:Ê o (ê ops t)=χ)(hd:o.dst=ν)(aa:Ψ):
 Ϛ P main (rg f t (.inRegion ops (i::rest)::k) D .normal cs) aa=.go (rg f t (.inRegion ops rest::k) D .normal cs) aa #[]:=by
 simp[Ϛ,Θ,ho,hg,Ē,hd]
def aci(ho:ops[i]?=φ o)(hg:Ê o (ê ops t)=θ)(ae:o.op=.assign (.const v))(aa:Ψ):
 ∃es,Ϛ P main (rg f t (.inRegion ops (i::rest)::k) D .normal cs) aa=.go (rg f (aA t o.dst v) (.inRegion ops rest::k) D .normal cs) aa es:=
 ⟨_,Oi ho hg rfl (es:=#[]) (by rw[execOp,ae];rfl)⟩
end
def sE(p:Ϙ):Nat->ϐ->ϐ->Prop
 |0,g,cr=>g=cr
 |n+1,g,cr=>g.callers≠ []/\∃fE,(∀w,∃es,Ϛ p θ g w=.go fE w es)/\sE p n fE cr
def sE.trans{p:Ϙ}{b:Nat}{y z:ϐ}(k:sE p b y z):∀ {a:Nat} {x:ϐ},sE p a x y->sE p (a+b) x z
 |0,x,h=>by cases(show x=y from h);rw[Nat.zero_add];exact k
 |a+1,x,h=>by rw[Nat.succ_add];exact⟨h.1,h.2.choose,h.2.choose_spec.1,sE.trans k h.2.choose_spec.2⟩
def sE.cons{p:Ϙ}{n:Nat}{x y z:ϐ}(hc:x.callers≠ [])(h:∀w,∃es,Ϛ p θ x w=.go y w es)(k:sE p n y z):sE p (n+1) x z:=⟨hc,y,h,k⟩
abbrev lp:Ϙ:= @Tw.prog iz
def Me:lp.funcs[21]?=φ stub:=by
 letI:=iz
 exact(congrArg (·[21]?) Tw.TZ).trans Tw.E4
section
variable {x:Array υ}{fr:ϝ}{cs:List ϝ}
def acp:sE lp 3 (aR (í lp 21 x .normal) (fr::cs))
 (rg 21 (aA (x++ϱ (1 - x.size) ω) (φ 1) (.bool θ)) (.inRegion qF [1,2]:: [.code .ret]) [] .normal (fr::cs)):=by
 rw[FH Me (c:=.seq (.region 0 qF χ) .ret) rfl x .normal];refine .cons (by simp) (λw=>⟨#[],by simp[Ϛ,Θ];rfl⟩) ?_
 refine .cons (by simp) (λw=>⟨#[],by simp[Ϛ,Θ];rfl⟩) ?_
 refine .cons (by simp) (λw=>aci (o:=qF[0]) rfl rfl rfl w) ?_
 rfl
def asc(hx:x.size<=1):sE lp 8 (aR (í lp 21 x .normal) (fr::cs)) (aR (fr.finish (.bool θ)) cs):=by
 refine sE.trans (a:=3) (b:=5) ?_ acp
 have hs:(x++ϱ (1 - x.size) ω).size=1:=by simp;omega
 generalize (x++ϱ (1 - x.size) ω)=t at hs;have e1:aA t (φ 1) (.bool θ)=t:=by
  show t.setIfInBounds 1 _=t;rw[Array.setIfInBounds_eq_of_size_le (by omega)]
 rw[e1];have hy:Ê qF[1] (ê qF t)=χ:=by
  have:t[1]?=ν:=Ô (by omega)
  show(ê qF t 0==φ θ)=χ;unfold ê;show((match(t[1]?:Option υ) with|some (Value.bool b)=>φ b|_=>ν)==φ θ)=χ
  rw[this];rfl
 refine .cons (by simp) (λw=>⟨#[],ar9 (o:=qF[1]) rfl hy rfl w⟩) ?_
 refine .cons (by simp) (λw=>aci (o:=qF[2]) rfl rfl rfl w) ?_
 have e0:(aA t (φ 0) (.bool θ)).getD 0 ω=.bool θ:=by simp[aA,hs]
 have e2:aA t qF[2].dst (.bool θ)=aA t (φ 0) (.bool θ):=rfl;rw[e2]
 revert e0
 generalize aA t (φ 0) (.bool θ)=t2;intro e0;refine .cons (by simp) (λw=>⟨#[],by simp[Ϛ,Θ];rfl⟩) ?_
 refine .cons (by simp) (λw=>⟨#[],by simp[Ϛ,Θ];rfl⟩) ?_
 refine .cons (by simp) (λw=>⟨#[],?_⟩) rfl
 have e:Î lp θ ⟨21,t2,[.code .ret],[],.returning,.normal,ν⟩ (fr::cs) ν w=.go (aR (fr.finish (.bool θ)) cs) w #[]:=by
  have hr:(results stub t2).runT lp w #[]=(.ok (.bool θ) w,#[]):=by
   have e:results stub t2=Ŋ (.bool θ):=by
    unfold results;rw[show stub.results=#[.tmp 0] from rfl]
    simp only[ĺ,List.mapM_cons,Akd,e0];rfl
   rw[e];rfl
  unfold Î;simp only[Me,hr,Az,Þ,doReturn];rfl
 exact e
def asd(hx:2<=x.size)(w:Ψ):∃o aa es,Ϛ lp θ (rg 21 (aA (x++ϱ (1 - x.size) ω) (φ 1) (.bool θ)) (.inRegion qF [1,2]:: [.code .ret]) [] .normal (fr::cs)) w=.ended o aa es:=by
 have hs:2<=(x++ϱ (1 - x.size) ω).size:=by rw[Array.size_append,Array.size_replicate];omega
 generalize (x++ϱ (1 - x.size) ω)=t at hs;have hy:Ê qF[1] (ê qF (aA t (φ 1) (.bool θ)))=θ:=by
  have:(aA t (φ 1) (.bool θ))[1]?=φ (.bool θ):=Ajt (by omega)
  show(ê qF (aA t (φ 1) (.bool θ)) 0==φ θ)=θ;unfold ê;show((match((aA t (φ 1) (Value.bool θ))[1]?:Option υ) with|some (Value.bool b)=>φ b|_=>ν)==φ θ)=θ
  rw[this];rfl
 generalize (aA t (φ 1) (.bool θ))=t2 at hy;have ho:qF[1]?=φ qF[1]:=rfl;have hx:∃h,(execOp (aX t2) qF[1]).runT lp w #[]=(.halt (.stuck h) w,#[]):=⟨_,rfl⟩
 obtain⟨h,hx⟩:=hx;have e1:Ü ⟨21,t2,.inRegion qF [1,2]:: [.code .ret],[],.run,.normal,ν⟩=aX t2:=zM;simp only[Ϛ,Θ,ho,ç,hy,ϭ,if_true,ż,Ū,Õ,e1,hx,Þ];exact⟨_,_,_,rfl⟩
end
end Go.Jn
namespace Go.Jn
open Go Go.Proofs Go.Sim Go.Conc
def xT(w:Ψ):Prop:=∃fr,w.heap[0]?=φ (Ξ #[.func (.func 234) #[] #[],.func (.func 236) #[] #[]] 146 fr)
def Iz:Prop:=∀ {gs:Array ϐ} {w:Ψ} {t:Â} {q:Nat->Nat} {x:Array υ} {fr:ϝ} {cs:List ϝ} (sl:Option (Nat×Nat)),x.size<=1->xT w->
 Fr ϋ gs w t q (aR (í ϋ 21 x .normal) (fr::cs))->
 ∃N aY w' bz t' q',ā ϋ N (crowd gs w sl) t=(.next (crowd aY w' bz),t')/\Fr ϋ aY w' t' q' (aR (fr.finish (.bool θ)) cs)/\Base w w'/\∀b,b<w.heap.size->w'.heap[b]?=w.heap[b]?
abbrev tA(S:Tl):=Rel ϋ (@Tw.F iz) C1 S G0
def tA.all{M:Sim.ay}(h:tA S M ρ g w g' w'):tA S (allM w') ρ g w g' w':=
 ⟨h.gr,h.core,h.nU,Fs h.core,λ_ hb=>qN.1 hb⟩
def tq(ρ:Ren)(wl:Ψ)(b:Nat):Prop:=∀a,ρ a b->∃o,wl.heap[a]?=φ o/\rM o
def I0{M bT:Sim.ay}{aI:Ren}{aC:Ψ}(h:oq M ρ wl w' bT aI aa aC){b:Nat}(hb:b<w'.heap.size)(hf:tq ρ wl b):tq aI aa b:=λa ha=>by
 rcases h.new a b ha with x| ⟨_,y⟩
 ·obtain⟨o,ho,fo⟩:=hf a x
  exact⟨o,h.qR a o ho fo,fo⟩
 ·omega
def asL(hR:tA S (allM w') ρ g wl g' w')
 (fP:∃b fr ba cs bp,g=aR fr cs/\g'=aR ba bp/\gT C1 S ρ b fr ba/\Below C1 S ρ b cs bp)
 {nx:Tape->ϐ×Ψ}(hn:∀T:Tape,(∃es,Ϛ lp θ g (bh wl T)=.go (nx T).1 (nx T).2 es)/\Plain (nx T).1)
 {t:Â}{q:Nat->Nat}(sl:Option (Nat×Nat))(hF:Fr ϋ gs w' t q g'):
 ∃N oX aC tY ub yN ic T aI,ā ϋ N (crowd gs w' sl) t=(.next (crowd oX aC tY),ub)/\Fr ϋ oX aC ub yN ic/\tA S (allM aC) aI (nx T).1 (nx T).2 ic aC/\Base w' aC/\
  (∀b,b<w'.heap.size->tq ρ wl b->aC.heap[b]?=w'.heap[b]?/\tq aI (nx T).2 b):=by
 have key:∀aa:Ψ,∃y:ϐ×Ψ×Array Event,bQ (allM w') w' aa->∃(T:Tape) (aI:Ren),Ϛ ϋ θ g' aa=.go y.1 y.2.1 y.2.2/\j4 (allM w') aa y.2.1 y.2.2/\
  tA S ((allM w').grow aa y.2.1) aI (nx T).1 (nx T).2 y.1 y.2.1/\oq (allM w') ρ wl aa ((allM w').grow aa y.2.1) aI (nx T).2 y.2.1:=by
  intro aa;by_cases k:bQ (allM w') w' aa
  ·obtain⟨T,aI,ic,aC,es,a1,a2,a3,a4⟩:=abA aho (hR.keep k) fP hn θ
   exact⟨(ic,aC,es),λ_=>⟨T,aI,a1,a2,a3,a4⟩⟩
  ·exact⟨(g',aa,#[]),λx=>absurd x k⟩
 have bt:g'.status=.running:=by obtain⟨b,fr,ba,cs,bp,_,rfl,_⟩:=fP;rfl
 have hW:Walk ϋ θ (λbT ic aC=>∃(T:Tape) (aI:Ren),tA S bT aI (nx T).1 (nx T).2 ic aC/\oq (allM w') ρ wl w' bT aI (nx T).2 aC) (allM w') g' w':=by
  refine .step bt (λaa=>ã (key aa)) (λaa k=>?_) λaa k=>.stop λao k₂=>?_
  ·obtain⟨T,aI,a1,a2,a3,a4⟩:=É (key aa) k
   exact⟨a1,a2⟩
  ·obtain⟨T,aI,a1,a2,a3,a4⟩:=É (key aa) k
   exact⟨T,aI,a3.keep k₂,((oq.keep k).trans a4 hR.low).trans (oq.keep k₂) hR.low⟩
 obtain⟨N,oX,bT,ic,aC,tY,ub,yN,r1,_,⟨⟨T,aI,DG,bZ⟩,hb⟩,zQ⟩:=IE (K7 hW (LL w')) gs sl t q hF (λb hb=>qN.1 hb)
 exact⟨N,oX,aC,tY,ub,yN,ic,T,aI,r1,zQ,tA.all DG,hb,λb hb hf=>⟨bZ.oJ b (qN.2 hb) hf,I0 bZ hb hf⟩⟩
def abR{Q:ϐ->Ψ->Prop}(FX:∀g w,Q g w->g.callers=[]){cr:ϐ}:∀ {n:Nat} {g:ϐ} {w:Ψ},sE lp n g cr->Sim.Safe lp Q g w->Sim.Safe lp Q cr w
 |0,g,w,h,hs=>by cases(show g=cr from h);exact hs
 |n+1,g,w,h,hs=>by
  obtain⟨hc,fE,h1,h2⟩:=h;cases hs with
  |stop hq=>exact absurd (FX _ _ hq) hc
  |step nx hn hs=>
   obtain⟨⟨es,k1⟩,_⟩:=hn w.tape;obtain⟨es',k2⟩:=h1 (bh w w.tape);rw[k2] at k1;simp only[GStep.go.injEq] at k1;have:=hs w.tape;rw[<-k1.1,<-k1.2.1] at this;exact abR FX h2 this
def asK(Ef:Iz){Q:ϐ->Ψ->Prop}(FX:∀g w,Q g w->g.callers=[])(hs:Sim.Safe lp Q g wl):
 ∀ {n:Nat} {cr:ϐ},sE lp n g cr->∀ {ρ:Ren} {g':ϐ} {w':Ψ},tA S (allM w') ρ cr wl g' w'->xT w'->tq ρ wl 0->
 ∀ {gs:Array ϐ} {t:Â} {q:Nat->Nat} (sl:Option (Nat×Nat)),Fr ϋ gs w' t q g'->
 ∃N oX aC tY ub yN ic aI fE aa,ā ϋ N (crowd gs w' sl) t=(.next (crowd oX aC tY),ub)/\Fr ϋ oX aC ub yN ic/\Q fE aa/\tA S (allM aC) aI fE aa ic aC/\Base w' aC/\
  (∀b,b<w'.heap.size->tq ρ wl b->aC.heap[b]?=w'.heap[b]?):=by
 induction hs with
 | @stop g w h=>
   intro n cr hl ρ g' w' hR hM h0 gs t q sl hF;cases n with
   |zero=>cases(show g=cr from hl);exact⟨0,gs,w',sl,t,q,g',ρ,g,w,rfl,hF,h,hR,LL _,λ_ _ _=>rfl⟩
   |succ n=>exact absurd (FX _ _ h) hl.1
 | @step g w nx hn hs ih=>
   intro n cr hl ρ g' w' hR hM h0 gs t q sl hF;have along:∀ {n:Nat} {cr:ϐ},sE lp (n+1) g cr->∀ {ρ:Ren} {g':ϐ} {w':Ψ},tA S (allM w') ρ cr w g' w'->xT w'->tq ρ w 0->∀ {gs:Array ϐ} {t:Â} {q:Nat->Nat} (sl:Option (Nat×Nat)),Fr ϋ gs w' t q g'->
    ∃N oX aC tY ub yN ic aI fE aa,ā ϋ N (crowd gs w' sl) t=(.next (crowd oX aC tY),ub)/\Fr ϋ oX aC ub yN ic/\Q fE aa/\tA S (allM aC) aI fE aa ic aC/\Base w' aC/\
     (∀b,b<w'.heap.size->tq ρ w b->aC.heap[b]?=w'.heap[b]?):=by
    intro n cr hl ρ g' w' hR hM h0 gs t q sl hF;obtain⟨hc,fE,h1,h2⟩:=hl;obtain⟨⟨es,k1⟩,_⟩:=hn w.tape;obtain⟨es',k2⟩:=h1 (bh w w.tape);rw[k2] at k1;simp only[GStep.go.injEq] at k1;obtain⟨e1,e2,_⟩:=k1;have:=ih w.tape (n:=n) (cr:=cr) (e1▸h2) (ρ:=ρ) (g':=g') (w':=w') (e2▸hR) hM (e2▸h0) sl hF;rw[<-e2] at this;exact this
   cases n with
   |succ n=>exact along hl hR hM h0 sl hF
   |zero=>
    cases(show g=cr from hl)
    have gr:=hR.gr;generalize eg:g=gg at gr;generalize Xx:g'=gg' at gr;cases gr with
    | @inside b fr ba cs bp bY hL=>
      subst eg Xx;obtain⟨N,oX,aC,tY,ub,yN,ic,T,aI,r1,zQ,DG,hb,hk⟩:=asL hR ⟨b,fr,ba,cs,bp,rfl,rfl,bY,hL⟩ hn sl hF;have hz:0<w'.heap.size:=by obtain⟨_,h⟩:=hM;exact(Ϝ.1 h).1
      have Ra:xT aC:=by obtain⟨f,h⟩:=hM;exact⟨f,(hk 0 hz h0).1.trans h⟩
      obtain⟨N2,Dy,ij,Uv,UX,T6,I6,bK,cr,ao,r2,Q9,hq,Rf,Rz,Sc⟩:=ih T (n:=0) rfl DG Ra (hk 0 hz h0).2 tY zQ;exact⟨N+N2,Dy,ij,Uv,UX,T6,I6,bK,cr,ao,Ax _ _ _ r1 r2,Q9,hq,Rf,xW hb Rz,λb aj hf=>(Sc b (ϟ aj hb.size) (hk b aj hf).2).trans (hk b aj hf).1⟩
    | @hole b f hf x x' hx fr ba cs bp h au hL=>
      have hf:f=21:=by simpa [C1] using hf
      subst hf eg Xx;have hxs:=hx.1;by_cases h2:x.size<=1
      ·obtain⟨N,oX,aC,tY,ub,yN,r1,zQ,hb,hk⟩:=Ef sl (by omega) hM hF
       have Ra:xT aC:=by obtain⟨f,h⟩:=hM;exact⟨f,(hk 0 (Ϝ.1 h).1).trans h⟩
       have core:=zJ hR.core hb.size λa b hab=>hk b (hR.core.du a b hab)
       have DG:tA S (allM aC) ρ (aR (fr.finish (.bool θ)) cs) w (aR (ba.finish (.bool θ)) bp) aC:=
        ⟨.inside (IZ h (.bool θ) au) hL,core,hR.nU,Fs core,λ_ hb=>qN.1 hb⟩
       obtain⟨N2,Dy,ij,Uv,UX,T6,I6,bK,cr,ao,r2,Q9,hq,Rf,Rz,Sc⟩:=along (n:=7) (asc h2) DG Ra h0 tY zQ;exact⟨N+N2,Dy,ij,Uv,UX,T6,I6,bK,cr,ao,Ax _ _ _ r1 r2,Q9,hq,Rf,xW hb Rz,λb aj hf=>(Sc b (ϟ aj hb.size) hf).trans (hk b aj)⟩
      ·exfalso
       have nY:=abR FX (acp (x:=x) (fr:=fr) (cs:=cs)) (.step nx hn hs);cases nY with
       |stop hq=>exact absurd (FX _ _ hq) (by simp)
       |step nx2 dw _=>
        obtain⟨⟨es,k1⟩,_⟩:=dw w.tape;obtain⟨o,aa,es',k2⟩:=asd (x:=x) (fr:=fr) (cs:=cs) (by omega) (bh w w.tape)
        rw[k2] at k1;cases k1
end Go.Jn
namespace Go.Jn
open Go Go.Proofs Go.Conc
section
variable {H:Type}{enc:ό×υ->H}
def amW{a:Assume}{C:Checked}{os:Os}{s:ChangeSpec}{conds:List PathCond}{apart fresh handsOn again:Bool}{X:Ψ->Array υ->Prop}
 (hX:∀(w w':Ψ) (args:Array υ),w.heap=w'.heap->X w args->X w' args)
 (own:ownKnob C.prog.godebug=ν)(started:os.Started)(Jt:C.prog.funcs[f]?=φ fn)
 (witness:∃(w:Ψ) (tape:Tape) (i:Input),w.os=os/\(w.forCall tape i).Shaped C.prog/\i.vars=[]/\Input.okWide C.prog (w.forCall tape i) .any w.heap.size f i/\
   ((s.pre enc C.prog fn conds apart (w.forCall tape i).memory i.args/\X (w.forCall tape i).memory i.args)/\sizedMet enc C.prog fn (OpenSpec.ofChange s) apart (w.forCall tape i).memory i.args)/\a.holds C.prog (lone (í C.prog f i.args .normal) [] (w.forCall tape i)))
 (runs:∀(W:Ψ) (base:Nat) (args:Array υ) (ds gs:List (DataW H)) (before:List MemPlace),
   (∀(j:Nat) t v,fn.params[j]?=φ t->args[j]?=φ v->Value.okWide C.prog W .any base t v)->
   DataW.Whole enc C.prog fn.params.toList s.vars apart W args.toList ds gs before->W.ShapedOpen C.prog->X W args->
   ∃M last o w' t',ā C.prog (M+1) (solo (G (í C.prog f args .normal) []) W) #[]=(.ended o w',t')/\runN C.prog M (solo (G (í C.prog f args .normal) []) W)=.next last/\
    step C.prog last=.ended o w'/\Conc.Good C.prog (λv W'=>s.post enc C.prog fn apart fresh handsOn again W args v W') last o w' t'):
 ReturnsInLeavingWide a C os f .any (λw args=>(s.pre enc C.prog fn conds apart w args/\X w args)/\sizedMet enc C.prog fn (OpenSpec.ofChange s) apart w args) (s.post enc C.prog fn apart fresh handsOn again):=by
 refine returnsInLeavingWide_of_good own started witness ?_
 intro w tape i _ Ca _ cE akY auR;obtain⟨_,_,_,fn',aka,_,_,_,_,Gs⟩:=cE;have e:fn'=fn:=Ϟ (aka.symm.trans Jt);subst e;obtain⟨⟨⟨ds,gs,before,hw,hc⟩,hx⟩,hz⟩:=akY;have Gt:=DataW.Whole.of_heap (w':=w.forCall tape i) (by rfl) hw
 obtain⟨M,last,o,w',t',h1,h2,h3,v,e1,h4,h5⟩:=runs (w.forCall tape i) w.heap.size i.args ds gs before Gs Gt Ca (hX _ _ _ (by rfl) hx)
 exact⟨M,last,o,w',t',h1,h2,h3,v,e1,ChangeSpec.post_blind h4,h5⟩
end
end Go.Jn
namespace Go.Jn
open Go Go.Proofs Go.Sim Go.Tw
def mO(W:Ψ)(a:Nat):Prop:=∃c e fr,W.heap[a]?=φ (.cells c e fr)
def Qu{p:ϖ}(h: W.cell? p=φ v):mO W p.block:=by
 unfold World.cell? at h;split at h
 ·rename_i c e fr ho;exact⟨c,e,fr,ho⟩
 ·cases h
def Qt(h:mO W a):a<W.heap.size:=by
 obtain⟨c,e,fr,h⟩:=h;exact(Ϝ.1 h).1
def Fy:ϋ.cellsOf 3=1:=by kernel_rfl
def W7:ϋ.cellsOf 9=1:=by kernel_rfl
def afM:ϋ.cellsOf 22=1:=by kernel_rfl
def afN:ϋ.cellsOf 23=1:=by kernel_rfl
def afO:ϋ.cellsOf 24=1:=by kernel_rfl
def afP:ϋ.cellsOf 26=4:=by kernel_rfl
def afQ:ϋ.cellsOf 33=1:=by kernel_rfl
def LX:ϋ.cellsOf 37=2:=by kernel_rfl
def afR:ϋ.cellsOf 57=1:=by kernel_rfl
def afS:ϋ.cellsOf 59=3:=by kernel_rfl
def afT:ϋ.cellsOf 72=4:=by kernel_rfl
def afU:ϋ.cellsOf 95=3:=by kernel_rfl
section
variable {H:Type}{enc:ό×υ->H}{W:Ψ}{n:Nat}{cs:List υ}{y:DataW H×List MemPlace}
abbrev uF(enc:ό×υ->H)(W:Ψ)(n:Nat)(t:ό)(cs:List υ):Option (DataW H×List MemPlace):=DataW.trod enc ϋ W 0 (λ_=>θ) θ n t cs
def KJ{α:Type}{t:ό}{sz:Nat}{R:α->List υ->Prop}(ht:ϋ.underlying t=φ (.slice e))(hc:ϋ.cellsOf e=sz)(aL:0<sz)
 (RP:∀(m:Nat) (cs:List υ) (y:DataW H×List MemPlace),uF enc W m e cs=φ y->cs.length=sz->∃x,R x cs)(h:uF enc W n t cs=φ y):
 ∃v xs,cs=[v]/\Row W W.heap.size sz R v xs/\Sv (mO W) v:=by
 rcases DataW.trod_slice ht h with⟨rfl,_⟩ | ⟨a,len,cap,elems,rest,m,_,rfl,_,_,hl,hm,hlen,aj4,ak3,_⟩
 ·exact⟨_,[],rfl,Row.nil,λA n c e=>by cases e⟩
 ·have one:∀i,i<cap->∃cs y,W.cells? 0 (a.add (i * sz)) sz=φ cs/\uF enc W m e cs=φ y:=λi hi=>by
   by_cases h1:i<len
   ·have:=aj4 i h1
    rw[Ä (by omega),hc,ą] at this
    obtain⟨cs,h2,h3⟩:=this;exact⟨cs,_,h2,h3⟩
   ·obtain⟨hr,hj⟩:=ak3 rfl
    have:=hj (i - len) (by omega)
    rw[Ä (by omega),hc,ą,show len+(i - len)=i by omega] at this
    obtain⟨cs,h2,h3⟩:=this;exact⟨cs,_,h2,h3⟩
  have two:∀i,i<cap->∃x cs,R x cs/\cs.length=sz/\∀j u,cs[j]?=φ u-> W.cell? (a.add (i * sz+j))=φ u:=λi hi=>by
   obtain⟨cs,y,h1,h2⟩:=one i hi;obtain⟨_,h3,h4⟩:=World.cells?_some h1
   obtain⟨x,hx⟩:=RP m cs y h2 h3;refine⟨x,cs,hx,h3,λj u hu=>?_⟩
   have hj:j<sz:=by have:=(List.getElem?_eq_some_iff.1 hu).1;omega
   rw[<-Wi,h4 j hj];exact hu
  have hS:0<cap->mO W a.block:=λyC=>by
   obtain⟨x,cs,_,h3,h4⟩:=two 0 yC;obtain⟨u,hu⟩:∃u,cs[0]?=φ u:=⟨cs[0]'(by omega),Ä _⟩
   have:=Qu (h4 0 u hu);rw[cq] at this;exact this
  refine⟨_,List.ofFn λi:Fin len=>ã (two i.1 (by omega)),rfl,⟨φ a,cap,by rw[List.length_ofFn],by rw[List.length_ofFn];exact hl,hm,λhx=>⟨a,rfl,?_,λi x hi=>?_⟩⟩,λA n c e h0=>?_⟩
  ·refine Qt (hS ?_)
   rcases Akm len with h0|h0
   ·subst h0;exact absurd rfl hx
   ·omega
  ·rw[List.getElem?_ofFn] at hi
   split at hi
   ·rename_i aj
    cases hi;exact É (two i (by omega))
   ·cases hi
  ·cases e
   rcases Akm cap with h|h
   ·exact .inr h
   ·exact .inl (hS h)
def GA(h:uF enc W n 3 cs=φ y):∃x:Int,cs=[ξ κ x]:=by
 obtain⟨x,rfl,_⟩:=DataW.trod_int Tryz.underlying3 h;exact⟨x,rfl⟩
def aco(h:uF enc W n 9 cs=φ y):∃s:ByteArray,cs=[.string s]/\s.size<=maxLen:=by
 obtain⟨x,rfl,_,h⟩:=DataW.trod_string Tryz.underlying9 h;exact⟨x,rfl,h⟩
def tD{t:ό}(ht:ϋ.underlying t=φ (.struct fs))(h:uF enc W n t cs=φ y)(i:Nat){u:ό}{o sz:Nat}(hc:ϋ.cellsOf u=sz)(hf:∃f,fs[i]?=φ f/\f.type=u/\f.offset=o):
 ∃m z,uF enc W m u ((cs.drop o).take sz)=φ z:=by
 obtain⟨f,hf,rfl,rfl⟩:=hf;obtain⟨xs,m,_,_,_,hl,h1⟩:=DataW.trod_struct ht h;have hi:i<xs.length:=by have:=(Ϝ.1 hf).1;omega
 exact⟨m,xs[i],by rw[<-Ä hi,<-hc];exact h1 i f hf⟩
def aaE{t:ό}(ht:ϋ.underlying t=φ (.struct fs))(h:uF enc W n t cs=φ y):cs.length=ϋ.cellsOf t:=by
 obtain⟨xs,m,_,_,hl,_⟩:=DataW.trod_struct ht h;exact hl
def UA(h:uF enc W n 37 cs=φ y):∃x:Span,Span.R x cs:=by
 have hl:=aaE Tryz.underlying37 h;rw[LX] at hl;obtain⟨a,b,rfl⟩:∃a b,cs=[a,b]:=by
  match cs,hl with
  | [a,b],_=>exact⟨a,b,rfl⟩
 obtain⟨_,_,h0⟩:=tD Tryz.underlying37 h 0 (u:=3) (o:=0) Fy ⟨_,rfl,rfl,rfl⟩;obtain⟨_,_,h1⟩:=tD Tryz.underlying37 h 1 (u:=3) (o:=1) Fy ⟨_,rfl,rfl,rfl⟩;simp only[Aki,Akj] at h0 h1;obtain⟨x0,e0⟩:=GA h0;obtain⟨x1,e1⟩:=GA h1;cases e0;cases e1
 exact⟨⟨x0,x1⟩,rfl⟩
def apN(h:uF enc W n 72 cs=φ y)(hl:cs.length=4):∃x:Piece,Piece.R x cs:=by
 obtain⟨a,b,c,d,rfl⟩:∃a b c d,cs=[a,b,c,d]:=by
  match cs,hl with
  | [a,b,c,d],_=>exact⟨a,b,c,d,rfl⟩
 obtain⟨_,_,h0⟩:=tD Tryz.underlying72 h 0 (u:=9) (o:=0) W7 ⟨_,rfl,rfl,rfl⟩;obtain⟨_,_,h1⟩:=tD Tryz.underlying72 h 1 (u:=37) (o:=1) LX ⟨_,rfl,rfl,rfl⟩;obtain⟨_,_,h2⟩:=tD Tryz.underlying72 h 2 (u:=3) (o:=3) Fy ⟨_,rfl,rfl,rfl⟩;simp only[Aki,Akj] at h0 h1 h2;obtain⟨s,e0,hs⟩:=aco h0;obtain⟨x,e1⟩:=UA h1;obtain⟨z,e2⟩:=GA h2;cases e0;cases e1;cases e2
 exact⟨⟨s,x,z⟩,rfl,hs⟩
def afe(h:uF enc W n 59 cs=φ y)(hl:cs.length=3):∃x:aP,aP.R W W.heap.size x cs/\∀u∈cs,Sv (mO W) u:=by
 obtain⟨a,b,c,rfl⟩:∃a b c,cs=[a,b,c]:=by
  match cs,hl with
  | [a,b,c],_=>exact⟨a,b,c,rfl⟩
 obtain⟨_,_,h0⟩:=tD Tryz.underlying59 h 0 (u:=9) (o:=0) W7 ⟨_,rfl,rfl,rfl⟩;obtain⟨_,_,h1⟩:=tD Tryz.underlying59 h 1 (u:=3) (o:=1) Fy ⟨_,rfl,rfl,rfl⟩;obtain⟨_,_,h2⟩:=tD Tryz.underlying59 h 2 (u:=57) (o:=2) afR ⟨_,rfl,rfl,rfl⟩;simp only[Aki,Akj] at h0 h1 h2;obtain⟨s,e0,hs⟩:=aco h0;obtain⟨z,e1⟩:=GA h1;obtain⟨v,xs,e2,hr,hv⟩:=KJ (R:=Span.R) Tryz.underlying57 LX (by omega) (λm cs y h _=>UA h) h2
 cases e0;cases e1;cases e2
 refine⟨⟨s,z,xs⟩,⟨_,rfl,hs,hr⟩,λu hu=>?_⟩
 simp only[ϥ,ϸ,or_false] at hu;rcases hu with rfl|rfl|rfl
 ·intro A n c e;cases e
 ·intro A n c e;cases e
 ·exact hv
def asr(h:uF enc W n 95 cs=φ y)(hl:cs.length=3):∃x:Tw.Tape,Tw.Tape.R W W.heap.size x cs/\∀u∈cs,Sv (mO W) u:=by
 obtain⟨a,b,c,rfl⟩:∃a b c,cs=[a,b,c]:=by
  match cs,hl with
  | [a,b,c],_=>exact⟨a,b,c,rfl⟩
 obtain⟨_,_,h0⟩:=tD Tryz.underlying95 h 0 (u:=33) (o:=0) afQ ⟨_,rfl,rfl,rfl⟩;obtain⟨_,_,h1⟩:=tD Tryz.underlying95 h 1 (u:=37) (o:=1) LX ⟨_,rfl,rfl,rfl⟩;simp only[Aki,Akj] at h0 h1;obtain⟨v,xs,e0,hr,hv⟩:=KJ (R:=cH) Tryz.underlying33 Fy (by omega) (λm cs y h _=>GA h) h0
 obtain⟨x,e1⟩:=UA h1;cases e0;cases e1
 refine⟨⟨xs,x⟩,⟨_,rfl,hr⟩,λu hu=>?_⟩
 simp only[ϥ,ϸ,or_false] at hu;rcases hu with rfl|rfl|rfl
 ·exact hv
 ·intro A n c e;cases e
 ·intro A n c e;cases e
def afj(h:uF enc W n 26 cs=φ y):∃(b:an) (pv bv tv:υ),cs=[ξ κ b.ab,pv,bv,tv]/\Lh (mO W) W W.heap.size b pv bv tv:=by
 have hl:=aaE Tryz.underlying26 h;rw[afP] at hl;obtain⟨a,b,c,d,rfl⟩:∃a b c d,cs=[a,b,c,d]:=by
  match cs,hl with
  | [a,b,c,d],_=>exact⟨a,b,c,d,rfl⟩
 obtain⟨_,_,h0⟩:=tD Tryz.underlying26 h 0 (u:=3) (o:=0) Fy ⟨_,rfl,rfl,rfl⟩;obtain⟨_,_,h1⟩:=tD Tryz.underlying26 h 1 (u:=22) (o:=1) afM ⟨_,rfl,rfl,rfl⟩;obtain⟨_,_,h2⟩:=tD Tryz.underlying26 h 2 (u:=23) (o:=2) afN ⟨_,rfl,rfl,rfl⟩;obtain⟨_,_,h3⟩:=tD Tryz.underlying26 h 3 (u:=24) (o:=3) afO ⟨_,rfl,rfl,rfl⟩;simp only[Aki,Akj] at h0 h1 h2 h3;obtain⟨z,e0⟩:=GA h0;obtain⟨pv,ps,e1,r1,s1⟩:=KJ (R:=Piece.R) Tryz.underlying22 afT (by omega) (λm cs y h hl=>apN h hl) h1
 obtain⟨bv,bs,e2,r2,s2⟩:=KJ (R:=λx cs=>aP.R W W.heap.size x cs/\∀u∈cs,Sv (mO W) u) Tryz.underlying23 afS (by omega) (λm cs y h hl=>afe h hl) h2
 obtain⟨tv,ts,e3,r3,s3⟩:=KJ (R:=λx cs=>Tw.Tape.R W W.heap.size x cs/\∀u∈cs,Sv (mO W) u) Tryz.underlying24 afU (by omega) (λm cs y h hl=>asr h hl) h3
 cases e0;cases e1;cases e2;cases e3
 exact⟨⟨z,ps,bs,ts⟩,_,_,_,rfl,r1,r2,r3,s1,s2,s3⟩
end
end Go.Jn
namespace Go.Jn
open Go Go.Proofs Go.Sim Go.Conc
def apx(h:∀c,C.clean c->C'.clean c){o:Obj}(x:oS C ρ o o'):oS C' ρ o o':=by
 cases x with
 |cells e hc hf=>exact .cells e hc hf
 |map clock hm=>exact .map clock hm
 |loop hl=>
  cases hl with
  |mk st vW fn ps vw body ht hd ha hb hp=>exact .loop (.mk st vW fn ps vw body ht hd (h _ ha) (h _ hb) λc hc=>h _ (hp c hc))
 |Kt=>exact .Kt
 |calls=>exact .calls
 |stringIter s p=>exact .stringIter s p
 |number lost ha=>exact .number lost ha
def agC(h:∀c,C.clean c->C'.clean c)(x:bX C ρ w w'):bX C' ρ w w':=
 ⟨x.fx,x.du,x.fn,x.inj,λa b o hab ho=>by obtain⟨o',h1,h2⟩:=x.obj a b o hab ho;exact⟨o',h1,apx h h2⟩⟩
def V5(f r:Nat)(g:ϐ)(_:Ψ):Prop:=∃(t:Array υ) (todo:List Item),t[r]?=φ (.bool θ)/\g=aR ⟨f,t,todo,[b6],.returning,.normal,ν⟩ []
def IA:Tl:=⟨.skip,[],[],[],.normal⟩
def amP{f:Nat}(hc:cy ϋ G0 c=θ)
 (hl:∀T,c.wp lp (λe bI _=>e=.ret/\bI.defers=[b6]/\bI.tmps[r]?=φ (.bool θ)) ⟨tl,[b6]⟩ (bh wl T))
 (hW:bX C1 ρ wl w)(hg:ρ 0 0)(hn:bN wl.heap)(ht:aV ρ tl t'):
 Sim.Safe lp (V5 f r) (aR ⟨f,tl,[.code c,.code fl],[b6],.run,.normal,ν⟩ []) wl:=by
 have hG:∀g,G0 g=θ->ρ g g:=λg uQ=>by
  have:g=0:=by simpa [G0] using uQ
  subst this;exact hg
 let b:ϝ:={ (default:ϝ) with fn:=f,kind:=.normal}
 have bY:gT CA IA ρ θ ⟨f,tl,[.code c,.code fl],[b6],.run,.normal,ν⟩ ⟨f,t',[.code c],[],.run,.normal,ν⟩:=
  .mk f ht (.cons (.code c hc) .stop) .stop .run .none ⟨λh=>by simp at h,λ_=>rfl,λh=>absurd rfl h,λh=>by simp at h,rfl,λ_=>rfl⟩
 have hi:Inv CA IA G0 (aR ⟨f,tl,[.code c,.code fl],[b6],.run,.normal,ν⟩ []) wl:=⟨hn,ρ,θ,_,_,_,_,w,rfl,hG,bY,.base,agC (C:=C1) (C':=CA) (λ_ h=>h) hW⟩
 have h:=Uh (S:=IA) ahn (λ_=>rfl) (Q:=V5 f r) (λg w T h=>h) ?_ hi ?_
 ·rw[Ou] at h;exact h
 ·rintro g w ⟨t,todo,_,rfl⟩ ch;simp
 ·intro T
  rw[Ou];obtain⟨e,bI,aa,⟨rfl,h2,h3⟩,todo,n,hr⟩:=hl T b [.code fl] [];refine⟨n,_,_,aa,hr,bI.tmps,todo,h3,?_⟩
  show aR _ _=aR _ _;rw[<-h2];rfl
def apJ:Past NA w.heap.size #[]:=Past.mono past_nil (Ϡ _)
def results1(hr:fn.results=#[.tmp r])(t:Array υ)(w:Ψ):(results fn t).runT P w #[]=(.ok (t.getD r ω) w,#[]):=by
 have e:results fn t=Ŋ (t.getD r ω):=by
  unfold results;rw[hr];simp only[ĺ,List.mapM_cons,Akd];rfl
 rw[e];rfl
def amO(Ef:Iz){f:Nat}(hf:ϋ.funcs[f]?=φ fn)(hb:fn.body=φ c)(hc:cy ϋ G0 c=θ)(hr:fn.results=#[.tmp r])(hi:¬2=f)
 (hl:∀T,c.wp lp (λe bI _=>e=.ret/\bI.defers=[b6]/\bI.tmps[r]?=φ (.bool θ)) ⟨tl,[b6]⟩ (bh wl T))
 (hW:bX C1 ρ wl W)(hg:ρ 0 0)(hn:bN wl.heap)(ht:aV ρ tl (args++ϱ (fn.ntmps - args.size) ω))(r8:∀b,tq ρ wl b)(hM:xT W):
 ∃N last o w' t',ā ϋ (N+1) (solo (G (í ϋ f args .normal) []) W) #[]=(.ended o w',t')/\runN ϋ N (solo (G (í ϋ f args .normal) []) W)=.next last/\
  step ϋ last=.ended o w'/\Conc.Good ϋ (λv w'=>v=.bool θ/\Γ W.heap.size W w') last o w' t':=by
 have hs:=amP (f:=f) (r:=r) hc hl hW hg hn ht;have hG:∀g,G0 g=θ->ρ g g:=λg uQ=>by
  have:g=0:=by simpa [G0] using uQ
  subst this;exact hg
 have bY:gT C1 IA ρ θ ⟨f,tl,[.code c,.code fl],[b6],.run,.normal,ν⟩ ⟨f,args++ϱ (fn.ntmps - args.size) ω,[.code c],[],.run,.normal,ν⟩:=
  .mk f ht (.cons (.code c hc) .stop) .stop .run .none ⟨λh=>by simp at h,λ_=>rfl,λh=>absurd rfl h,λh=>by simp at h,rfl,λ_=>rfl⟩
 have hR:tA IA (allM W) ρ (aR ⟨f,tl,[.code c,.code fl],[b6],.run,.normal,ν⟩ []) wl (aR ⟨f,args++ϱ (fn.ntmps - args.size) ω,[.code c],[],.run,.normal,ν⟩ []) W:=
  ⟨.inside bY .base,hW,hG,Fs hW,λ_ hb=>qN.1 hb⟩
 have he:=FH hf hb args .normal;rw[he];have hF:Fr ϋ #[aR ⟨f,args++ϱ (fn.ntmps - args.size) ω,[.code c],[],.run,.normal,ν⟩ []] W #[] (λ_=>0) (aR ⟨f,args++ϱ (fn.ntmps - args.size) ω,[.code c],[],.run,.normal,ν⟩ []):=
  ⟨rfl,λi x h hx=>by
    have:i<1:=(Ϝ.1 hx).1
    omega,apJ,λop h=>absurd h (by simp),λop h=>absurd h (by simp)⟩
 obtain⟨N1,oX,aC,tY,ub,yN,ic,aI,fE,aa,r1,zQ,⟨t,todo,h0,rfl⟩,DG,hB,hk⟩:=
  asK Ef (λg w ⟨t,todo,_,e⟩=>by rw[e]) hs (n:=0) rfl hR hM (r8 0) ν hF
 have xa:Γ W.heap.size W aC:=⟨hB.os,hB.tape,hB.e,hB.size,λb hb=>hk b hb (r8 b)⟩
 have xc:∀ao,AtRel aC ao->AtEnd ϋ NA aC.heap.size (λv w'=>v=.bool θ/\Γ W.heap.size W w') ic ao:=by
  rintro ao ⟨d,rfl⟩;have gr:=DG.gr;generalize eg:aR ⟨f,t,todo,[b6],.returning,.normal,ν⟩ []=gg at gr;cases gr with
  | @inside b fr ba cs bp bY hL=>
    have e1:=congrArg Goroutine.frame eg;have e2:=congrArg Aj7 eg;simp only at e1 e2;subst e1 e2;obtain⟨rfl,rfl⟩:=P6 hL;cases bY with
    | @mk _ t1 t2 Ei k1 k2 mS d1 d2 ql m1 yy r1 r2 Ah kd2 oY=>
      cases Ah;have xe:=oY.ID rfl;subst xe;have hD:=Dl ql;subst hD;obtain⟨v',J1,Cf⟩:=NU Ei h0;cases Cf;have Cc:t2.getD r ω=.bool θ:=cK J1;refine⟨rfl,.bool θ,#[],?_,λe he=>absurd he (by simp),rfl,xa.os,xa.tape,xa.output,xa.size,xa.block⟩
      have e:Î ϋ θ ⟨f,t2,k2,[],.returning,.normal,ν⟩ [] ν (aC.at d)=.ended (.done (.bool θ)) (aC.at d) #[]:=by
       unfold Î;simp only[hf,results1 hr,Cc,Az,Þ,doReturn];simp[hi]
      exact e
  |hole f hf hx h au hL=>
   have e2:=congrArg Aj7 eg;simp at e2
 obtain⟨N2,last,o,w',t',k1,k2,k3,k4⟩:=beside_ends (D:=λ_ _ _=>False) (λ_ _ _ h=>h.elim) (sl:=tY) zQ.zero zQ.amV zQ.nO (n:=0) xc
 refine⟨N1+N2,last,o,w',t',?_,?_,k3,k4⟩
 ·rw[Nat.add_assoc]
  exact Ax _ _ _ r1 k1
 ·have:=congrArg Prod.fst (Ax N1 (solo (G ⟨f,args++ϱ (fn.ntmps - args.size) ω,[.code c],[],.run,.normal,ν⟩ []) W) #[] r1 rfl:_=ā ϋ N2 (crowd oX aC tY) ub)
  rw[runNT_fst,runNT_fst] at this;rw[this];exact k2
end Go.Jn
namespace Go.Jn
open Go Go.Proofs Go.Sim Go.Tw
def yH(W:Ψ):Ren:=λa b=>a=b/\mO W a
def Pv.self(h:Pv (mO W) v):ah (yH W) v v:=by
 cases v;case bool b=>exact .bool b
 case int k n=>exact .int k n
 case float=>exact h.elim
 case complex=>exact h.elim
 case string s=>exact .string s
 case pointer p=>
  cases p with
  |none=>exact .ptrNone
  |some a=>exact .ptr ⟨⟨rfl,h⟩,rfl,rfl⟩
 case slice p n c=>
  cases p with
  |none=>exact .sliceNone n c
  |some a=>
   rcases h with h| ⟨rfl,rfl⟩
   ·exact .slice n c ⟨⟨rfl,h⟩,rfl,rfl⟩
   ·exact .sliceDead _ _
 case map p=>
  cases p with
  |none=>exact .mapNone
  |some a=>exact h.elim
 case chan p=>
  cases p with
  |none=>exact .chanNone
  |some a=>exact h.elim
 case func f x y=>
  cases f with
  |func f=>
   obtain⟨rfl,rfl⟩:=h;exact .func (.func f) rfl (λi hi _=>absurd hi (by simp)) rfl (λi hi _=>absurd hi (by simp))
  |_=>exact h.elim
 case nilFunc=>exact .nilFunc
 case iface=>exact h.elim
 case nilIface=>exact .nilIface
 case agg=>exact h.elim
 case tuple=>exact h.elim
def Oe(W:Ψ)(c:Array υ):∃u:Array υ,aV (yH W) u c/\u.size=c.size/\∀(i:Nat) (v:υ),c[i]?=φ v->Pv (mO W) v->u[i]?=φ v:=by
 have key:∀v',∃u,ah (yH W) u v'/\(Pv (mO W) v'->u=v'):=λv'=>by
  by_cases hp:Pv (mO W) v'
  ·exact⟨v',hp.self,λ_=>rfl⟩
  ·obtain⟨u,hu⟩:=ye (yH W) v'
   exact⟨u,hu,λh=>absurd h hp⟩
 refine⟨c.map λv=>ã (key v),⟨by simp,λi h1 h2=>?_⟩,by simp,λi v hi hp=>?_⟩
 ·simp only[Array.getElem_map]
  exact(É (key _)).1
 ·rw[Ć,hi]
  exact congrArg φ ((É (key v)).2 hp)
def frI(W:Ψ):Obj->Obj
 | .cells c e _=>.cells (ã (Oe W c)) e (0,(ã (Oe W c)).size)
 |_=>.cells #[] 0 (0,0)
def tE(W:Ψ):Ψ:={W with heap:=W.heap.map (frI W)}
section
variable {W:Ψ}
def XS:(tE W).heap.size=W.heap.size:=by simp[tE]
def Mb{c:Array υ}{fr:Nat×Nat}(h:W.heap[a]?=φ (.cells c e fr)):
 ∃u:Array υ,(tE W).heap[a]?=φ (.cells u e (0,u.size))/\aV (yH W) u c/\u.size=c.size/\∀(i:Nat) (v:υ),c[i]?=φ v->Pv (mO W) v->u[i]?=φ v:=by
 refine⟨ã (Oe W c),?_,É (Oe W c)⟩
 unfold tE;simp only[Ć,h,ç]
 rfl
def aiu(C:bS):bX C (yH W) (tE W) W where
 fx a b hab:=by rw[XS];exact Qt hab.2
 du a b hab:=by rw[<-hab.1];exact Qt hab.2
 fn a b b' x y:=x.1.symm.trans y.1
 inj a a' b x y:=x.1.trans y.1.symm
 obj a b o hab ho:=by
  obtain⟨rfl,c,e,fr,h⟩:=hab;obtain⟨u,h1,h2,h3,h4⟩:=Mb h;rw[h1] at ho;cases ho;exact⟨_,h,.cells e h2 (.inr ⟨rfl,ϊ _⟩)⟩
def aiv(b:Nat):tq (yH W) (tE W) b:=by
 rintro a ⟨rfl,c,e,fr,h⟩;obtain⟨u,h1,h2,h3,h4⟩:=Mb h;exact⟨_,h1,rfl,ϊ _⟩
def aix:bN (tE W).heap:=by
 intro o ho hb;obtain⟨a,ha⟩:=Ajs ho
 unfold tE at ha;simp only[Ć] at ha
 obtain⟨o1,_,rfl⟩:=Ă.1 ha;cases o1<;>exact hb
def ait{p:ϖ}(h: W.cell? p=φ v)(hp:Pv (mO W) v):(tE W).cell? p=φ v:=by
 have hS:=Qu h;obtain⟨c,e,fr,ho⟩:=hS;obtain⟨u,h1,h2,h3,h4⟩:=Mb ho;unfold World.cell? at h |-
 rw[ho] at h;rw[h1];simp only at h |-
 split at h
 ·cases h
 ·rename_i hs
  rw[if_neg hs];exact h4 _ _ h hp
variable {α:Type}{B sz:Nat}{R R':α->List υ->Prop}{v:υ}{xs:List α}
def KH(aL:0<sz)(h:Row W B sz R v xs)(he:Sv (mO W) v):Pv (mO W) v:=by
 obtain⟨A,c,rfl,h1,h2,h3⟩:=h;cases A with
 |none=>exact trivial
 |some A=>
  cases xs with
  |nil=>exact(he A _ c rfl rfl).imp id λh=>⟨rfl,h⟩
  |cons x xs=>
   obtain⟨ad,e,hb,h4⟩:=h3 (by simp)
   cases e;obtain⟨cs,_,hl,hc⟩:=h4 0 x rfl;obtain⟨u,hu⟩:∃u,cs[0]?=φ u:=⟨cs[0]'(by omega),Ä _⟩
   have:=Qu (hc 0 u hu);rw[cq] at this;exact .inl this
def I2(h:Row W B sz R v xs)(hR:∀x cs,R x cs->R' x cs/\∀u∈cs,Pv (mO W) u):Row (tE W) B sz R' v xs:=by
 obtain⟨A,c,e,h1,h2,h3⟩:=h;refine⟨A,c,e,h1,h2,λhx=>?_⟩
 obtain⟨ad,hA,hb,h4⟩:=h3 hx;refine⟨ad,hA,hb,λi x hi=>?_⟩
 obtain⟨cs,r,hl,aq⟩:=h4 i x hi;have:=hR x cs r;exact⟨cs,this.1,hl,λj u hu=>ait (aq j u hu) (this.2 u (ϡ hu))⟩
def ais(h:Lh (mO W) W B b pv bv tv):bq (tE W) B b pv bv tv/\Pv (mO W) pv/\Pv (mO W) bv/\Pv (mO W) tv:=by
 refine⟨⟨I2 h.pieces λx cs r=>⟨r,λu hu=>?_⟩,I2 h.aF λx cs r=>?_,I2 h.aM λx cs r=>?_⟩,KH (by omega) h.pieces h.sp,KH (by omega) h.aF h.sb,KH (by omega) h.aM h.st⟩
 ·obtain⟨rfl,_⟩:=r
  simp only[ϥ,ϸ,or_false] at hu;rcases hu with rfl|rfl|rfl|rfl<;>exact trivial
 ·obtain⟨⟨kv,rfl,k1,k2⟩,k3⟩:=r
  have hp:Pv (mO W) kv:=KH (by omega) k2 (k3 kv (by simp))
  refine⟨⟨kv,rfl,k1,I2 k2 λx cs r=>⟨r,λu hu=>?_⟩⟩,λu hu=>?_⟩
  ·rw[show cs=_ from r] at hu
   simp only[ϥ,ϸ,or_false] at hu;rcases hu with rfl|rfl<;>exact trivial
  ·simp only[ϥ,ϸ,or_false] at hu
   rcases hu with rfl|rfl|rfl
   ·exact trivial
   ·exact trivial
   ·exact hp
 ·obtain⟨⟨kv,rfl,k2⟩,k3⟩:=r
  have hp:Pv (mO W) kv:=KH (by omega) k2 (k3 kv (by simp))
  refine⟨⟨kv,rfl,I2 k2 λx cs r=>⟨r,λu hu=>?_⟩⟩,λu hu=>?_⟩
  ·rw[show cs=_ from r] at hu
   simp only[ϥ,ϸ,or_false] at hu;rcases hu with rfl;exact trivial
  ·simp only[ϥ,ϸ,or_false] at hu
   rcases hu with rfl|rfl|rfl
   ·exact hp
   ·exact trivial
   ·exact trivial
def aiw(h:xT W):nB (tE W)/\yH W 0 0:=by
 obtain⟨fr,h⟩:=h;refine⟨?_,rfl,_,_,_,h⟩
 obtain⟨u,h1,h2,h3,h4⟩:=Mb h;have e:u=#[.func (.func 234) #[] #[],.func (.func 236) #[] #[]]:=by
  have a0:=h4 0 _ rfl ⟨rfl,rfl⟩;have a1:=h4 1 _ rfl ⟨rfl,rfl⟩;refine ĸ λi=>?_
  match i with
  |0=>rw[a0];rfl
  |1=>rw[a1];rfl
  |i+2=>
   rw[Ô (by rw[h3];simp),Ô (by simp)]
 subst e;exact⟨_,h1⟩
end
end Go.Jn
namespace Go.Jn
open Go Go.Proofs Go.Sim Go.Tw Go.ChangeShapes Go.WideShapes Go.ChangeAt Go.RowKit
abbrev Ki{H:Type}:List (String×DataW H):=[("ribband/mould.measures",YtfifdjajcogccaaGreatDoor.Rows.laid_ribband_mould_measures)]
def apy:ownKnob ϋ.godebug=ν:=by kernel_rfl
def amL:laidOutB ϋ=θ:=by kernel_rfl
def aiJ:ϋ.globalNamed "ribband/mould.measures" =φ 0:=by kernel_rfl
def aso:(ϋ.globals[0]?).map (·.type)=φ 146:=by kernel_rfl
def afK:ϋ.cellsOf 145=1:=by kernel_rfl
def afL:ϋ.cellsOf 146=2:=by kernel_rfl
def afJ:ϋ.cellsOf 143=1:=by kernel_rfl
def agT(os:Os)(args:Array υ):laidMetH ϋ Ki ((World.doorLaid ϋ 600 os).forCall (λ_ _=>0) ⟨#[],args,[]⟩).memory:=
 laidMetH_of_parts3 (fuel:=8) (laidMet_of_run' 8 (by kernel_rfl) (by kernel_rfl)) (by kernel_rfl) (by kernel_rfl)
def arA(os:Os)(args:Array υ):((World.doorLaid ϋ 600 os).forCall (λ_ _=>0) ⟨#[],args,[]⟩).Shaped ϋ:=
 World.shaped_of_RefB (by kernel_rfl) (by kernel_rfl)
def aeV:(((begin ϋ (λ_ _=>0) default).world.heap[0]?).bind Obj.row?).map (λx=>(x.1.size,x.2))=φ (2,146):=by kernel_rfl
def aiL:0<ϋ.globals.size:=of_decide_eq_true (by kernel_rfl)
def abi{c:υ}{d:DataW (List UInt8)}{q:List MemPlace}{b:UInt8}{r:List UInt8}{f0:Å}
 (Gi:((List.range ϋ.funcs.size).filter λf=>(ϋ.funcs[f]?).any (·.name.toUTF8.data.toList==b::r))=[f0])
 (h:DataW.trod (funcToken ϋ) ϋ W 0 (λ_=>θ) θ n 145 [c]=φ (d,q))(hd:d=.agg [.held (b::r)]):c=.func (.func f0) #[] #[]:=by
 obtain⟨xs,m,_,hx,_,hl,h1⟩:=DataW.trod_struct Tryz.underlying145 h;have e:=congrArg Prod.fst hx;simp only[hd,DataW.agg.injEq] at e;match xs,hl with
 | [x],_=>
   simp only[ď,Ŝ,List.cons.injEq,and_true] at e;have h2:DataW.trod (funcToken ϋ) ϋ W 0 (λ_=>θ) θ m 143 [c]=φ x:=by
     have:=h1 0 _ rfl;simpa [afJ] using this
   obtain⟨x1,x2⟩:=x;simp only at e;subst e;exact func_of_trod Tryz.underlying143 Gi h2
def an1(hs:W.ShapedOpen ϋ)(h:laidMetH ϋ Ki W):xT W:=by
 obtain⟨g,t,cs,fuel,p,hg,ht,hv,hd⟩:=h.funcs (Ã.2 rfl);obtain rfl:=Ϟ (aiJ.symm.trans hg);obtain rfl:=Ϟ (aso.symm.trans ht);obtain⟨xs,m,_,hx,hl,hn,h1⟩:=DataW.trod_array Tryz.underlying146 hd;rw[afL] at hl;have e:=congrArg Prod.fst hx;match cs,hl with
 | ⟨[c0,c1]⟩,_=>
 match xs,hn with
 | [x0,x1],_=>
   have e2:(DataW.agg [.agg [.held [114,105,98,98,97,110,100,47,109,111,117,108,100,46,109,101,97,115,117,114,101,115,36,49]],.agg [.held [114,105,98,98,97,110,100,47,109,111,117,108,100,46,109,101,97,115,117,114,101,115,36,50]]]:DataW (List UInt8))=.agg [x0.1,x1.1]:=e;simp only[DataW.agg.injEq,List.cons.injEq,and_true] at e2;have k0:=h1 0 (by omega)
   have k1:=h1 1 (by omega)
   simp only[afK] at k0 k1;have f0:c0=.func (.func 234) #[] #[]:=abi (by kernel_rfl) (show DataW.trod (funcToken ϋ) ϋ W 0 (λ_=>θ) θ m 145 [c0]=φ (x0.1,x0.2) from k0) e2.1.symm
   have f1:c1=.func (.func 236) #[] #[]:=abi (by kernel_rfl) (show DataW.trod (funcToken ϋ) ϋ W 0 (λ_=>θ) θ m 145 [c1]=φ (x1.1,x1.2) from k1) e2.2.symm
   subst f0 f1;have hb:=aeV;cases hz:((begin ϋ (λ_ _=>0) default).world.heap[0]?).bind Obj.row? with
   |none=>rw[hz] at hb;cases hb
   |some z=>
    rw[hz] at hb;obtain⟨zero,t⟩:=z;simp only[ç,ï,Prod.mk.injEq] at hb;obtain⟨bu,rfl⟩:=hb;obtain⟨bp,hc,aL,_⟩:=hs.1 0 zero 146 aiL hz;refine⟨(0,0),?_⟩
    rw[hc];have cell:∀i,W.cell? ⟨0,i,ν⟩=bp[i]?:=λi=>cell_of_row W 0 i _ 146 _ hc
    have a0:=World.var?_cell hg hv 0
    have a1:=World.var?_cell hg hv 1
    rw[cell] at a0 a1;have:bp=#[.func (.func 234) #[] #[],.func (.func 236) #[] #[]]:=by
     refine ĸ λi=>?_
     match i with
     |0=>exact a0
     |1=>exact a1
     |i+2=>rw[Ô (by rw[aL,bu];omega),Ô (by simp)]
    rw[this]
end Go.Jn
namespace Go.Jn
open Go Go.Proofs Go.Sim Go.Conc Go.Tw Go.RowKit
def ao3:stub.ntmps=1:=rfl
def aqm:stub.results=#[.tmp 0]:=rfl
def Oj(w:Ψ):Calls lp 21 #[] w λe w'=>e=Ω (.bool θ)/\w=w':=by
 letI:=iz
 go_enter Me,ao3;unfold qF;go_wp2;exact bodyPost_ret (v:=.bool θ) (by simp[results,aqm,go_sem]) rfl ⟨rfl,rfl⟩
@[go_sem]theorem call21(args:Array υ)(w:Ψ):(callFunc 21 args).run (@Tw.prog iz) w=.ok (.enter 21 args) w:=by
  obtain⟨c,hc,_⟩:=Ol;have h:=IN (P:=lp) Me hc UD args w;have:=congrArg Prod.fst h;rw[Sem.runT_fst] at this;exact this
def aic{mI:List Cut->Int}{e:Ending}(hn:ow b mI=ν)(h:E5 w b mI e w'):e=Ω (μ #[ζ ν 0 0,ξ κ 0,.bool χ,ξ κ (cG b 0)])/\Γ w.heap.size w w':=by
 obtain⟨cv,mv,fv,rfl,aW,hb⟩:=h;rw[hn] at aW;obtain⟨rfl,rfl,rfl⟩:=aW;exact⟨rfl,hb⟩
def WA{mI:List Cut->Int}{x:List Cut×Int}(h:ow b mI=φ x):cG b 0=0:=by
 unfold ow at h;split at h
 ·assumption
 ·cases h
def aid{mI:List Cut->Int}{e:Ending}{x:List Cut}{m:Int}(hn:ow b mI=φ (x,m))(h:E5 w b mI e w'):∃A k c,e=Ω (μ #[.slice A k c,ξ κ m,.bool θ,ξ κ 0])/\w'.ownsRow w.heap.size 56 2 (.slice A k c) b.pieces.length (x.flatMap Cut.vs)/\Γ w.heap.size w w':=by
 letI:=iz
 obtain⟨cv,mv,fv,rfl,aW,hb⟩:=h;rw[hn] at aW;obtain⟨ho,rfl,rfl⟩:=aW;obtain⟨A,k,c,rfl⟩:=qx ho;exact⟨A,k,c,by rw[WA hn],ho,hb⟩
def ail(h:Dq b=θ):dg b=0:=by
 unfold Dq at h;simp only[Ϫ,decide_eq_true_eq] at h;exact h.2
def c7:ϑ:=(Tryz.f7.body).getD .skip
def t7(v:υ)(p q:Nat):Array υ:=#[v,.int .u8 p,.int .u8 q,ω,ω,ω,ω,ω,ω,ω,ω,ω,ω,ω,ω,ω,ω,ω,ω,ω,ω,ω,ω,ω,ω,ω,ω,ω,ω,ω,ω,ω,ω,ω,ω,ω,ω,ω,ω,ω,ω,ω,ω,ω,ω,ω,ω,ω,ω,ω,ω,ω,ω,ω,ω,ω,ω,ω,ω,ω,ω,ω,ω,ω,ω,ω,ω,ω,ω,ω,ω,ω,ω,ω,ω,ω,ω,ω,ω,ω,ω,ω,ω,ω,ω,ω,ω,ω,ω,ω,ω,ω,ω,ω,ω,ω,ω,ω,ω,ω,ω,ω,ω,ω,ω,ω,ω,ω,ω,ω,ω,ω,ω,ω,ω,ω,ω,ω,ω,ω,ω]
def vr(r:Nat)(e:Exit)(a:Act)(_:Ψ):Prop:=e=.ret/\a.defers=[b6]/\a.tmps[r]?=φ (.bool θ)
end Go.Jn
namespace Go.Jn
open Go Go.Proofs Go.Sim Go.Tw Go.Conc Go.ChangeShapes Go.WideShapes Go.ChangeAt Go.RowKit
open YtfifdjajcogccaaGreatDoor
def ap7(q1:Pv (mO W) pv)(q2:Pv (mO W) bv)(q3:Pv (mO W) tv):ah (yH W) (η #[ξ κ b.ab,pv,bv,tv]) (η #[ξ κ b.ab,pv,bv,tv]):=
 .agg rfl λi h1 h2=>by
  match i,h1,h2 with
  |0,_,_=>exact .int _ _
  |1,_,_=>exact q1.self
  |2,_,_=>exact q2.self
  |3,_,_=>exact q3.self
def aqc(ρ:Ren)(n:Nat):aV ρ (ϱ n ω) (ϱ n ω):=
 bU.refl λa ha=>by
  rw[(Aav.1 ha).2];exact ah.tuple' .empty
def aqb{a b c a' b' c':υ}(h1:ah ρ a a')(h2:ah ρ b b')(h3:ah ρ c c'):aV ρ #[a,b,c] #[a',b',c']:=
 ⟨rfl,λi k1 k2=>by
   match i,k1,k2 with
   |0,_,_=>exact h1
   |1,_,_=>exact h2
   |2,_,_=>exact h3⟩
end Go.Jn
namespace Go.Jn
open Go Go.Proofs Go.Sim Go.Conc Go.Tw Go.RowKit
def c6:ϑ:=(Tryz.f6.body).getD .skip
def t6(v k:υ):Array υ:=#[v,k,ω,ω,ω,ω,ω,ω,ω,ω,ω,ω,ω,ω,ω,ω,ω,ω,ω,ω,ω,ω,ω,ω,ω,ω,ω,ω,ω,ω,ω,ω,ω,ω,ω,ω,ω,ω,ω,ω,ω,ω,ω,ω,ω,ω,ω,ω,ω,ω,ω,ω,ω,ω,ω,ω,ω,ω,ω,ω,ω,ω,ω,ω,ω,ω,ω,ω,ω,ω,ω,ω,ω,ω,ω,ω,ω,ω,ω,ω,ω,ω,ω,ω,ω,ω,ω,ω,ω,ω,ω,ω,ω,ω,ω,ω,ω,ω,ω,ω,ω,ω,ω,ω,ω,ω,ω,ω,ω,ω,ω,ω,ω,ω,ω,ω,ω,ω,ω,ω,ω,ω,ω,ω,ω,ω,ω,ω,ω,ω,ω,ω,ω,ω,ω,ω,ω,ω,ω,ω,ω,ω,ω,ω,ω,ω,ω,ω,ω,ω,ω,ω,ω,ω,ω,ω,ω,ω,ω,ω,ω,ω,ω,ω,ω,ω,ω,ω,ω,ω,ω,ω,ω,ω,ω,ω,ω,ω,ω,ω,ω,ω,ω,ω,ω,ω,ω,ω,ω,ω,ω,ω,ω,ω,ω,ω,ω,ω,ω,ω,ω,ω,ω,ω,ω,ω,ω,ω,ω,ω]
def c8:ϑ:=(Tryz.f8.body).getD .skip
def t8(v:υ)(p q:Nat):Array υ:=#[v,.int .u8 p,.int .u8 q,ω,ω,ω,ω,ω,ω,ω,ω,ω,ω,ω,ω,ω,ω,ω,ω,ω,ω,ω,ω,ω,ω,ω,ω,ω,ω,ω,ω,ω,ω,ω,ω,ω,ω,ω,ω,ω,ω,ω,ω,ω,ω,ω,ω,ω,ω,ω,ω,ω,ω,ω,ω,ω,ω,ω,ω,ω,ω,ω,ω,ω,ω,ω,ω,ω,ω,ω,ω,ω,ω,ω,ω,ω,ω,ω,ω,ω,ω,ω,ω,ω,ω,ω,ω,ω,ω,ω,ω,ω,ω,ω,ω,ω,ω,ω,ω,ω,ω,ω,ω,ω,ω,ω,ω,ω,ω,ω,ω,ω,ω,ω,ω,ω,ω,ω,ω,ω,ω,ω,ω,ω,ω,ω,ω,ω,ω,ω,ω,ω,ω,ω,ω,ω,ω,ω,ω,ω,ω,ω,ω,ω,ω,ω,ω,ω,ω,ω,ω,ω,ω,ω,ω,ω,ω,ω,ω,ω,ω,ω,ω,ω,ω,ω,ω,ω,ω,ω,ω,ω,ω,ω,ω,ω,ω,ω,ω,ω,ω,ω,ω,ω,ω,ω,ω,ω,ω,ω,ω,ω,ω,ω,ω,ω,ω,ω,ω,ω,ω,ω,ω,ω,ω,ω,ω,ω,ω,ω,ω,ω,ω,ω,ω,ω,ω,ω,ω,ω,ω,ω,ω,ω,ω,ω,ω,ω,ω,ω,ω,ω,ω,ω,ω,ω,ω,ω,ω,ω,ω,ω,ω,ω,ω,ω,ω,ω,ω,ω,ω,ω,ω,ω,ω,ω,ω,ω,ω,ω,ω,ω,ω,ω,ω,ω,ω,ω,ω,ω,ω,ω,ω,ω,ω,ω,ω,ω,ω,ω,ω,ω,ω,ω,ω,ω,ω,ω,ω,ω,ω,ω,ω,ω,ω,ω,ω,ω,ω,ω,ω,ω,ω,ω,ω,ω,ω,ω,ω,ω,ω,ω,ω,ω,ω,ω,ω,ω,ω,ω,ω,ω,ω,ω,ω,ω,ω,ω,ω,ω]
def y8:ϑ:=aG (aG (aG (aG (aG (aG (aG c8))))))
def T8:ϑ:=aG (aG y8)
def afu:c8=.seq (aT c8) (.seq (aT (aG c8)) (.seq (aT (aG (aG c8))) (.seq (aT (aG (aG (aG c8)))) (.seq (aT (aG (aG (aG (aG c8))))) (.seq (aT (aG (aG (aG (aG (aG c8)))))) (.seq (aT (aG (aG (aG (aG (aG (aG c8))))))) (.seq (aT y8) (.seq (aT (aG y8)) T8)))))))):=by kernel_rfl
def O8(v0 v1 v2 v7 v11 ku jD:υ)(g3 g9 g ll lc N:Nat)(LA:Option ϖ)(k n zr:Int)(cT cU cV cW cX cY cZ da dN dO dP dQ dR dS dT dU dV dW dX dY dZ ea ed ee ef eh ei en eo ep er eu ew ey ez eA eB eC eD eE eF eG eH eI eJ eK eL eM eN eO eP eQ eR eS eT eU eV eW eX eY eZ fa fc fe ff fg fh dA dB dC dD dE dF dG dH dI dJ dK dL dM:υ):Array υ:=#[v0,v1,v2,π (φ ⟨g3,0,ν⟩),ω,ω,.bool χ,v7,ξ κ k,π (φ ⟨g9,0,ν⟩),.slice LA ll lc,v11,ξ κ n,ku,ξ κ zr,jD,ζ (φ ⟨g,0,ν⟩) N N,ω,ω,ω,ω,ω,ω,ω,ω,ω,ω,ω,ω,ω,ω,ω,ω,cT,cU,cV,cW,cX,cY,cZ,da,dN,dO,dP,dQ,dR,dS,dT,dU,dV,dW,dX,dY,dZ,ea,ed,ee,ef,eh,ei,en,eo,ep,er,eu,ew,ey,ez,eA,eB,eC,eD,eE,eF,eG,eH,eI,eJ,eK,eL,eM,eN,eO,eP,eQ,eR,eS,eT,eU,eV,eW,eX,eY,eZ,fa,fc,fe,ff,fg,fh,dA,dB,dC,dD,dE,dF,dG,dH,dI,dJ,dK,dL,dM,ω,ω,ω,ω,ω,ω,ω,ω,ω,ω,ω,ω,ω,ω,ω,ω,ω,ω,ω,ω,ω,ω,ω,ω,ω,ω,ω,ω,ω,ω,ω,ω,ω,ω,ω,ω,ω,ω,ω,ω,ω,ω,ω,ω,ω,ω,ω,ω,ω,ω,ω,ω,ω,ω,ω,ω,ω,ω,ω,ω,ω,ω,ω,ω,ω,ω,ω,ω,ω,ω,ω,ω,ω,ω,ω,ω,ω,ω,ω,ω,ω,ω,ω,ω,ω,ω,ω,ω,ω,ω,ω,ω,ω,ω,ω,ω,ω,ω,ω,ω,ω,ω,ω,ω,ω,ω,ω,ω,ω,ω,ω,ω,ω,ω,ω,ω,ω,ω,ω,ω,ω,ω,ω,ω,ω,ω,ω,ω,ω,ω,ω,ω,ω,ω,ω,ω,ω,ω,ω,ω,ω,ω,ω,ω,ω,ω,ω,ω,ω,ω,ω,ω,ω,ω,ω,ω,ω,ω,ω,ω,ω,ω,ω,ω,ω,ω,ω,ω,ω,ω,ω,ω,ω,ω,ω,ω,ω,ω,ω,ω,ω,ω,ω,ω,ω,ω,ω,ω,ω,ω,ω,ω,ω,ω,ω,ω,ω,ω,ω,ω,ω,ω,ω,ω,ω,ω,ω,ω,ω,ω,ω,ω,ω,ω,ω,ω,ω]
def afb{base g:Nat}(h:w.ownsRow base e 1 (ζ (φ ⟨g,0,ν⟩) n n) n xs):Bk w g e xs.toArray:=by
 letI:=iz
 rcases h.2 with⟨h0,_⟩ | ⟨g',cap,cur,h1,-,h3,-,-,h6,h7⟩
 ·cases h0
 ·cases h1
  have e:cur.toList=xs:=by
   rw[<-h7,List.take_of_length_le (by simp[h6])]
  unfold Bk;rw[h3,<-e]
def anV(N:Nat):(madeCells (Value.cells (.bool χ)) (N * 1)).toList.toArray=qH [] N:=by
 letI:=iz
 rw[Nat.mul_one,show Value.cells (.bool χ)=#[.bool χ] from rfl,toList_madeCells_one,asy]
 simp
structure K8(w:Ψ)(b:an)(PA A TA:Option ϖ)(np pc m c nt tc:Nat)(x:aP)(g9 g:Nat)(KA LA:Option ϖ)(nk kc ll lc N:Nat)(V:Ψ):Prop where
 bel:Γ w.heap.size w V
 lt3:w.heap.size<g9
 yL:g9<g
 IF:Bk V w.heap.size 26 #[ξ κ b.ab,.slice PA np pc,.slice A m c,.slice TA nt tc]
 zI:Bk V g9 59 #[.string x.name,ξ κ x.aw,.slice KA nk kc]
 row:Bk V g 4 (qH [] N)
 aU:Row V g 2 Span.R (.slice KA nk kc) x.aU
 clear:Row V g 2 Span.R (.slice LA ll lc) (ia x)
def alT:letI:=iz;(prog.info? 4).map (λi=>(i.zero,i.size,i.bytes))=φ (φ (.bool χ),1,1):=by kernel_rfl
def amo{PA A TA:Option ϖ}{np pc c nt tc:Nat}(ai:bq w B b (.slice PA np pc) (.slice A m c) (.slice TA nt tc))(hB:B<=w.heap.size)(hp:p<256)(hq:q<256)(Z:ϑ)
 (hZ:dg b=0->∀(V:Ψ) (x:aP) (i k g9 g nk kc ll lc N:Nat) (n zr:Int) (KA LA:Option ϖ),b.aF[i]?=φ x->k<=2->x.aw=(N:Int)->1<=N->N<=40->n=nM x k->zr=nM x 0->K8 w b PA A TA np pc m c nt tc x g9 g KA LA nk kc ll lc N V->
   ∀cT cU cV cW cX cY cZ da dN dO dP dQ dR dS dT dU dV dW dX dY dZ ea ed ee ef eh ei en eo ep er eu ew ey ez eA eB eC eD eE eF eG eH eI eJ eK eL eM eN eO eP eQ eR eS eT eU eV eW eX eY eZ fa fc fe ff fg fh dA dB dC dD dE dF dG dH dI dJ dK dL dM:υ,Z.wp lp (vr 6) ⟨O8 (η #[ξ κ b.ab,.slice PA np pc,.slice A m c,.slice TA nt tc]) (.int .u8 p) (.int .u8 q) (ξ κ i) (ξ κ 0) (ξ κ 0) (ξ κ 0) w.heap.size g9 g ll lc N LA k n zr cT cU cV cW cX cY cZ da dN dO dP dQ dR dS dT dU dV dW dX dY dZ ea ed ee ef eh ei en eo ep er eu ew ey ez eA eB eC eD eE eF eG eH eI eJ eK eL eM eN eO eP eQ eR eS eT eU eV eW eX eY eZ fa fc fe ff fg fh dA dB dC dD dE dF dG dH dI dJ dK dL dM,[b6]⟩ V):
 (Code.seq (aT c8) (.seq (aT (aG c8)) (.seq (aT (aG (aG c8))) (.seq (aT (aG (aG (aG c8)))) (.seq (aT (aG (aG (aG (aG c8))))) (.seq (aT (aG (aG (aG (aG (aG c8)))))) (.seq (aT (aG (aG (aG (aG (aG (aG c8))))))) (.seq (aT y8) (.seq (aT (aG y8)) Z))))))))).wp lp (vr 6) ⟨t8 (η #[ξ κ b.ab,.slice PA np pc,.slice A m c,.slice TA nt tc]) p q,[b6]⟩ w:=by
 letI:=iz
 have bV:=ψ ai;obtain⟨_,_,_,e,e2,JG,hmx,r2⟩:=ai.aF.Φ;cases e;have HZ:=ψ hZ;have hmm:m<=maxLen:=by omega
 have R2:=ψ r2;obtain⟨W0,vC⟩:∃W0,W0=w.alloc (Ξ #[ξ κ b.ab,.slice PA np pc,.slice A m c,.slice TA nt tc] 26):=⟨_,rfl⟩
 have Z0:W0.heap.size=w.heap.size+1:=by rw[vC];simp
 have BW:Hid (Below w.heap.size w W0):=ψ (by rw[vC];exact(Below.refl _ _).alloc (ϊ _) _)
 have KB:Hid (Bk W0 w.heap.size 26 #[ξ κ b.ab,.slice PA np pc,.slice A m c,.slice TA nt tc]):=ψ (by rw[vC];exact Bk.new _ _ _)
 have ST:Hid (∀W,Below (w.heap.size+1) W0 W->Δ B w W/\w.heap.size+1<=W.heap.size):=ψ λW hW=>by
  have hs:=hW.size;exact⟨Δ.aN (BW.e.trans (hW.mono (by omega))) hB,by omega⟩
 have SX:Hid (∀W,Below (w.heap.size+1) W0 W-> W.cell? ⟨w.heap.size,0,ν⟩=φ (ξ κ b.ab)/\ W.cell? ⟨w.heap.size,1,ν⟩=φ (.slice PA np pc)/\ W.cell? ⟨w.heap.size,2,ν⟩=φ (.slice A m c)/\ W.cell? ⟨w.heap.size,3,ν⟩=φ (.slice TA nt tc)/\w.heap.size<W.heap.size):=ψ λW hW=>
  have k:=KB.e.below hW (by omega)
  ⟨k.cell 0,k.cell 1,k.cell 2,k.cell 3,k.lt⟩
 have E2:=ψ e2;have C40:Hid (∀W,Below (w.heap.size+1) W0 W->Calls lp 40 #[η #[ξ κ b.ab,.slice PA np pc,.slice A m c,.slice TA nt tc]] W λe w'=>e=Ω (.bool (Dq b))/\Below (w.heap.size+1) W0 w'):=ψ λW hW=>by
  obtain⟨st,hs⟩:=ST.e W hW;exact(fit (bV.e.still st) (by omega)).mono λe w' ⟨h,hb⟩=>⟨h,hW.trans (hb.mono hs)⟩
 clear ai e2 JG hmx r2 hZ;unfold y8 c8 t8;simp only[Tryz.f8,ϭ,aT,aG];go_wp2;rw[<-vC]
 go_at_call 40
 refine(C40.e _ (Below.refl _ _)).mono ?_
 rintro e w1 ⟨rfl,ag⟩;obtain⟨g0,g1,g2,g3,gl⟩:=SX.e w1 ag;have H1:=ψ ag;clear ag vC;cases hf:Dq b with
 |false=>
  go_wp2
  go_at_call 21
  refine(Oj _).mono ?_
  rintro e w' ⟨rfl,rfl⟩;go_wp2;exact⟨rfl,rfl,rfl⟩
 |true=>
 have h0:=ail hf;have hv:=oc h0;by_cases yx:m=0
 ·subst yx
  clear h0 hv;go_wp2
  go_at_call 21
  refine(Oj _).mono ?_
  rintro e w' ⟨rfl,rfl⟩;go_wp2;exact⟨rfl,rfl,rfl⟩
 have Zr:m<=3:=by have:=hv.nb;rw[E2.e] at this;exact this
 obtain⟨i,hi⟩:∃i,i=p % m:=⟨_,rfl⟩
 have YZ:i<m:=by rw[hi];exact Nat.mod_lt _ (by omega)
 have au2:((p:Int).tmod (m:Int))=(i:Int):=by rw[hi,Int.tmod_eq_emod_of_nonneg (by omega)];simp
 obtain⟨k,hk⟩:∃k,k=q % 3:=⟨_,rfl⟩
 have dq:k<=2:=by omega
 have au3:((q:Int).tmod 3)=(k:Int):=by rw[hk,Int.tmod_eq_emod_of_nonneg (by omega)];simp
 have hmz:((m:Int)==0)=χ:=by simp;omega
 obtain⟨x,hx⟩:∃x,b.aF[i]?=φ x:=⟨_,Ä (by rw[E2.e];exact YZ)⟩
 have auS:(i:Int)<m:=by omega
 obtain⟨ad,y,cs,rfl,aD,hy,⟨kv,rfl,dk,cM⟩,-,aq⟩:=R2.e i YZ;rw[hx] at hy;cases hy;obtain⟨KA,nk,kc,rfl,ek,-⟩:=cM.Φ;have HC:=ψ aq;have Is:=ψ cM;have EK:=ψ ek;have HX:=ψ hx;have H0:=ψ h0;have vI:1<=x.aw/\x.aw<=40:=(hv.bm x (ϡ hx)).aw;have q0: w1.cell? (ad.add (i * 3))=φ (.string x.name):=cA HC.e (ST.e w1 H1.e).1 aD rfl;have q1:=bH HC.e (ST.e w1 H1.e).1 aD 0 rfl;have q2:=bH HC.e (ST.e w1 H1.e).1 aD 1 rfl;have hzb:(ad.add (i * 3)).block<w1.heap.size:=by rw[cq];omega
 clear h0 hv hi hk hx cM aq ek hf;obtain⟨W2,kU⟩:∃W2,W2=w1.alloc (Ξ #[.string x.name,ξ κ x.aw,.slice KA nk kc] 59):=⟨_,rfl⟩
 have Z2:W2.heap.size=w1.heap.size+1:=by rw[kU];simp
 have B2:Hid (Below (w.heap.size+1) W0 W2):=ψ (by rw[kU];exact H1.e.alloc (by omega) _)
 have VZ:Hid (Bk W2 w1.heap.size 59 #[.string x.name,ξ κ x.aw,.slice KA nk kc]):=ψ (by rw[kU];exact Bk.new _ _ _)
 have SY:Hid (∀W,Below (w1.heap.size+1) W2 W-> W.cell? ⟨w.heap.size,0,ν⟩=φ (ξ κ b.ab)/\ W.cell? ⟨w.heap.size,1,ν⟩=φ (.slice PA np pc)/\ W.cell? ⟨w.heap.size,2,ν⟩=φ (ζ (φ ad) m c)/\ W.cell? ⟨w.heap.size,3,ν⟩=φ (.slice TA nt tc)/\
  W.cell? ⟨w1.heap.size,0,ν⟩=φ (.string x.name)/\ W.cell? ⟨w1.heap.size,1,ν⟩=φ (ξ κ x.aw)/\ W.cell? ⟨w1.heap.size,2,ν⟩=φ (.slice KA nk kc)/\w.heap.size<W.heap.size/\w1.heap.size<W.heap.size):=ψ λW hW=>by
  obtain⟨a0,a1,a2,a3,a4⟩:=SX.e W (B2.e.trans (hW.mono (by omega)))
  have k:=VZ.e.below hW (by omega)
  exact⟨a0,a1,a2,a3,k.cell 0,k.cell 1,k.cell 2,a4,k.lt⟩
 have SW:Hid (∀W,Below (w1.heap.size+1) W2 W->Δ B w W/\B<=W.heap.size):=ψ λW hW=>by
  have s:=ST.e W (B2.e.trans (hW.mono (by omega)))
  exact⟨s.1,by omega⟩
 have C47:Hid (∀W,Below (w1.heap.size+1) W2 W->Calls lp 47 #[η #[ξ κ b.ab,.slice PA np pc,ζ (φ ad) m c,.slice TA nt tc],ξ κ i] W λe w'=>∃LA ll lc,e=Ω (μ #[.slice LA ll lc,ξ κ 0])/\(ia x).length=ll/\w'.ownsRow W.heap.size 37 2 (.slice LA ll lc) ll ((ia x).flatMap Span.vs)/\Below (w1.heap.size+1) W2 w'):=ψ λW hW=>by
  obtain⟨st,hs⟩:=SW.e W hW;refine(Xb hs (bV.e.still st) H0.e HX.e).mono ?_
  rintro e w' ⟨v,rfl,ho,hb⟩;obtain⟨LA,lc,rfl,-⟩:=KC ho;exact⟨LA,_,lc,rfl,rfl,ho,hW.trans (hb.mono (by have:=hW.size;omega))⟩
 have O1:Hid (∀k':Int,cf k' 0 2=θ->∀W,Below (w1.heap.size+1) W2 W->Calls lp 48 #[η #[ξ κ b.ab,.slice PA np pc,ζ (φ ad) m c,.slice TA nt tc],ξ κ i,ξ κ k'] W λe w'=>e=Ω (μ #[ξ κ (nM x k'),ξ κ 0])/\Below (w1.heap.size+1) W2 w'/\Below W.heap.size W w'):=ψ λk' vH W hW=>by
  obtain⟨st,hs⟩:=SW.e W hW;exact(Tt hs (bV.e.still st) H0.e HX.e vH).mono λe w' ⟨h,hb⟩=>⟨h,hW.trans (hb.mono (by have:=hW.size;omega)),hb⟩
 obtain⟨zr,qT⟩:∃z,z=nM x 0:=⟨_,rfl⟩
 obtain⟨n,hn⟩:∃n,n=nM x k:=⟨_,rfl⟩
 have f1:zr<=n:=by rw[qT,hn];exact ank x (by omega)
 have f2:n<=x.aw:=by have:=Ts x k;omega
 have f3:nk<=k->n=x.aw:=λh=>by rw[hn];exact anl x (by rw[EK.e];omega) (by omega)
 have f0:0<=zr:=by rw[qT];exact(Cj x 0).1
 have Vp:=ψ (O1.e 0 rfl);have Vq:=ψ (O1.e k (by unfold cf;simp;omega))
 rw[<-qT] at Vp;rw[<-hn] at Vq;have HZR:=ψ qT;have HN:=ψ hn;have F3:=ψ f3;clear qT hn f3 O1;go_wp2;rw[<-kU]
 go_at_call 47
 refine(C47.e _ (Below.refl _ _)).mono ?_
 rintro e w2 ⟨LA,ll,lc,rfl,BS,aK,hb⟩;have HL:=ψ aK;have xQ:=ψ BS;have V6:=ψ hb;clear g0 g1 g2 g3 gl kU aK BS q0 q1 q2;obtain⟨g0,g1,g2,g3,x0,x1,x2,gl,gm⟩:=SY.e w2 hb;clear hb;go_wp2
 go_at_call 48
 refine(Vq.e _ V6.e).mono ?_
 rintro e w3 ⟨rfl,hb,bM⟩;have B3:=ψ bM;clear bM;have R3:=ψ hb;clear g0 g1 g2 g3 gl x0 x1 x2 gm;obtain⟨g0,g1,g2,g3,x0,x1,x2,gl,gm⟩:=SY.e w3 hb;clear hb;go_wp2
 go_at_call 48
 refine(Vp.e _ R3.e).mono ?_
 rintro e w4 ⟨rfl,hb,cx⟩;have B4:=ψ cx;clear cx;have R4:=ψ hb;clear g0 g1 g2 g3 gl x0 x1 x2 gm;obtain⟨g0,g1,g2,g3,x0,x1,x2,gl,gm⟩:=SY.e w4 hb;clear hb;have d1:¬n<zr:=by omega
 have d2:¬x.aw<n:=by omega
 obtain⟨N,z8⟩:∃N:Nat,x.aw=(N:Int):=⟨x.aw.toNat,by omega⟩
 have hN:1<=N/\N<=40:=by omega
 have d2N:¬ (N:Int)<n:=by omega
 have d2M:n<=(N:Int):=by omega
 have BC:((nk:Int)<=(k:Int)/\(n !=(N:Int))=χ)\/¬ ((nk:Int)<=(k:Int)):=by
  by_cases h:(nk:Int)<=(k:Int)
  ·exact .inl ⟨h,by rw[<-z8];simp[F3.e (by omega)]⟩
  ·exact .inr h
 obtain⟨i4,YV,xt,vN,cx⟩:=info_parts alT;have Lo:=ψ (And.intro YV (And.intro xt (And.intro vN cx)));clear YV xt vN cx;rcases BC with⟨MS,au⟩ |MS
 all_goals
  go_wp2_with (first
   | (at_make
      refine wpList_make_full _ rfl (.tmp 111) (.tmp 111) 68 rfl w4.heap.size 4 i4 (.bool χ) 1 (U Tryz.underlying68) Lo.e.1 Lo.e.2.1 Lo.e.2.2.1 .i64 .i64 _ _ N rfl rfl (by first|exact z8|rfl) (by first|exact z8|rfl) (by rw[Lo.e.2.2.2];omega) (by simp only[maxLen];omega) (ϊ _) ?_
      intro w5 ZE YR;have HO5:=ψ ZE;have Iq:=ψ YR;clear ZE YR))
  have B5:Hid (Below w4.heap.size w4 w5):=ψ ⟨Iq.e.os,Iq.e.tape,Iq.e.output,Iq.e.size,λk hk=>Iq.e.block k hk (by simp)⟩
  have s2:=V6.e.size;have s3:=B3.e.size;have s4:=B4.e.size;have b5:Below (w1.heap.size+1) W2 w5:=R4.e.trans (B5.e.mono (by omega))
  have b25:Below w2.heap.size w2 w5:=(B3.e.trans (B4.e.mono (by omega))).trans (B5.e.mono (by omega))
  have Qg:Below (w.heap.size+1) W0 w5:=B2.e.trans (b5.mono (by have:=H1.e.size;omega))
  have st5:=ST.e w5 Qg;have hrl:Row w2 w2.heap.size 2 Span.R (.slice LA ll lc) (ia x):=tX (by rw[xQ.e];exact HL.e) (λ_=>rfl) λ_ _=>rfl
  exact HZ.e H0.e w5 x i k w1.heap.size w4.heap.size nk kc ll lc N n zr KA LA HX.e dq z8 hN.1 hN.2 HN.e HZR.e ⟨BW.e.trans (Qg.mono (by omega)),by have:=H1.e.size;omega,by omega,KB.e.below Qg (by omega),VZ.e.below b5 (by omega),by rw[<-anV];exact afb HO5.e,
   (Is.e.still st5.1 λ_ _ h=>h).more (by omega),(hrl.still (Δ.aN b25 (ϊ _)) λ_ _ h=>h).more (by omega)⟩ _ _ _ _ _ _ _ _ _ _ _ _ _ _ _ _ _ _ _ _ _ _ _ _ _ _ _ _ _ _ _ _ _ _ _ _ _ _ _ _ _ _ _ _ _ _ _ _ _ _ _ _ _ _ _ _ _ _ _ _ _ _ _ _ _ _ _ _ _ _ _ _ _ _ _ _ _ _ _ _
def Pa(v0 v1 v2 v7 v11 ku jD:υ)(g3 g9 g ll lc N:Nat)(LA:Option ϖ)(k n zr:Int)(fB fC cT cU cV cW cX cY cZ da dN dO dP dQ dR dS dT dU dV dW dX dY dZ ea ed ee ef eh ei en eo ep er eu ew ey ez eA eB eC eD eE eF eG eH eI eJ eK eL eM eN eO eP eQ eR eS eT eU eV eW eX eY eZ fa fc fe ff fg fh dA dB dC dD dE dF dG dH dI dJ dK dL dM fX fY fZ ga gd gh gv gw gx gy gC gD gF gG gH gI gJ gK gL gM gN gO gP gQ gR gS:υ):Array υ:=#[v0,v1,v2,π (φ ⟨g3,0,ν⟩),ω,ω,.bool χ,v7,ξ κ k,π (φ ⟨g9,0,ν⟩),.slice LA ll lc,v11,ξ κ n,ku,ξ κ zr,jD,ζ (φ ⟨g,0,ν⟩) N N,fB,fC,ω,ω,ω,ω,ω,ω,ω,ω,ω,ω,ω,ω,ω,ω,cT,cU,cV,cW,cX,cY,cZ,da,dN,dO,dP,dQ,dR,dS,dT,dU,dV,dW,dX,dY,dZ,ea,ed,ee,ef,eh,ei,en,eo,ep,er,eu,ew,ey,ez,eA,eB,eC,eD,eE,eF,eG,eH,eI,eJ,eK,eL,eM,eN,eO,eP,eQ,eR,eS,eT,eU,eV,eW,eX,eY,eZ,fa,fc,fe,ff,fg,fh,dA,dB,dC,dD,dE,dF,dG,dH,dI,dJ,dK,dL,dM,fX,fY,fZ,ga,gd,gh,gv,gw,gx,gy,gC,gD,gF,gG,gH,gI,gJ,gK,gL,gM,gN,gO,gP,gQ,gR,gS,ω,ω,ω,ω,ω,ω,ω,ω,ω,ω,ω,ω,ω,ω,ω,ω,ω,ω,ω,ω,ω,ω,ω,ω,ω,ω,ω,ω,ω,ω,ω,ω,ω,ω,ω,ω,ω,ω,ω,ω,ω,ω,ω,ω,ω,ω,ω,ω,ω,ω,ω,ω,ω,ω,ω,ω,ω,ω,ω,ω,ω,ω,ω,ω,ω,ω,ω,ω,ω,ω,ω,ω,ω,ω,ω,ω,ω,ω,ω,ω,ω,ω,ω,ω,ω,ω,ω,ω,ω,ω,ω,ω,ω,ω,ω,ω,ω,ω,ω,ω,ω,ω,ω,ω,ω,ω,ω,ω,ω,ω,ω,ω,ω,ω,ω,ω,ω,ω,ω,ω,ω,ω,ω,ω,ω,ω,ω,ω,ω,ω,ω,ω,ω,ω,ω,ω,ω,ω,ω,ω,ω,ω,ω,ω,ω,ω,ω,ω,ω,ω,ω,ω,ω,ω,ω,ω,ω,ω,ω,ω,ω,ω,ω,ω,ω,ω,ω,ω,ω,ω,ω,ω,ω,ω,ω,ω,ω,ω,ω,ω,ω,ω,ω,ω,ω,ω,ω,ω,ω,ω,ω]
def amu{x:aP}{v1 v2 v7 v11 ku jD:υ}{g3 g lc:Nat}{LA:Option ϖ}{k n zr:Int}{KA:Option ϖ}{nk kc:Nat}{V:Ψ}(hx:Bk V g9 59 #[.string x.name,ξ κ x.aw,.slice KA nk kc])(hr:Row V g 2 Span.R (.slice KA nk kc) x.aU)(h9:g9<g)(hb:Bk V g 4 (qH [] N))(JD:∀s∈x.aU,0<=s.lo/\s.lo<=s.hi/\s.hi<=(N:Int) - 1)(hN:N<=40)(MS:nk<=1000)(Z:ϑ)
 (hZ:∀W,Below g V W->Bk W g 4 (qH x.aU N)->∀fB fC cT cU cV cW cX cY cZ da dN dO dP dQ dR dS dT dU dV dW dX dY dZ ea ed ee ef eh ei en eo ep er eu ew ey ez eA eB eC eD eE eF eG eH eI eJ eK eL eM eN eO eP eQ eR eS eT eU eV eW eX eY eZ fa fc fe ff fg fh dA dB dC dD dE dF dG dH dI dJ dK dL dM fX fY fZ ga gd gh gv gw gx gy gC gD gF gG gH gI gJ gK gL gM gN gO gP gQ gR gS:υ,Z.wp lp (vr 6) ⟨Pa v0 v1 v2 v7 v11 ku jD g3 g9 g ll lc N LA k n zr fB fC cT cU cV cW cX cY cZ da dN dO dP dQ dR dS dT dU dV dW dX dY dZ ea ed ee ef eh ei en eo ep er eu ew ey ez eA eB eC eD eE eF eG eH eI eJ eK eL eM eN eO eP eQ eR eS eT eU eV eW eX eY eZ fa fc fe ff fg fh dA dB dC dD dE dF dG dH dI dJ dK dL dM fX fY fZ ga gd gh gv gw gx gy gC gD gF gG gH gI gJ gK gL gM gN gO gP gQ gR gS,[b6]⟩ W):
 ∀cT cU cV cW cX cY cZ da dN dO dP dQ dR dS dT dU dV dW dX dY dZ ea ed ee ef eh ei en eo ep er eu ew ey ez eA eB eC eD eE eF eG eH eI eJ eK eL eM eN eO eP eQ eR eS eT eU eV eW eX eY eZ fa fc fe ff fg fh dA dB dC dD dE dF dG dH dI dJ dK dL dM:υ,(Code.seq (aT T8) Z).wp lp (vr 6) ⟨O8 v0 v1 v2 v7 v11 ku jD g3 g9 g ll lc N LA k n zr cT cU cV cW cX cY cZ da dN dO dP dQ dR dS dT dU dV dW dX dY dZ ea ed ee ef eh ei en eo ep er eu ew ey ez eA eB eC eD eE eF eG eH eI eJ eK eL eM eN eO eP eQ eR eS eT eU eV eW eX eY eZ fa fc fe ff fg fh dA dB dC dD dE dF dG dH dI dJ dK dL dM,[b6]⟩ V:=by
 intro cT cU cV cW cX cY cZ da dN dO dP dQ dR dS dT dU dV dW dX dY dZ ea ed ee ef eh ei en eo ep er eu ew ey ez eA eB eC eD eE eF eG eH eI eJ eK eL eM eN eO eP eQ eR eS eT eU eV eW eX eY eZ fa fc fe ff fg fh dA dB dC dD dE dF dG dH dI dJ dK dL dM
 letI:=iz
 have HZ:=ψ hZ;have HX:=ψ hx;have HR:=ψ hr;have HB:=ψ hb;have HK:=ψ JD;obtain⟨_,_,_,e,hl,gY,rZ,JQ⟩:=hr.Φ;cases e;have HL:=ψ hl;have RR:=ψ JQ;have X0:Hid (∀W,Below g V W-> W.cell? ⟨g9,2,ν⟩=φ (.slice KA nk kc)/\g9<W.heap.size):=ψ λW hW=>by
  have k:=HX.e.below hW h9;exact⟨k.cell 2,k.lt⟩
 obtain⟨q2,l9⟩:=X0.e V (Below.refl _ _);have gl:=hb.lt;clear hZ hx hr hb JD hl JQ;unfold T8 y8 c8 O8;simp only[Tryz.f8,ϭ,aT,aG];go_wp2;go_loopw [17] (λkv wr=>∃j:Nat,j<=nk/\kv=ξ κ j/\Below g V wr/\Bk wr g 4 (qH (x.aU.take j) N)) (λkv _=>nk - (RowKit.intOf kv).toNat)
 case atStart=>exact⟨0,Ϡ _,rfl,Below.refl _ _,HB.e⟩
 case round=>
  rename Ψ=>wq
  obtain⟨j,hj,rfl,vD,JC⟩:=hrel;clear q2 l9;obtain⟨q2,l9⟩:=X0.e wq vD;have gq:=JC.lt;have zw:=ψ vD;have VH:=ψ JC;clear vD JC;by_cases aj:j<nk
  ·obtain⟨ad,s,cs,rfl,aD,hs,rfl,-,aq⟩:=RR.e j aj
   have D2:(j:Int)<nk:=by omega
   have Eg:=HK.e s (ϡ hs);obtain⟨lo,hi,oZ,uR⟩:∃lo hi:Nat,s.lo=(lo:Int)/\s.hi=(hi:Int):=⟨s.lo.toNat,s.hi.toNat,by omega,by omega⟩
   have hbd:lo<=hi/\hi<N:=by omega
   have KX:Hid (∀W,Below g V W-> W.cell? (ad.add (j * 2))=φ (ξ κ lo)/\ W.cell? ⟨(ad.add (j * 2)).block,(ad.add (j * 2)).off+1,ν⟩=φ (ξ κ hi)):=ψ λW hW=>by
    have st:Δ g V W:=Δ.aN hW (ϊ _);exact⟨by rw[<-oZ];exact cA aq st aD rfl,by rw[<-uR];exact bH aq st aD 0 rfl⟩
   have TS:Hid (x.aU.take (j+1)=x.aU.take j++ [⟨lo,hi⟩]):=ψ (by rw[su hs];congr 2;cases s;simp only at oZ uR;rw[oZ,uR])
   obtain⟨q0,q1⟩:=KX.e wq zw.e;have Bx:(ad.add (j * 2)).block<wq.heap.size:=by rw[cq];have:=zw.e.size;omega
   clear hs Eg oZ uR aq;go_wp2;go_loopw [18] (λav wr=>∃a:Nat,lo<=a/\a<=hi+1/\av=ξ κ a/\Below g V wr/\Bk wr g 4 (qH (x.aU.take j++ [⟨lo,(a:Int) - 1⟩]) N)) (λav _=>hi+1 - (RowKit.intOf av).toNat)
   case atStart=>exact⟨lo,ϊ _,by omega,rfl,zw.e,by rw[asA];exact VH.e⟩
   case round=>
    rename Ψ=>wr
    obtain⟨a,ha,yk,rfl,qj,tJ⟩:=hrel;clear q2 l9 q0 q1;obtain⟨q2,l9⟩:=X0.e wr qj;obtain⟨q0,q1⟩:=KX.e wr qj;have gr:=tJ.lt;have auy:(ad.add (j * 2)).block<wr.heap.size:=by rw[cq];have:=qj.size;omega
    have xO:=ψ qj;have E9:=ψ tJ;have haN:a<N+1:=by omega
    by_cases bL:a<=hi
    ·have ajx:(a:Int)<=hi:=by omega
     have Ys:(a:Int)<N:=by omega
     have ajt:a<N:=by omega
     have c0:=tJ.cell a;rw[AJ ajt] at c0;have f0:=tJ.frozen a;clear qj tJ;go_wp2
     trace_state
     go_roundw;case rel=>exact⟨a+1,by omega,by omega,by go_num,xO.e.setCell (by simp) _,by
      have h:=E9.e.set a (.bool θ);rw[asB (by omega)] at h
      simpa using h⟩
     case measure=>simp[RowKit.intOf];omega
    ·obtain rfl:a=hi+1:=by omega
     clear qj tJ;go_wp2
     trace_state
     go_roundw;case rel=>exact⟨j+1,by omega,by go_num,xO.e,by
      rw[TS.e];simpa using E9.e⟩
     case measure=>simp[RowKit.intOf];omega
  ·obtain rfl:j=nk:=by omega
   have hk:=VH.e;rw[<-HL.e,List.take_length] at hk;have HKK:=ψ hk;clear hk;go_wp2;exact HZ.e wq zw.e HKK.e _ _ _ _ _ _ _ _ _ _ _ _ _ _ _ _ _ _ _ _ _ _ _ _ _ _ _ _ _ _ _ _ _ _ _ _ _ _ _ _ _ _ _ _ _ _ _ _ _ _ _ _ _ _ _ _ _ _ _ _ _ _ _ _ _ _ _ _ _ _ _ _ _ _ _ _ _ _ _ _ _ _ _ _ _ _ _ _ _ _ _ _ _ _ _ _ _ _ _ _ _ _ _ _ _ _ _ _
def U8:ϑ:=aG T8
def V8:ϑ:=aG (aG U8)
def W8:ϑ:=aG V8
def Qb:ϑ->ϑ
 | .block _ c=>c
 |c=>c
def lpC:ϑ->ϑ
 | .loop c=>c
 |c=>c
def abn:ϑ->Array Ë
 | .region _ o _=>o
 |_=>#[]
def abm:Array Ë:=abn (aT (aT (Qb (aT (aG (lpC (Qb (aG (aT (aG U8))))))))))
def Vx(v0 v1 v2 v7 v11 ku jD:υ)(g3 g9 g ll lc N:Nat)(LA:Option ϖ)(k n zr:Int)(ad:ϖ)(f19 f20:Int)(j:Nat)(fB fC iD cT cU cV cW cX cY cZ da dN dO dP dQ dR dS dT dU dV dW dX dY dZ ea ed ee ef eh ei en eo ep er eu ew ey ez eA eB eC eD eE eF eG eH eI eJ eK eL eM eN eO eP eQ eR eS eT eU eV eW eX eY eZ fa fc fe ff fg fh dA dB dC dD dE dF dG dH dI dJ dK dL dM fX fY fZ ga gd gh gv gw gx gy gC gD gF gG gH gI gJ gK gL gM gN gO gP gQ gR gS iF iG iH iI iJ iK iL iM iN iO iP iQ iR iS iT iU iV iW iX iY iZ jd je jf jg jh jj jl jm jo jq jr ju jv jw kz jE jF jG jH jI jJ jK jL jM jN jO jP jQ jR jS jT jU jV jW jX jY jZ k7 kA kB kC kD kE kF kG kH kI kJ kK kL kM kN kO kP mN lu lx ly lz lA lB lC lD lF lG lH lI lJ lK lL lM lN lO lP lQ lR lS lT lU lV lX lY lZ l8 ma me mf mg mh mi ml mm mn mo mq mr mw my mz mA mB:υ):Array υ:=#[v0,v1,v2,π (φ ⟨g3,0,ν⟩),ω,ω,.bool χ,v7,ξ κ k,π (φ ⟨g9,0,ν⟩),ζ (φ ad) ll lc,v11,ξ κ n,ku,ξ κ zr,jD,ζ (φ ⟨g,0,ν⟩) N N,fB,fC,ξ κ f19,ξ κ f20,ξ κ j,iD,ω,ω,ω,ω,ω,ω,ω,ω,ω,ω,cT,cU,cV,cW,cX,cY,cZ,da,dN,dO,dP,dQ,dR,dS,dT,dU,dV,dW,dX,dY,dZ,ea,ed,ee,ef,eh,ei,en,eo,ep,er,eu,ew,ey,ez,eA,eB,eC,eD,eE,eF,eG,eH,eI,eJ,eK,eL,eM,eN,eO,eP,eQ,eR,eS,eT,eU,eV,eW,eX,eY,eZ,fa,fc,fe,ff,fg,fh,dA,dB,dC,dD,dE,dF,dG,dH,dI,dJ,dK,dL,dM,fX,fY,fZ,ga,gd,gh,gv,gw,gx,gy,gC,gD,gF,gG,gH,gI,gJ,gK,gL,gM,gN,gO,gP,gQ,gR,gS,iF,iG,iH,iI,iJ,iK,iL,iM,iN,iO,iP,iQ,iR,iS,iT,iU,iV,iW,iX,iY,iZ,jd,je,jf,jg,jh,jj,jl,jm,jo,jq,jr,ju,jv,jw,kz,jE,jF,jG,jH,jI,jJ,jK,jL,jM,jN,jO,jP,jQ,jR,jS,jT,jU,jV,jW,jX,jY,jZ,k7,kA,kB,kC,kD,kE,kF,kG,kH,kI,kJ,kK,kL,kM,kN,kO,kP,mN,lu,lx,ly,lz,lA,lB,lC,lD,lF,lG,lH,lI,lJ,lK,lL,lM,lN,lO,lP,lQ,lR,lS,lT,lU,lV,lX,lY,lZ,l8,ma,me,mf,mg,mh,mi,ml,mm,mn,mo,mq,mr,mw,my,mz,mA,mB,ω,ω,ω,ω,ω,ω,ω,ω,ω,ω,ω,ω,ω,ω,ω,ω,ω,ω,ω,ω,ω,ω,ω,ω,ω,ω,ω,ω,ω,ω,ω,ω,ω,ω,ω,ω,ω,ω,ω,ω,ω,ω,ω,ω,ω,ω,ω,ω,ω,ω,ω,ω,ω,ω,ω,ω,ω,ω,ω,ω,ω,ω,ω,ω,ω,ω,ω,ω,ω]
def ams{x:aP}{v0 v1 v2 v7 v11 ku jD:υ}{g3 g lc:Nat}{LA:Option ϖ}{k n zr:Int}{V wq:Ψ}{ad:ϖ}{lo hi j h1:Nat}{f19 f20:Int}(Yq:ϗ.wrap ((N:Int) - 1)=(N:Int) - 1)(wh1:ϗ.wrap ((hi:Int)+1)=(h1:Int))(aj:j<ll)(D2:(j:Int)<ll)(SU:pU lo hi 0 ((N:Int) - 1)=θ)(zq:V.heap.size<=wq.heap.size)
 (KX:Hid (∀W,Below V.heap.size V W-> W.cell? ⟨g9,1,ν⟩=φ (ξ κ N)/\(∀p:Nat,p<N-> W.cell? ⟨g,p,ν⟩=φ (.bool (rG x.aU p)))/\g9<W.heap.size/\g<W.heap.size))
 (SX:Hid (∀W,Below V.heap.size V W-> W.cell? (ad.add (j * 2))=φ (ξ κ lo)/\ W.cell? ⟨(ad.add (j * 2)).block,(ad.add (j * 2)).off+1,ν⟩=φ (ξ κ hi)/\(ad.add (j * 2)).block<W.heap.size))
 (CW:letI:=iz;Hid (∀W (a b lo hi:Int),Calls lp 49 #[η #[ξ κ a,ξ κ b],ξ κ lo,ξ κ hi] W λe w'=>e=Ω (.bool (pU a b lo hi))/\Below W.heap.size W w'))
 (XA:Hid (((0:Int)<lo/\0<lo/\∃l1:Nat,ϗ.wrap ((lo:Int) - 1)=(l1:Int)/\(l1:Int)<N/\l1<N/\Hid (∀W,Below V.heap.size V W-> W.cell? ⟨g,l1,ν⟩=φ (.bool θ)))\/(¬ (0:Int)<lo/\¬0<lo)))
 (Fo:((h1:Int)<N/\h1<N/\Hid (∀W,Below V.heap.size V W-> W.cell? ⟨g,h1,ν⟩=φ (.bool θ)))\/(¬ (h1:Int)<N/\¬h1<N))
 (XC:Hid (((0:Int)<j/\0<j/\∃j1 hp:Nat,ϗ.wrap ((j:Int) - 1)=(j1:Int)/\(j1:Int)<ll/\j1<ll/\¬ (lo:Int)<=hp/\¬lo<=hp/\Hid (∀W,Below V.heap.size V W-> W.cell? ⟨(ad.add (j1 * 2)).block,(ad.add (j1 * 2)).off+1,ν⟩=φ (ξ κ hp)/\(ad.add (j1 * 2)).block<W.heap.size))\/(¬ (0:Int)<j/\¬0<j)))
 (vo:Hid (Below V.heap.size V wq.drew)):
 ∀fB fC iD cT cU cV cW cX cY cZ da dN dO dP dQ dR dS dT dU dV dW dX dY dZ ea ed ee ef eh ei en eo ep er eu ew ey ez eA eB eC eD eE eF eG eH eI eJ eK eL eM eN eO eP eQ eR eS eT eU eV eW eX eY eZ fa fc fe ff fg fh dA dB dC dD dE dF dG dH dI dJ dK dL dM fX fY fZ ga gd gh gv gw gx gy gC gD gF gG gH gI gJ gK gL gM gN gO gP gQ gR gS iF iG iH iI iJ iK iL iM iN iO iP iQ iR iS iT iU iV iW iX iY iZ jd je jf jg jh jj jl jm jo jq jr ju jv jw kz jE jF jG jH jI jJ jK jL jM jN jO jP jQ jR jS jT jU jV jW jX jY jZ k7 kA kB kC kD kE kF kG kH kI kJ kK kL kM kN kO kP mN lu lx ly lz lA lB lC lD lF lG lH lI lJ lK lL lM lN lO lP lQ lR lS lT lU lV lX lY lZ l8 ma me mf mg mh mi ml mm mn mo mq mr mw my mz mA mB:υ,(Code.region 22 abm θ).wp lp (fG λa W=>∃iF iG iH iI iJ iK iL iM iN iO iP iQ iR iS iT iU iV iW iX iY iZ jd je jf jg jh jj jl jm jo jq jr ju jv jw kz jE jF jG jH jI jJ jK jL jM jN jO jP jQ jR jS jT jU jV jW jX jY jZ k7 kA kB kC kD kE kF kG kH kI kJ kK kL kM kN kO kP,a=({tmps:=#[v0,v1,v2,π (φ ⟨g3,0,ν⟩),ω,ω,.bool χ,v7,ξ κ k,π (φ ⟨g9,0,ν⟩),ζ (φ ad) ll lc,v11,ξ κ n,ku,ξ κ zr,jD,ζ (φ ⟨g,0,ν⟩) N N,fB,fC,ξ κ f19,ξ κ f20,ξ κ j,iD,ω,ω,ω,ω,ω,ω,ω,ω,ω,ω,cT,cU,cV,cW,cX,cY,cZ,da,dN,dO,dP,dQ,dR,dS,dT,dU,dV,dW,dX,dY,dZ,ea,ed,ee,ef,eh,ei,en,eo,ep,er,eu,ew,ey,ez,eA,eB,eC,eD,eE,eF,eG,eH,eI,eJ,eK,eL,eM,eN,eO,eP,eQ,eR,eS,eT,eU,eV,eW,eX,eY,eZ,fa,fc,fe,ff,fg,fh,dA,dB,dC,dD,dE,dF,dG,dH,dI,dJ,dK,dL,dM,fX,fY,fZ,ga,gd,gh,gv,gw,gx,gy,gC,gD,gF,gG,gH,gI,gJ,gK,gL,gM,gN,gO,gP,gQ,gR,gS,iF,iG,iH,iI,iJ,iK,iL,iM,iN,iO,iP,iQ,iR,iS,iT,iU,iV,iW,iX,iY,iZ,jd,je,jf,jg,jh,jj,jl,jm,jo,jq,jr,ju,jv,jw,kz,jE,jF,jG,jH,jI,jJ,jK,jL,jM,jN,jO,jP,jQ,jR,jS,jT,jU,jV,jW,jX,jY,jZ,k7,kA,kB,kC,kD,kE,kF,kG,kH,kI,kJ,kK,kL,kM,kN,kO,kP,.bool χ,lu,lx,ly,lz,lA,lB,lC,lD,lF,lG,lH,lI,lJ,lK,lL,lM,lN,lO,lP,lQ,lR,lS,lT,lU,lV,lX,lY,lZ,l8,ma,me,mf,mg,mh,mi,ml,mm,mn,mo,mq,mr,mw,my,mz,mA,mB,ω,ω,ω,ω,ω,ω,ω,ω,ω,ω,ω,ω,ω,ω,ω,ω,ω,ω,ω,ω,ω,ω,ω,ω,ω,ω,ω,ω,ω,ω,ω,ω,ω,ω,ω,ω,ω,ω,ω,ω,ω,ω,ω,ω,ω,ω,ω,ω,ω,ω,ω,ω,ω,ω,ω,ω,ω,ω,ω,ω,ω,ω,ω,ω,ω,ω,ω,ω,ω],defers:=[b6]}:Act)/\Hid (Below V.heap.size V W)) ⟨Vx v0 v1 v2 v7 v11 ku jD g3 g9 g ll lc N LA k n zr ad f19 f20 j fB fC iD cT cU cV cW cX cY cZ da dN dO dP dQ dR dS dT dU dV dW dX dY dZ ea ed ee ef eh ei en eo ep er eu ew ey ez eA eB eC eD eE eF eG eH eI eJ eK eL eM eN eO eP eQ eR eS eT eU eV eW eX eY eZ fa fc fe ff fg fh dA dB dC dD dE dF dG dH dI dJ dK dL dM fX fY fZ ga gd gh gv gw gx gy gC gD gF gG gH gI gJ gK gL gM gN gO gP gQ gR gS iF iG iH iI iJ iK iL iM iN iO iP iQ iR iS iT iU iV iW iX iY iZ jd je jf jg jh jj jl jm jo jq jr ju jv jw kz jE jF jG jH jI jJ jK jL jM jN jO jP jQ jR jS jT jU jV jW jX jY jZ k7 kA kB kC kD kE kF kG kH kI kJ kK kL kM kN kO kP mN lu lx ly lz lA lB lC lD lF lG lH lI lJ lK lL lM lN lO lP lQ lR lS lT lU lV lX lY lZ l8 ma me mf mg mh mi ml mm mn mo mq mr mw my mz mA mB,[b6]⟩ wq:=by
 intro fB fC iD cT cU cV cW cX cY cZ da dN dO dP dQ dR dS dT dU dV dW dX dY dZ ea ed ee ef eh ei en eo ep er eu ew ey ez eA eB eC eD eE eF eG eH eI eJ eK eL eM eN eO eP eQ eR eS eT eU eV eW eX eY eZ fa fc fe ff fg fh dA dB dC dD dE dF dG dH dI dJ dK dL dM fX fY fZ ga gd gh gv gw gx gy gC gD gF gG gH gI gJ gK gL gM gN gO gP gQ gR gS iF iG iH iI iJ iK iL iM iN iO iP iQ iR iS iT iU iV iW iX iY iZ jd je jf jg jh jj jl jm jo jq jr ju jv jw kz jE jF jG jH jI jJ jK jL jM jN jO jP jQ jR jS jT jU jV jW jX jY jZ k7 kA kB kC kD kE kF kG kH kI kJ kK kL kM kN kO kP mN lu lx ly lz lA lB lC lD lF lG lH lI lJ lK lL lM lN lO lP lQ lR lS lT lU lV lX lY lZ l8 ma me mf mg mh mi ml mm mn mo mq mr mw my mz mA mB
 letI:=iz
 unfold abm U8 T8 y8 c8 Vx;simp only[Tryz.f8,ϭ,aT,aG,Qb,lpC,abn];refine hstart (S:=λW=>Hid (Below V.heap.size V W)) 70 rfl (by kernel_rfl) ?_ (λDJ=>?_)
 ·exact vo
 refine bt 7 63 rfl (by kernel_rfl) DJ ?_
 iterate 7
  apply vM 145 rfl (by kernel_rfl) (by kernel_rfl)
  ·intro W hW
   have q1:=(KX.e W hW.e).1;have l9:=(KX.e W hW.e).2.2.1;have sk:=(KX.e W hW.e).2.2.2;have c0:=(SX.e W hW.e).1;have c1:=(SX.e W hW.e).2.1;have sj:=(SX.e W hW.e).2.2;go_simp;all_goals with_reducible rfl
  simp only[Ą,ë,ì,Û]
 apply Ee;refine ajL rfl (by kernel_rfl) (by kernel_rfl) (λK Q hK=>?_)
 go_simp
 go_at_call 49
 refine(CW.e _ _ _ _ _).mono ?_
 rintro e w1 ⟨rfl,ag⟩;rw[SU];have a8:Hid (Below V.heap.size V w1):=ψ (vo.e.trans (ag.mono zq));clear ag
 try go_wp2_with fail
 refine hK.out _ _ ?_ (λld=>?_)
 ·exact a8
 clear hK K Q DJ
 try simp only[Ą,ë,ì,Û]
 refine bt 62 0 rfl (by kernel_rfl) ld ?_
 refine SA (J:=λa=>∃iF iG iH iI iJ iK iL iM iN iO iP iQ iR iS iT iU iV iW iX iY iZ jd je jf jg jh jj jl jm jo jq jr ju jv jw,a=({tmps:=#[v0,v1,v2,π (φ ⟨g3,0,ν⟩),ω,ω,.bool χ,v7,ξ κ k,π (φ ⟨g9,0,ν⟩),ζ (φ ad) ll lc,v11,ξ κ n,ku,ξ κ zr,jD,ζ (φ ⟨g,0,ν⟩) N N,fB,fC,ξ κ f19,ξ κ f20,ξ κ j,iD,ω,ω,ω,ω,ω,ω,ω,ω,ω,ω,cT,cU,cV,cW,cX,cY,cZ,da,dN,dO,dP,dQ,dR,dS,dT,dU,dV,dW,dX,dY,dZ,ea,ed,ee,ef,eh,ei,en,eo,ep,er,eu,ew,ey,ez,eA,eB,eC,eD,eE,eF,eG,eH,eI,eJ,eK,eL,eM,eN,eO,eP,eQ,eR,eS,eT,eU,eV,eW,eX,eY,eZ,fa,fc,fe,ff,fg,fh,dA,dB,dC,dD,dE,dF,dG,dH,dI,dJ,dK,dL,dM,fX,fY,fZ,ga,gd,gh,gv,gw,gx,gy,gC,gD,gF,gG,gH,gI,gJ,gK,gL,gM,gN,gO,gP,gQ,gR,gS,iF,iG,iH,iI,iJ,iK,iL,iM,iN,iO,iP,iQ,iR,iS,iT,iU,iV,iW,iX,iY,iZ,jd,je,jf,jg,jh,jj,jl,jm,jo,jq,jr,ju,jv,jw,.bool χ,jE,jF,jG,jH,jI,jJ,jK,jL,jM,jN,jO,jP,jQ,jR,jS,jT,jU,jV,jW,jX,jY,jZ,k7,kA,kB,kC,kD,kE,kF,kG,kH,kI,kJ,kK,kL,kM,kN,kO,kP,mN,lu,lx,ly,lz,lA,lB,lC,lD,lF,lG,lH,lI,lJ,lK,lL,lM,lN,lO,lP,lQ,lR,lS,lT,lU,lV,lX,lY,lZ,l8,ma,me,mf,mg,mh,mi,ml,mm,mn,mo,mq,mr,mw,my,mz,mA,mB,ω,ω,ω,ω,ω,ω,ω,ω,ω,ω,ω,ω,ω,ω,ω,ω,ω,ω,ω,ω,ω,ω,ω,ω,ω,ω,ω,ω,ω,ω,ω,ω,ω,ω,ω,ω,ω,ω,ω,ω,ω,ω,ω,ω,ω,ω,ω,ω,ω,ω,ω,ω,ω,ω,ω,ω,ω,ω,ω,ω,ω,ω,ω,ω,ω,ω,ω,ω,ω],defers:=[b6]}:Act)) 40 22 8 rfl ?p1 ?p2
 case p1=>
  iterate 7
   apply vM 145 rfl (by kernel_rfl) (by kernel_rfl)
   ·intro W hW
    have q1:=(KX.e W hW.e).1;have l9:=(KX.e W hW.e).2.2.1;have sk:=(KX.e W hW.e).2.2.2;have c0:=(SX.e W hW.e).1;have c1:=(SX.e W hW.e).2.1;have sj:=(SX.e W hW.e).2.2;go_simp;all_goals with_reducible rfl
   simp only[Ą,ë,ì,Û]
  rcases XA.e with⟨hA,hA',l1,wA,bA,bA',XA'⟩ | ⟨hA,hA'⟩
  ·clear XA
   iterate 15
    apply vM 145 rfl (by kernel_rfl) (by kernel_rfl)
    ·intro W hW
     have q1:=(KX.e W hW.e).1;have l9:=(KX.e W hW.e).2.2.1;have sk:=(KX.e W hW.e).2.2.2;have c0:=(SX.e W hW.e).1;have c1:=(SX.e W hW.e).2.1;have sj:=(SX.e W hW.e).2.2;have a0:=XA'.e W hW.e;go_simp;all_goals with_reducible rfl
    simp only[Ą,ë,ì,Û]
   apply Ee;exact⟨_,_,_,_,_,_,_,_,_,_,_,_,_,_,_,_,_,_,_,_,_,_,_,_,_,_,_,_,_,_,_,_,_,_,_,rfl⟩
  ·clear XA
   iterate 2
    apply vM 145 rfl (by kernel_rfl) (by kernel_rfl)
    ·intro W hW
     have q1:=(KX.e W hW.e).1;have l9:=(KX.e W hW.e).2.2.1;have sk:=(KX.e W hW.e).2.2.2;have c0:=(SX.e W hW.e).1;have c1:=(SX.e W hW.e).2.1;have sj:=(SX.e W hW.e).2.2;go_simp;all_goals with_reducible rfl
    simp only[Ą,ë,ì,Û]
   iterate 10
    apply SC 145 rfl (by kernel_rfl) (by kernel_rfl)
    simp only[Ą,ë,ì,Û]
   iterate 3
    apply vM 145 rfl (by kernel_rfl) (by kernel_rfl)
    ·intro W hW
     have q1:=(KX.e W hW.e).1;have l9:=(KX.e W hW.e).2.2.1;have sk:=(KX.e W hW.e).2.2.2;have c0:=(SX.e W hW.e).1;have c1:=(SX.e W hW.e).2.1;have sj:=(SX.e W hW.e).2.2;go_simp;all_goals with_reducible rfl
    simp only[Ą,ë,ì,Û]
   apply Ee;exact⟨_,_,_,_,_,_,_,_,_,_,_,_,_,_,_,_,_,_,_,_,_,_,_,_,_,_,_,_,_,_,_,_,_,_,_,rfl⟩
 case p2=>
  rintro a ⟨_,_,_,_,_,_,_,_,_,_,_,_,_,_,_,_,_,_,_,_,_,_,_,_,_,_,_,_,_,_,_,_,_,_,_,rfl⟩;refine SA (J:=λa=>∃iF iG iH iI iJ iK iL iM iN iO iP iQ iR iS iT iU iV iW iX iY iZ jd je jf jg jh jj jl jm jo jq jr ju jv jw kz jE jF jG jH jI jJ jK jL jM jN jO jP jQ jR jS jT jU jV jW jX jY jZ,a=({tmps:=#[v0,v1,v2,π (φ ⟨g3,0,ν⟩),ω,ω,.bool χ,v7,ξ κ k,π (φ ⟨g9,0,ν⟩),ζ (φ ad) ll lc,v11,ξ κ n,ku,ξ κ zr,jD,ζ (φ ⟨g,0,ν⟩) N N,fB,fC,ξ κ f19,ξ κ f20,ξ κ j,iD,ω,ω,ω,ω,ω,ω,ω,ω,ω,ω,cT,cU,cV,cW,cX,cY,cZ,da,dN,dO,dP,dQ,dR,dS,dT,dU,dV,dW,dX,dY,dZ,ea,ed,ee,ef,eh,ei,en,eo,ep,er,eu,ew,ey,ez,eA,eB,eC,eD,eE,eF,eG,eH,eI,eJ,eK,eL,eM,eN,eO,eP,eQ,eR,eS,eT,eU,eV,eW,eX,eY,eZ,fa,fc,fe,ff,fg,fh,dA,dB,dC,dD,dE,dF,dG,dH,dI,dJ,dK,dL,dM,fX,fY,fZ,ga,gd,gh,gv,gw,gx,gy,gC,gD,gF,gG,gH,gI,gJ,gK,gL,gM,gN,gO,gP,gQ,gR,gS,iF,iG,iH,iI,iJ,iK,iL,iM,iN,iO,iP,iQ,iR,iS,iT,iU,iV,iW,iX,iY,iZ,jd,je,jf,jg,jh,jj,jl,jm,jo,jq,jr,ju,jv,jw,kz,jE,jF,jG,jH,jI,jJ,jK,jL,jM,jN,jO,jP,jQ,jR,jS,jT,jU,jV,jW,jX,jY,jZ,.bool χ,kA,kB,kC,kD,kE,kF,kG,kH,kI,kJ,kK,kL,kM,kN,kO,kP,mN,lu,lx,ly,lz,lA,lB,lC,lD,lF,lG,lH,lI,lJ,lK,lL,lM,lN,lO,lP,lQ,lR,lS,lT,lU,lV,lX,lY,lZ,l8,ma,me,mf,mg,mh,mi,ml,mm,mn,mo,mq,mr,mw,my,mz,mA,mB,ω,ω,ω,ω,ω,ω,ω,ω,ω,ω,ω,ω,ω,ω,ω,ω,ω,ω,ω,ω,ω,ω,ω,ω,ω,ω,ω,ω,ω,ω,ω,ω,ω,ω,ω,ω,ω,ω,ω,ω,ω,ω,ω,ω,ω,ω,ω,ω,ω,ω,ω,ω,ω,ω,ω,ω,ω,ω,ω,ω,ω,ω,ω,ω,ω,ω,ω,ω,ω],defers:=[b6]}:Act)) 17 23 30 rfl ?p3 ?p4
  case p3=>
   iterate 7
    apply vM 145 rfl (by kernel_rfl) (by kernel_rfl)
    ·intro W hW
     have q1:=(KX.e W hW.e).1;have l9:=(KX.e W hW.e).2.2.1;have sk:=(KX.e W hW.e).2.2.2;have c0:=(SX.e W hW.e).1;have c1:=(SX.e W hW.e).2.1;have sj:=(SX.e W hW.e).2.2;go_simp;all_goals with_reducible rfl
    simp only[Ą,ë,ì,Û]
   rcases Fo with⟨hB,hB',Fo⟩ | ⟨hB,hB'⟩
   ·clear XA
    iterate 16
     apply vM 145 rfl (by kernel_rfl) (by kernel_rfl)
     ·intro W hW
      have q1:=(KX.e W hW.e).1;have l9:=(KX.e W hW.e).2.2.1;have sk:=(KX.e W hW.e).2.2.2;have c0:=(SX.e W hW.e).1;have c1:=(SX.e W hW.e).2.1;have sj:=(SX.e W hW.e).2.2;have a0:=Fo.e W hW.e;go_simp;all_goals with_reducible rfl
     simp only[Ą,ë,ì,Û]
    apply Ee;exact⟨_,_,_,_,_,_,_,_,_,_,_,_,_,_,_,_,_,_,_,_,_,_,_,_,_,_,_,_,_,_,_,_,_,_,_,_,_,_,_,_,_,_,_,_,_,_,_,_,_,_,_,_,_,_,_,_,_,_,rfl⟩
   ·clear XA
    iterate 3
     apply vM 145 rfl (by kernel_rfl) (by kernel_rfl)
     ·intro W hW
      have q1:=(KX.e W hW.e).1;have l9:=(KX.e W hW.e).2.2.1;have sk:=(KX.e W hW.e).2.2.2;have c0:=(SX.e W hW.e).1;have c1:=(SX.e W hW.e).2.1;have sj:=(SX.e W hW.e).2.2;go_simp;all_goals with_reducible rfl
     simp only[Ą,ë,ì,Û]
    iterate 10
     apply SC 145 rfl (by kernel_rfl) (by kernel_rfl)
     simp only[Ą,ë,ì,Û]
    iterate 3
     apply vM 145 rfl (by kernel_rfl) (by kernel_rfl)
     ·intro W hW
      have q1:=(KX.e W hW.e).1;have l9:=(KX.e W hW.e).2.2.1;have sk:=(KX.e W hW.e).2.2.2;have c0:=(SX.e W hW.e).1;have c1:=(SX.e W hW.e).2.1;have sj:=(SX.e W hW.e).2.2;go_simp;all_goals with_reducible rfl
     simp only[Ą,ë,ì,Û]
    apply Ee;exact⟨_,_,_,_,_,_,_,_,_,_,_,_,_,_,_,_,_,_,_,_,_,_,_,_,_,_,_,_,_,_,_,_,_,_,_,_,_,_,_,_,_,_,_,_,_,_,_,_,_,_,_,_,_,_,_,_,_,_,rfl⟩
  case p4=>
   rintro a ⟨_,_,_,_,_,_,_,_,_,_,_,_,_,_,_,_,_,_,_,_,_,_,_,_,_,_,_,_,_,_,_,_,_,_,_,_,_,_,_,_,_,_,_,_,_,_,_,_,_,_,_,_,_,_,_,_,_,_,rfl⟩;rcases XC.e with⟨hC,hC',j1,hp,wC,bC,bC',nC,nC',Wf⟩ | ⟨hC,hC'⟩
   ·clear XC
    iterate 17
     apply vM 145 rfl (by kernel_rfl) (by kernel_rfl)
     ·intro W hW
      have q1:=(KX.e W hW.e).1;have l9:=(KX.e W hW.e).2.2.1;have sk:=(KX.e W hW.e).2.2.2;have c0:=(SX.e W hW.e).1;have c1:=(SX.e W hW.e).2.1;have sj:=(SX.e W hW.e).2.2;have a0:=(Wf.e W hW.e).1;have a1:=(Wf.e W hW.e).2;go_simp;all_goals with_reducible rfl
     simp only[Ą,ë,ì,Û]
    apply Ee;refine Jp (by kernel_rfl) ?_
    exact⟨_,_,_,_,_,_,_,_,_,_,_,_,_,_,_,_,_,_,_,_,_,_,_,_,_,_,_,_,_,_,_,_,_,_,_,_,_,_,_,_,_,_,_,_,_,_,_,_,_,_,_,_,_,_,_,_,_,_,_,_,_,_,_,_,_,_,_,_,_,_,_,_,_,_,_,rfl,ld⟩
   ·clear XC
    iterate 3
     apply vM 145 rfl (by kernel_rfl) (by kernel_rfl)
     ·intro W hW
      have q1:=(KX.e W hW.e).1;have l9:=(KX.e W hW.e).2.2.1;have sk:=(KX.e W hW.e).2.2.2;have c0:=(SX.e W hW.e).1;have c1:=(SX.e W hW.e).2.1;have sj:=(SX.e W hW.e).2.2;go_simp;all_goals with_reducible rfl
     simp only[Ą,ë,ì,Û]
    iterate 12
     apply SC 145 rfl (by kernel_rfl) (by kernel_rfl)
     simp only[Ą,ë,ì,Û]
    iterate 2
     apply vM 145 rfl (by kernel_rfl) (by kernel_rfl)
     ·intro W hW
      have q1:=(KX.e W hW.e).1;have l9:=(KX.e W hW.e).2.2.1;have sk:=(KX.e W hW.e).2.2.2;have c0:=(SX.e W hW.e).1;have c1:=(SX.e W hW.e).2.1;have sj:=(SX.e W hW.e).2.2;go_simp;all_goals with_reducible rfl
     simp only[Ą,ë,ì,Û]
    apply Ee;refine Jp (by kernel_rfl) ?_
    exact⟨_,_,_,_,_,_,_,_,_,_,_,_,_,_,_,_,_,_,_,_,_,_,_,_,_,_,_,_,_,_,_,_,_,_,_,_,_,_,_,_,_,_,_,_,_,_,_,_,_,_,_,_,_,_,_,_,_,_,_,_,_,_,_,_,_,_,_,_,_,_,_,_,_,_,_,rfl,ld⟩
end Go.Jn
end
