import Derived.Test.YtfifdjajcogccaaGreatDoorZ01
import Derived.Conc.Beside
import Derived.Conc.CrowdComm
set_option linter.all false
set_option maxHeartbeats 64000000
set_option maxRecDepth 20000
open Array renaming mem_of_getElem? -> Ac9, all_eq_true_iff_forall_mem -> Aal, mem_iff_getElem -> Ada, mem_append -> Aad, getElem?_eq_getElem -> Adb, getElem?_eq_some_iff -> Aaf, append_empty -> Aag, getElem?_setIfInBounds_ne -> Adc, getElem?_map -> Ade, getElem?_append_right -> Adf
open Bool renaming and_eq_true -> Aax, not_true -> Adg, false_eq_true -> Aaw
open Classical renaming byContradiction -> Adh, choose -> Adi, choose_spec -> Adj, propDecidable -> Adk
open Go renaming Program -> Aa6, Frame -> Abd, World -> Aa4, GStep -> Adl, doReturn -> Adm, Deferred -> Aa3, stepG -> Adn, Result -> Ado, Addr -> Aay, TypeId -> Aa1, IntKind -> Aa0, BinOp -> Adp, FloatKind -> Adq, Goroutine -> Abe, Event -> Aa5, PanicEntry -> Adr, lone -> Ads, unwind -> Adt, step_lone_ended -> Adu, step_lone_go -> Adv, callDeferred -> Adw, Trace -> Adx
open Go.Conc renaming touchAt -> Ady, touch_of -> Adz, getElem?_append_cases -> Ad0, touchAt_of -> Ad1, served -> Ad2, parked -> Ad3, woken -> Ad4
open Go.Frame renaming eval -> Ad5
open Go.GStep renaming bare_after -> Ad6
open Go.Instr renaming takeDeferred -> Acj
open Go.MemAct renaming ofEvent -> Ad7, touch? -> Ad8
open Go.MemOp renaming ofEvents -> Ad9
open Go.Mode renaming atomic -> Aea
open Go.Sem renaming store -> Aeb, run -> Acx, runT -> Acy
open Go.stepG renaming exec -> Aec, apply -> Aed
open List renaming mem_toArray -> Aee, mem_cons -> Aef, not_mem_nil -> Aeg
open Nat renaming le_refl -> Ac2, le_trans -> Ac3, lt_of_lt_of_le -> Aeh
open Ne renaming symm -> Aei
open Option renaming map_eq_some_iff -> Aej
open Option.some renaming inj -> Ac5
namespace Go.Sim
open Go
section
variable {P:Aa6}{F:Array Func}{C:bQ}{S:Tl}{G:Nat->Bool}{ρ:Ren}
def Ev(p:Aa6)(main:Bool)(fr:Abd)(callers:List Abd)(w:Aa4)(jump:Option Code):Adl:=
 match fr.roundOf with
 |none=>if(match jump with|none|some .ret=>true|_=>false)=true then .go {frame:={fr with mode:=.returning},callers,status:=.running,dying:=none} w else .ended (.stuck "exit, goto: no such block or label" (fr.pos p)) w
 |some l=>
  GStep.after (seen p fr.fn ((Instr.endRound l jump).runT p w #[]).2)<|match((Instr.endRound l jump).runT p w #[]).1 with
  | .ok v w=>Adm p main fr callers none v w
  | .halt _ w=>.ended (.stuck "range over a function: no such loop" (fr.pos p)) w
theorem ON{w w':Aa4}(hw:gY C ρ w w'){b:Bool}{fr aV:Abd}(b7:ea C S ρ b fr aV){cs bh:List Abd}(hL:Below C S ρ b cs bh)(m m':Bool)(j:Option Code)(hj:∀c,j=some c->C.clean c):
 dE P F C S ρ w w' (Ev (tw P F) m fr cs w j) (Ev P m' aV bh w' j):=by
 have gw:=b7;cases b7 with
 | @mk f t t' ht k k' hk d d' hd md hm ro iS hr eT hf=>
   unfold Ev;cases hr with
   |none=>
    simp only;split
    ·exact dE.pure hw (.inside (.mk f ht hk hd .returning .none ⟨hf.ok,hf.base,by simp,hf.kind,hf.early,hf.Cv⟩) hL)
    ·exact dE.pure hw (.inside (.mk f ht hk hd .returning .none ⟨hf.ok,hf.base,by simp,hf.kind,hf.early,hf.Cv⟩) hL)
    ·exact dE.ended
   |some hl=>
    have hb:b=false:=by
     cases b with
     |false=>rfl
     |true=>exact absurd (hf.base rfl) (by simp)
    subst hb;simp only;refine dE.ue hw (Sim.endRound hl j hj) (k:=fun r=>match r with
     | .ok v w=>Adm (tw P F) m _ cs none v w
     | .halt _ w=>.ended (.stuck "range over a function: no such loop" _) w) (k':=fun r=>match r with
     | .ok v w=>Adm P m' _ bh none v w
     | .halt _ w=>.ended (.stuck "range over a function: no such loop" _) w) (fun h aq g aa es e=>?_) fun bH aq ep a b l2 eC hab=>?_
    ·simp at e
    ·exact SO eC (gw.mono l2) (hL.mono l2) hab m m'
theorem acp(E:Env P F C G)(hG:∀g,G g=true->ρ g g){w w':Aa4}(hw:gY C ρ w w'){q:Bool}{fr aV:Abd}(b7:ea C S ρ q fr aV)(qw:fr.mode=.run){cs bh:List Abd}(hL:Below C S ρ q cs bh)(m m' b:Bool):
 dE P F C S ρ w w' (Aec (tw P F) m b fr cs none w) (Aec P m' true aV bh none w'):=by
 have gw:=b7;cases b7 with
 | @mk f t t' ht k k' hk d d' hd md hm ro iS hr eT hf=>
   simp only at qw;subst qw;have cl:∀ {c},C.clean c->cr P G c=true:=fun h=>(E.clean _).1 h
   have lc:∀ {c},cr P G c=true->C.clean c:=fun h=>(E.clean _).2 h
   have afv:∀c,some Code.ret=some c->C.clean c:=fun c e=>by cases e;exact lc rfl
   have pu:∀ {k₁ AV:List Item},oc C S ρ q k₁ AV->dE P F C S ρ w w' (.go (aO ⟨f,t,k₁,d,.run,.normal,ro⟩ cs) w) (.go (aO ⟨f,t',AV,d',.run,eT,iS⟩ bh) w'):=
    fun Nw=>dE.pure hw (.inside (.mk f ht Nw hd .run hr hf) hL)
   have ev:∀ {k k':List Item} {d d':List Aa3} {r r':Option Nat},pL G ρ (Ad5 ⟨f,t,k,d,.run,.normal,r⟩) (Ad5 ⟨f,t',k',d',.run,eT,r'⟩):=C5 hG ht
   cases hk with
   |nil=>exact ON hw gw hL m m' none (by simp)
   |stop=>exact dE.ended
   | @cons _ i i' k k' hi hk=>
     cases hi with
     |inBlock id=>exact pu hk
     |inScope c hc=>exact pu hk
     |inLoop c hc=>exact pu (.cons (.code c hc) (.cons (.inLoop c hc) hk))
     |inRangeFunc hl=>exact dE.ended
     |beginRound=>
      refine Lr E hw gw (by simp) hL (Sim.Ql ?_) b
      cases hr with
      |none=>exact Sim.stuck
      |some hl=>exact Sim.beginRound hl
     |endRangeFunc hl=>
      refine dE.ue hw (Sim.endLoop hl) (k:=fun r=>match r with
       | .ok jump w=>.go (aO ⟨f,t,(jump.map Item.code).toList++k,d,.run,.normal,ro⟩ cs) w
       | .halt (.panic v) w=>.go (aO ((⟨f,t,_,d,.run,.normal,ro⟩:Abd).raise [{v,recovered:=false}]) cs) w
       | .halt _ w=>.ended (.stuck "range over a function: no such loop" _) w) (k':=fun r=>match r with
       | .ok jump w=>.go (aO ⟨f,t',(jump.map Item.code).toList++k',d',.run,eT,iS⟩ bh) w
       | .halt (.panic v) w=>.go (aO ((⟨f,t',_,d',.run,eT,iS⟩:Abd).raise [{v,recovered:=false}]) bh) w
       | .halt _ w=>.ended (.stuck "range over a function: no such loop" _) w) (fun h aq g aa es e hp=>?_) fun bH aq ep a b l2 eC hab=>?_
      ·cases h<;>simp only[reduceCtorEq,GStep.go.injEq] at e
       obtain⟨rfl,_⟩:=e;obtain⟨ch,e⟩:=raise_mode ⟨f,t,_,d,.run,.normal,ro⟩ _;exact hp.2 ch e
      ·obtain⟨rfl,hc⟩:=hab
       have cP:=hk.mono l2;cases a with
       |none=>exact dE.pure eC (.inside ((ea.mk f ht hk hd .run hr hf).mono l2) (hL.mono l2))
       |some cd=>exact dE.pure eC (.inside ((ea.mk f ht (.cons (.code cd (hc cd rfl)) hk) hd .run hr hf).mono l2) (hL.mono l2))
     |inRegion id dr ops todo hc=>
      cases todo with
      |nil=>exact pu hk
      |cons i rest=>
       have ya:ops.all (j7 P G)=true:=cl hc;unfold Aec;simp only[anm ops ht];split
       ·unfold stepG.oper
        simp only[Frame.oper?];cases ho:ops[i]? with
        |none=>exact dE.ended
        |some o=>
         have mB:o∈ops:= Ac9 ho;have k8:j7 P G o=true:=by simpa using Aal.1 ya o mB
         have nH:∀q,o.op≠ .defer q:=fun q e=>by simp[j7,iO,e] at k8
         have hs:=ed.execOp E o k8 (ev (k:=.inRegion ops (i::rest)::k) (k':=.inRegion ops (i::rest)::k') (d:=d) (d':=d') (r:=ro) (r':=iS));have:=Lr E hw gw (by simp) hL hs b
         simp only;cases hr with
         |none=>exact this
         |some hl=>
          cases ab:o.op<;>first|exact absurd ab (nH _) |exact this
       ·exact dE.pure hw (.inside (CX gw .undef (by simp)) hL)
     |cut hc=>
      rcases lG.SG hc with rfl| ⟨x,y,y',rfl,rfl,ha,hb⟩
      ·exact dE.ended
      ·exact pu (.cons (.code x ha) (.cons (.cut hb) hk))
     |code cd hc=>
      have fB:=cl hc;cases cd with
      |skip=>exact pu hk
      |label l=>exact pu hk
      |ret=>exact ON hw gw hL m m' (some .ret) afv
      |seq x y=>
       simp only[cr,Aax] at fB;exact pu (.cons (.code x (lc fB.1)) (.cons (.code y (lc fB.2)) hk))
      |cond x y z=>
       simp only[cr,Aax] at fB;have hx:=ev (k:=.code (.cond x y z)::k) (k':=.code (.cond x y z)::k') (d:=d) (d':=d') (r:=ro) (r':=iS) x fB.1.1;have fin:∀ {v1 v2:Value},ah ρ v1 v2->dE P F C S ρ w w'
        (match v1 with
          | .bool q=>.go (aO ⟨f,t,.code (if q then y else z)::k,d,.run,.normal,ro⟩ cs) w
          |_=>.ended (.stuck "cond: bool expected" (Frame.pos (tw P F) ⟨f,t,.code (.cond x y z)::k,d,.run,.normal,ro⟩)) w)
        (match v2 with
          | .bool q=>.go (aO ⟨f,t',.code (if q then y else z)::k',d',.run,eT,iS⟩ bh) w'
          |_=>.ended (.stuck "cond: bool expected" (Frame.pos P ⟨f,t',.code (.cond x y z)::k',d',.run,eT,iS⟩)) w'):=by
        intro v1 v2 hv;cases hv;case bool q=>cases q with
         |false=>exact pu (.cons (.code _ (lc fB.2)) hk)
         |true=>exact pu (.cons (.code _ (lc fB.1.2)) hk)
        all_goals exact dE.ended
       exact fin hx
      |block id x=>exact pu (.cons (.code x (lc fB)) (.cons (.inBlock id) hk))
      |loop x=>exact pu (.cons (.code x (lc fB)) (.cons (.inLoop x (lc fB)) hk))
      |scope x=>exact pu (.cons (.code x (lc fB)) (.cons (.inScope x (lc fB)) hk))
      |exit id=>
       have hx:=acu (C:=C) (S:=S) (ρ:=ρ) id hk;have:=ON (P:=P) (F:=F) hw gw hL m m' (some (.exit id)) (fun c e=>by cases e;exact hc)
       unfold Aec;simp only;rcases hx with⟨e1,e2⟩ | ⟨k₁,AV,e1,e2,Nw⟩
       ·rw[e1]
        cases q with
        |false=>rw[e2 rfl];exact this
        |true=>
         have DY:=hf.base rfl;subst DY;cases hr;exact dE.ended
       ·rw[e1,e2];exact pu Nw
      |region id ops dr=>
       unfold Aec;simp only;cases dr with
       |false=>exact pu (.cons (.inRegion id false ops _ hc) hk)
       |true=>
        simp only[Adg,Aaw,if_false];cases hq:(Go.choose (.order f id)).run (tw P F) w with
        |halt h aq=>exact dE.ended
        |ok n aq=>
         obtain⟨bH,n',ep,eD,k1,rfl,k3,k4,k5⟩:=Sim.choose (P':=tw P F) (P:=P) (C:=C) (ρ:=ρ) (.order f id) ρ ρ.le_refl w w' #[] hw n aq hq;have tP:(Go.choose (.order f id)).run P w'=.ok n ep:=by rw[<-Sem.runT_fst P _ w' #[],k1]
         simp only[tP];have:=dE.step (es:=#[]) (eD:=#[]) (P:=P) (F:=F) k4 (by simp) (dE.pure (es:=#[]) k3 (.inside ((ea.mk f ht (.cons (.inRegion id true ops (Region.schedule (P.follows .mixedOrders) ops n) hc) hk) hd .run hr hf).mono k4.le) (hL.mono k4.le)))
         exact this
      |rangeFunc g ps x y=>
       simp only[cr,Aax] at fB;refine dE.ue hw (Sim.enterLoop f ht ps (lc fB.1.2) (lc fB.2) hr) (k:=fun r=>match r with
        | .ok (l,mark) w=>Aed (tw P F) b ⟨f,t,.inRangeFunc l::k,mark++d,.run,.normal,ro⟩ cs none
          (do let d <-resolve (Ad5 ⟨f,t,.inRangeFunc l::k,mark++d,.run,.normal,ro⟩) {callee:=.value g,args:=#[.const (.func (.yield l) #[] #[])],argTypes:=#[]} 0;Go.invoke d.target d.args) w
        | .halt _ w=>.ended (.stuck "range over a function: no such loop" _) w) (k':=fun r=>match r with
        | .ok (l,mark) w=>Aed P true ⟨f,t',.inRangeFunc l::k',mark++d',.run,eT,iS⟩ bh none
          (do let d <-resolve (Ad5 ⟨f,t',.inRangeFunc l::k',mark++d',.run,eT,iS⟩) {callee:=.value g,args:=#[.const (.func (.yield l) #[] #[])],argTypes:=#[]} 0;Go.invoke d.target d.args) w
        | .halt _ w=>.ended (.stuck "range over a function: no such loop" _) w) (fun h aq g aa es e=>?_) fun bH aq ep x1 x2 l2 eC hab=>?_
       ·simp at e
       ·obtain⟨l1,Iq⟩:=x1
        obtain⟨yB,Ir⟩:=x2;obtain⟨hl,Ay⟩:=hab;refine Lr E eC (.mk f (ht.mono l2) (.cons (.inRangeFunc hl) (hk.mono l2)) (jJ.app Ay (hd.mono l2)) .run ?_ hf) (by simp) (hL.mono l2) (Sim.lx ?_) b
        ·cases hr with
         |none=>exact .none
         |some h=>exact .some (l2 _ _ h)
        ·have he:pL G bH (Ad5 ⟨f,t,.inRangeFunc l1::k,Iq++d,.run,.normal,ro⟩) (Ad5 ⟨f,t',.inRangeFunc yB::k',Ir++d',.run,eT,iS⟩):=C5 (fun g hg=>l2 _ _ (hG g hg)) (ht.mono l2)
         have hy:aP bH #[Value.func (.yield l1) #[] #[]] #[Value.func (.yield yB) #[] #[]]:=bU.one (R:=ah bH) (ah.func (.yield hl) rfl (by simp) rfl (by simp))
         exact Sim.AT E (he g fB.1.1) (by simpa [Ad5] using hy)
      |goto l=>simp[cr] at fB
      |refuse s=>simp[cr] at fB
theorem Xx(E:Env P F C G)(hG:∀g,G g=true->ρ g g){w w':Aa4}(hw:gY C ρ w w'){q:Bool}{fr aV:Abd}(b7:ea C S ρ q fr aV){cs bh:List Abd}(hL:Below C S ρ q cs bh)(m m' b:Bool)
 (st st':GoStatus)(of of':Option (Array CommCase×CommShape)):
 dE P F C S ρ w w' (Adn (tw P F) m ⟨fr,cs,st,none,of⟩ w b) (Adn P m' ⟨aV,bh,st',none,of'⟩ w' true):=by
 have gw:=b7;cases b7 with
 | @mk f t t' ht k k' hk d d' hd md hm ro iS hr eT hf=>
   cases hm with
   |run=>exact acp E hG hw gw rfl hL m m' b
   |returning=>exact amC E hw gw rfl hL m m'
end
end Go.Sim
namespace Go.Sim
open Go
def pH:Obj->Prop
 | .deferred (some (_::_))=>True
 |_=>False
def wR:Halt->Prop
 | .panic _| .stuck _| .unsupported _=>True
 |_=>False
def aj(p:Aa6){α:Type}:Sem α->Prop
 | .pure _=>True
 | .load _ _ k=>∀v,aj p (k v)
 | .store _ _ _ k=>aj p k
 | .new o k=>¬pH o/\∀r,aj p (k r)
 | .shape _ k=>∀x,aj p (k x)
 | .freeze _ _ k=>aj p k
 | .frozen _ k=>∀x,aj p (k x)
 | .getObj _ k=>∀o,aj p (k o)
 | .setObj _ o k=>¬pH o/\aj p k
 | .choose _ k=>∀n,aj p (k n)
 | .sys _ _=>False
 | .program k=>aj p (k p)
 | .mark _ k=>aj p k
 | .halt h=>wR h
theorem aj.bind{p:Aa6}{α β:Type}{s:Sem α}{f:α->Sem β}(h:aj p s)(hf:∀a,aj p (f a)):aj p (s.bind f):=by
 induction s with
 |pure a=>exact hf a
 |load m a k ih=>exact fun v=>ih v (h v)
 |store m a v k ih=>exact ih h
 |new o k ih=>exact⟨h.1,fun r=>ih r (h.2 r)⟩
 |shape r k ih=>exact fun v=>ih v (h v)
 |freeze a n k ih=>exact ih h
 |frozen a k ih=>exact fun v=>ih v (h v)
 |getObj r k ih=>exact fun v=>ih v (h v)
 |setObj r o k ih=>exact⟨h.1,ih h.2⟩
 |choose q k ih=>exact fun v=>ih v (h v)
 |sys c k ih=>exact h
 |program k ih=>exact ih p h
 |mark m k ih=>exact ih h
 |halt h=>exact h
theorem aj.bind'{p:Aa6}{α β:Type}{s:Sem α}{f:α->Sem β}(h:aj p s)(hf:∀a,aj p (f a)):aj p (s>>=f):=aj.bind h hf
def aZ(w:Aa4)(T:Tape):Aa4:={w with tape:=T}
def aj9{α:Type}(T:Tape):Ado α->Ado α
 | .ok a w=>.ok a (aZ w T)
 | .halt h w=>.halt h (aZ w T)
def BO{α:Type}:Ado α->Aa4
 | .ok _ w=>w
 | .halt _ w=>w
def bJ(h:Array Obj):Prop:=∀o∈h,¬pH o
theorem bJ.push{h:Array Obj}(x:bJ h){o:Obj}(ho:¬pH o):bJ (h.push o):=fun a ha=>by
 rcases Array.mem_push.1 ha with ha|rfl
 ·exact x a ha
 ·exact ho
theorem bJ.set{h:Array Obj}(x:bJ h)(i:Nat){o:Obj}(ho:¬pH o):bJ (h.setIfInBounds i o):=fun a ha=>by
 rcases Array.mem_or_eq_of_mem_setIfInBounds ha with ha|rfl
 ·exact x a ha
 ·exact ho
theorem bJ.modify{h:Array Obj}(x:bJ h)(i:Nat){f:Obj->Obj}(hf:∀o,¬pH o->¬pH (f o)):bJ (h.modify i f):=fun a ha=>by
 obtain⟨j,hj,rfl⟩:=Ada.1 ha;simp only[Array.getElem_modify];split
 ·exact hf _ (x _ (Array.getElem_mem _))
 ·exact x _ (Array.getElem_mem _)
theorem bJ.get{h:Array Obj}(x:bJ h){i:Nat}{o:Obj}(ho:h[i]?=some o):¬pH o:=x o (Ac9 ho)
theorem amE(p:Aa6)(w:Aa4)(at_:Aay)(u:Aa1)(k:Aay)(v:Value)(a:Bool):∃r:Except String (Array Obj×List Aay),(∀x,r=.ok x->bJ w.heap->bJ x.1)/\∀T d,({w with tape:=T,drawn:=d}:Aa4).viewStore p at_ u k v a=match r with| .ok (h,x)=>.ok ({w with heap:=h,tape:=T,drawn:=d},x) | .error e=>.error e:=by
 cases h:w.viewStore p at_ u k v a with
 |error e=>
  refine⟨.error e,(by simp),fun T d=>?_⟩
  unfold World.viewStore at h |-
  have:({w with tape:=T,drawn:=d}:Aa4).seen p at_ u k a=w.seen p at_ u k a:=rfl
  rw[this];simp only[bind,Except.bind,pure,Except.pure] at h |-
  (repeat' split at h)<;>simp_all
 |ok r=>
  refine⟨.ok (r.1.heap,r.2),fun x hx hn=>?_,fun T d=>?_⟩
  ·cases hx
   unfold World.viewStore at h;simp only[bind,Except.bind,pure,Except.pure] at h
   (repeat' split at h)<;>first| (cases h;done) | (cases h;exact hn.set _ (fun h=>h))
  ·unfold World.viewStore at h |-
   have:({w with tape:=T,drawn:=d}:Aa4).seen p at_ u k a=w.seen p at_ u k a:=rfl
   rw[this];simp only[bind,Except.bind,pure,Except.pure] at h |-
   (repeat' split at h)<;>first| (cases h;done) | (cases h;simp_all)
theorem acA(p:Aa6)(w:Aa4)(a:Aay)(v:Value)(b:Bool):∃r:Except Halt (Array Obj×List Aay),(∀x,r=.ok x->bJ w.heap->bJ x.1)/\∀T d,({w with tape:=T,drawn:=d}:Aa4).farStore p a v b=match r with| .ok (h,x)=>.ok ({w with heap:=h,tape:=T,drawn:=d},x) | .error e=>.error e:=by
 unfold World.farStore;simp only;cases h:w.heap[a.block]? with
 |none=>exact⟨.error (w.noCell a "store: no such cell"),(by simp),fun T d=>by simp only[World.noCell,h]⟩
 |some o=>
  cases o;case view at_ u=>
   obtain⟨r,hn,hr⟩:=amE p w at_ u a v b;refine⟨match r with| .ok x=>.ok x| .error why=>.error (.unsupported (.unsafePointer why)),fun x hx=>?_,fun T d=>?_⟩
   ·cases r with
    |ok y=>cases hx;exact hn _ rfl
    |error=>cases hx
   ·simp only[hr]
    cases r<;>rfl
  all_goals exact⟨.error (w.noCell a "store: no such cell"),(by simp),fun T d=>by simp only[World.noCell,h]⟩
theorem aiO(w:Aa4)(a:Aay)(v:Value)(h:bJ w.heap):bJ (w.setCell a v).heap:=by
 unfold World.setCell;simp only;refine bJ.modify h _ ?_
 intro o ho;cases o<;>exact ho
theorem run_store{p:Aa6}{α:Type}{m:Mode}{a:Aay}{v:Value}{k:Sem α}(w:Aa4):(∃h,∀T d,(Aeb m a v k).run p {w with tape:=T,drawn:=d}=.halt h {w with tape:=T,drawn:=d})\/
 ∃hp,(bJ w.heap->bJ hp)/\∀T d,(Aeb m a v k).run p {w with tape:=T,drawn:=d}=k.run p {w with heap:=hp,tape:=T,drawn:=d}:=by
 have key:(∃h,∀T d,(match({w with tape:=T,drawn:=d}:Aa4).cell? a with
  |some _=>if({w with tape:=T,drawn:=d}:Aa4).frozen? a then(.halt (.unsupported (.unsafePointer "a write to bytes that a string shares")) {w with tape:=T,drawn:=d}:Ado α) else k.run p (({w with tape:=T,drawn:=d}:Aa4).setCell a v)
  |none=>match({w with tape:=T,drawn:=d}:Aa4).farStore p a v (m==Aea) with
   | .ok (w,_)=>k.run p w
   | .error h=>(.halt h {w with tape:=T,drawn:=d}:Ado α))=.halt h {w with tape:=T,drawn:=d})\/
  ∃hp,(bJ w.heap->bJ hp)/\∀T d,(match({w with tape:=T,drawn:=d}:Aa4).cell? a with
   |some _=>if({w with tape:=T,drawn:=d}:Aa4).frozen? a then(.halt (.unsupported (.unsafePointer "a write to bytes that a string shares")) {w with tape:=T,drawn:=d}:Ado α) else k.run p (({w with tape:=T,drawn:=d}:Aa4).setCell a v)
   |none=>match({w with tape:=T,drawn:=d}:Aa4).farStore p a v (m==Aea) with
    | .ok (w,_)=>k.run p w
    | .error h=>(.halt h {w with tape:=T,drawn:=d}:Ado α))=k.run p {w with heap:=hp,tape:=T,drawn:=d}:=by
  have e1:∀T d,({w with tape:=T,drawn:=d}:Aa4).cell? a= w.cell? a:=fun _ _=>rfl
  have e2:∀T d,({w with tape:=T,drawn:=d}:Aa4).frozen? a= w.frozen? a:=fun _ _=>rfl
  simp only[e1,e2];cases w.cell? a with
  |some x=>
   by_cases hf: w.frozen? a=true
   ·exact .inl ⟨.unsupported (.unsafePointer "a write to bytes that a string shares"),fun T d=>by simp only[hf,if_true]⟩
   ·exact .inr ⟨(w.setCell a v).heap,aiO w a v,fun T d=>by simp only[hf];rfl⟩
  |none=>
   obtain⟨r,hn,hr⟩:=acA p w a v (m==Aea);simp only[hr];cases r with
   |ok x=>exact .inr ⟨x.1,hn x rfl,fun T d=>rfl⟩
   |error h=>exact .inl ⟨h,fun T d=>rfl⟩
 cases v;case agg x=>exact .inl ⟨_,fun T d=>rfl⟩
 case tuple x=>exact .inl ⟨_,fun T d=>rfl⟩
 all_goals exact key
theorem Mk(w:Aa4)(a:Aay)(n:Nat):∃hp,(bJ w.heap->bJ hp)/\∀T d,({w with tape:=T,drawn:=d}:Aa4).freeze a n={w with heap:=hp,tape:=T,drawn:=d}:=by
 refine⟨(w.freeze a n).heap,fun hn=>?_,fun T d=>?_⟩
 ·unfold World.freeze
  by_cases h:n=0
  ·simpa only[h,if_true] using hn
  ·simp only[h,if_false]
   refine bJ.modify hn _ ?_
   intro o ho;cases o<;>exact ho
 unfold World.freeze;by_cases h:n=0
 ·simp only[h,if_true]
 ·simp only[h,if_false]
theorem WM{p:Aa6}{α:Type}{s:Sem α}(hs:aj p s):∀(w:Aa4),w.drawn<=(BO (s.run p w)).drawn/\(BO (s.run p w)).tape=w.tape:=by
 induction s with
 |pure a=>intro w;exact⟨Ac2 _,rfl⟩
 |load m a k ih=>
  intro w;simp only[Acx]
  (repeat' split)<;>first|exact ih _ (hs _) w|exact⟨Ac2 _,rfl⟩
 |store m a v k ih=>
  intro w;rcases run_store (p:=p) (m:=m) (a:=a) (v:=v) (k:=k) w with⟨h,e⟩ | ⟨hp,hn,e⟩
  ·rw[show(Aeb m a v k).run p w=_ from e w.tape w.drawn];exact⟨Ac2 _,rfl⟩
  ·rw[show(Aeb m a v k).run p w=_ from e w.tape w.drawn];exact ih hs {w with heap:=hp}
 |new o k ih=>intro w;exact ih _ (hs.2 _) {w with heap:=w.heap.push o}
 |shape r k ih=>intro w;exact ih _ (hs _) w
 |freeze a n k ih=>
  intro w;obtain⟨hp,hn,e⟩:=Mk w a n;simp only[Acx];rw[show w.freeze a n=_ from e w.tape w.drawn]
  exact ih hs {w with heap:=hp}
 |frozen a k ih=>intro w;exact ih _ (hs _) w
 |getObj r k ih=>
  intro w;simp only[Acx]
  (repeat' split)<;>first|exact ih _ (hs _) w|exact⟨Ac2 _,rfl⟩
 |setObj r o k ih=>
  intro w;simp only[Acx]
  (repeat' split)<;>first|exact ih hs.2 {w with heap:=w.heap.setIfInBounds r o} |exact⟨Ac2 _,rfl⟩
 |choose q k ih=>
  intro w;simp only[Acx];split
  ·exact ih _ (hs _) w
  ·have:=ih (q.cut (w.tape w.drawn q)) (hs _) {w with drawn:=w.drawn+1}
   exact⟨by have:=this.1;simp only at this;omega,this.2⟩
 |sys c k ih=>exact hs.elim
 |program k ih=>intro w;exact ih _ hs w
 |mark m k ih=>intro w;exact ih hs w
 |halt h=>intro w;exact⟨Ac2 _,rfl⟩
theorem akv{p:Aa6}{α:Type}{s:Sem α}(hs:aj p s):∀(w:Aa4),bJ w.heap->bJ (BO (s.run p w)).heap:=by
 induction s with
 |pure a=>intro w h;exact h
 |load m a k ih=>
  intro w h;simp only[Acx]
  (repeat' split)<;>first|exact ih _ (hs _) w h|exact h
 |store m a v k ih=>
  intro w h0;rcases run_store (p:=p) (m:=m) (a:=a) (v:=v) (k:=k) w with⟨h,e⟩ | ⟨hp,hn,e⟩
  ·rw[show(Aeb m a v k).run p w=_ from e w.tape w.drawn];exact h0
  ·rw[show(Aeb m a v k).run p w=_ from e w.tape w.drawn];exact ih hs {w with heap:=hp} (hn h0)
 |new o k ih=>intro w h;exact ih _ (hs.2 _) {w with heap:=w.heap.push o} (h.push hs.1)
 |shape r k ih=>intro w h;exact ih _ (hs _) w h
 |freeze a n k ih=>
  intro w h;obtain⟨hp,hn,e⟩:=Mk w a n;simp only[Acx];rw[show w.freeze a n=_ from e w.tape w.drawn]
  exact ih hs {w with heap:=hp} (hn h)
 |frozen a k ih=>intro w h;exact ih _ (hs _) w h
 |getObj r k ih=>
  intro w h;simp only[Acx]
  (repeat' split)<;>first|exact ih _ (hs _) w h|exact h
 |setObj r o k ih=>
  intro w h;simp only[Acx]
  (repeat' split)<;>first|exact ih hs.2 {w with heap:=w.heap.setIfInBounds r o} (h.set _ hs.1) |exact h
 |choose q k ih=>
  intro w h;simp only[Acx];split
  ·exact ih _ (hs _) w h
  ·exact ih (q.cut (w.tape w.drawn q)) (hs _) {w with drawn:=w.drawn+1} h
 |sys c k ih=>exact hs.elim
 |program k ih=>intro w h;exact ih _ hs w h
 |mark m k ih=>intro w h;exact ih hs w h
 |halt h=>intro w h;exact h
theorem WR{p:Aa6}{α:Type}{s:Sem α}(hs:aj p s):∀(w:Aa4) (T:Tape),(∀j q,w.drawn<=j->j<(BO (s.run p w)).drawn->T j q=w.tape j q)->s.run p (aZ w T)=aj9 T (s.run p w):=by
 induction s with
 |pure a=>intro w T _;rfl
 |load m a k ih=>
  intro w T hT;simp only[Acx] at hT |-
  have e1:(aZ w T).cell? a= w.cell? a:=rfl;have e2:(aZ w T).farLoad p a (m==Aea)=w.farLoad p a (m==Aea):=rfl;rw[e1,e2];cases hc: w.cell? a with
  |some v=>simp only[hc] at hT |-;exact ih _ (hs _) w T hT
  |none=>
   simp only[hc] at hT |-
   cases hf:w.farLoad p a (m==Aea) with
   |ok x=>simp only[hf] at hT |-;exact ih _ (hs _) w T hT
   |error h=>simp only;rfl
 |store m a v k ih=>
  intro w T hT;rcases run_store (p:=p) (m:=m) (a:=a) (v:=v) (k:=k) w with⟨h,e⟩ | ⟨hp,hn,e⟩
  ·rw[show(Aeb m a v k).run p w=_ from e w.tape w.drawn];exact e T w.drawn
  ·have e1:=e w.tape w.drawn
   have e1:(Aeb m a v k).run p w=_:=e1;rw[e1] at hT |-
   have e2:(Aeb m a v k).run p (aZ w T)=_:=e T w.drawn;rw[e2];exact ih hs {w with heap:=hp} T hT
 |new o k ih=>intro w T hT;exact ih _ (hs.2 _) {w with heap:=w.heap.push o} T hT
 |shape r k ih=>intro w T hT;exact ih _ (hs _) w T hT
 |freeze a n k ih=>
  intro w T hT;obtain⟨hp,hn,e⟩:=Mk w a n;simp only[Acx] at hT |-
  have e1:w.freeze a n=_:=e w.tape w.drawn;have e2:(aZ w T).freeze a n=_:=e T w.drawn;rw[e1] at hT |-
  rw[e2];exact ih hs {w with heap:=hp} T hT
 |frozen a k ih=>intro w T hT;exact ih _ (hs _) w T hT
 |getObj r k ih=>
  intro w T hT;simp only[Acx] at hT |-
  show(match w.heap[r]? with
   |some (.cells ..)=>(.halt (.stuck "getObj: a row of cells") (aZ w T):Ado α)
   |some o=>(k o).run p (aZ w T)
   |none=>.halt (.stuck "getObj: no such block") (aZ w T))=_
  cases ho:w.heap[r]? with
  |none=>simp only;rfl
  |some o=>
   simp only[ho] at hT |-
   cases o<;>first|rfl|exact ih _ (hs _) w T hT
 |setObj r o k ih=>
  intro w T hT;simp only[Acx] at hT |-
  show(match w.heap[r]? with
   |some (.cells ..)=>(.halt (.stuck "setObj: a row of cells") (aZ w T):Ado α)
   |some _=>k.run p { (aZ w T) with heap:=w.heap.setIfInBounds r o}
   |none=>.halt (.stuck "setObj: no such block") (aZ w T))=_
  cases ho:w.heap[r]? with
  |none=>simp only;rfl
  |some o'=>
   simp only[ho] at hT |-
   cases o'<;>first|rfl|exact ih hs.2 {w with heap:=w.heap.setIfInBounds r o} T hT
 |choose q k ih=>
  intro w T hT;simp only[Acx] at hT |-
  by_cases hq:q.forced=true
  ·rw[if_pos hq] at hT |-
   rw[if_pos hq];exact ih _ (hs _) w T hT
  ·rw[if_neg hq] at hT |-
   rw[if_neg hq];have hd:=(WM (hs (q.cut (w.tape w.drawn q))) {w with drawn:=w.drawn+1}).1
   have e:T w.drawn q=w.tape w.drawn q:=hT w.drawn q (Ac2 _) (by simp only at hd;omega)
   show(k (q.cut (T w.drawn q))).run p (aZ {w with drawn:=w.drawn+1} T)=_
   rw[e];exact ih _ (hs _) {w with drawn:=w.drawn+1} T fun j q h1 h2=>hT j q (by simp only at h1;omega) h2
 |sys c k ih=>exact hs.elim
 |program k ih=>intro w T hT;exact ih _ hs w T hT
 |mark m k ih=>intro w T hT;exact ih hs w T hT
 |halt h=>intro w T hT;rfl
end Go.Sim
namespace Go.Sim
open Go
variable {p:Aa6}
namespace aj
theorem pure{α:Type}(a:α):aj p (Pure.pure a):=trivial
theorem aM{α:Type}(a:α):aj p (Sem.pure a):=trivial
theorem newObj{o:Obj}(h:¬pH o):aj p (Go.newObj o):=⟨h,fun _=>trivial⟩
theorem setObj{o:Obj}(r:Nat)(h:¬pH o):aj p (Go.setObj r o):=⟨h,trivial⟩
theorem ite{α:Type}{c:Prop}[Decidable c]{a b:Sem α}(h:aj p a)(h2:aj p b):aj p (if c then a else b):=by
 split<;>assumption
theorem map{α β:Type}{s:Sem α}(f:α->β)(h:aj p s):aj p (f<$>s):=by
 rw[map_eq_pure_bind];exact bind' h fun _=>trivial
theorem q0{ι σ:Type}(l:List ι){f:ι->σ->Sem (ForInStep σ)}(h:∀x s,aj p (f x s)):∀s,aj p (forIn l s f):=by
 induction l with
 |nil=>intro s;exact trivial
 |cons a l ih=>
  intro s;rw[List.forIn_cons];refine bind' (h _ _) fun r=>?_
  cases r
  ·exact trivial
  ·exact ih _
theorem q1{ι σ:Type}(l:Array ι){f:ι->σ->Sem (ForInStep σ)}(h:∀x s,aj p (f x s))(s:σ):aj p (forIn l s f):=by
 rw[<-Array.forIn_toList];exact q0 _ h s
theorem q2{σ:Type}(l:Std.Legacy.Range){f:Nat->σ->Sem (ForInStep σ)}(h:∀x s,aj p (f x s))(s:σ):aj p (forIn l s f):=by
 rw[Std.Legacy.Range.forIn_eq_forIn_range'];exact q0 _ h s
theorem q3{ι σ:Type}(l:List ι){f:ι->Sem σ}(h:∀x,aj p (f x)):aj p (l.mapM f):=by
 induction l with
 |nil=>exact trivial
 |cons a l ih=>
  rw[List.mapM_cons];exact bind' (h _) fun _=>aj.bind' ih fun _=>trivial
theorem q4{ι σ:Type}(l:Array ι){f:ι->Sem σ}(h:∀x,aj p (f x)):aj p (l.mapM f):=by
 rw[Array.mapM_eq_mapM_toList];exact map _ (aj.q3 _ h)
theorem q5{ι σ:Type}(l:List ι){f:σ->ι->Sem σ}(h:∀s x,aj p (f s x)):∀s,aj p (l.foldlM f s):=by
 induction l with
 |nil=>intro s;exact trivial
 |cons a l ih=>
  intro s;rw[List.foldlM_cons];exact bind' (h _ _) fun _=>ih _
theorem q6{α:Type}(s:String):aj p ((Go.stuck s:Sem α)):=by
 repeat' first| (with_reducible first|exact pure _|exact aM _|refine bind' ?_ fun _=>?_|refine ite ?_ ?_) |split|dsimp only|trivial
theorem q7{α:Type}(s:Unsupported):aj p ((Go.unsupported s:Sem α)):=by
 repeat' first| (with_reducible first|exact pure _|exact aM _|refine bind' ?_ fun _=>?_|refine ite ?_ ?_) |split|dsimp only|trivial
theorem choose(q:Question):aj p (Go.choose q):=by
 intro _
 repeat' first| (with_reducible first|exact pure _|exact aM _|refine bind' ?_ fun _=>?_|refine ite ?_ ?_) |split|dsimp only|trivial
theorem q8:aj p (Go.program):=by
 repeat' first| (with_reducible first|exact pure _|exact aM _|refine bind' ?_ fun _=>?_|refine ite ?_ ?_) |split|dsimp only|trivial
theorem q9(m:Mark):aj p (Go.mark m):=by
 repeat' first| (with_reducible first|exact pure _|exact aM _|refine bind' ?_ fun _=>?_|refine ite ?_ ?_) |split|dsimp only|trivial
theorem py(r:Nat):aj p (Go.getObj r):=by
 intro _
 repeat' first| (with_reducible first|exact pure _|exact aM _|refine bind' ?_ fun _=>?_|refine ite ?_ ?_) |split|dsimp only|trivial
theorem Bi(a:Aay)(m:Mode):aj p (Go.load a m):=by
 intro _
 repeat' first| (with_reducible first|exact pure _|exact aM _|refine bind' ?_ fun _=>?_|refine ite ?_ ?_) |split|dsimp only|trivial
theorem EO(a:Aay)(v:Value)(m:Mode):aj p (Go.store a v m):=by
 repeat' first| (with_reducible first|exact pure _|exact aM _|refine bind' ?_ fun _=>?_|refine ite ?_ ?_) |split|dsimp only|trivial
theorem nO(r:Nat):aj p (Go.shape r):=by
 intro _
 repeat' first| (with_reducible first|exact pure _|exact aM _|refine bind' ?_ fun _=>?_|refine ite ?_ ?_) |split|dsimp only|trivial
theorem gF(x0:Aa1):aj p (Go.underlying x0):=by
 unfold Go.underlying
 repeat' first| (with_reducible first|exact pure _|exact aM _|exact q6 _|exact q8|refine bind' ?_ fun _=>?_|refine ite ?_ ?_) |split|dsimp only|trivial
theorem EP(x0:Aa1):aj p (Go.elemOf x0):=by
 unfold Go.elemOf
 repeat' first| (with_reducible first|exact pure _|exact aM _|exact q6 _|exact gF _|refine bind' ?_ fun _=>?_|refine ite ?_ ?_) |split|dsimp only|trivial
theorem tW(x0:Aa1)(x1:Array Value):aj p (Go.newRow x0 x1):=by
 unfold Go.newRow
 repeat' first| (with_reducible first|exact pure _|exact aM _|exact newObj id|refine bind' ?_ fun _=>?_|refine ite ?_ ?_) |split|dsimp only|trivial
theorem yO(x0:Aa1)(x1:Value):aj p (Go.newVar x0 x1):=by
 unfold Go.newVar
 repeat' first| (with_reducible first|exact pure _|exact aM _|exact tW _ _|refine bind' ?_ fun _=>?_|refine ite ?_ ?_) |split|dsimp only|trivial
theorem runtimePanic{α:Type}(e:RuntimeError):aj p ((Go.runtimePanic e:Sem α)):=by
 unfold Go.runtimePanic
 repeat' first| (with_reducible first|exact pure _|exact aM _|exact q8|exact EP _|exact yO _ _|refine bind' ?_ fun _=>?_|refine ite ?_ ?_) |split|dsimp only|trivial
theorem yP{α:Type}(k:Aa0)(x y:Int)(c:BoundsCode):aj p ((Go.boundsPanic k x y c:Sem α)):=by
 unfold Go.boundsPanic
 repeat' first| (with_reducible first|exact pure _|exact aM _|exact choose _|exact runtimePanic _|refine bind' ?_ fun _=>?_|refine map _ ?_|refine ite ?_ ?_) |split|dsimp only|trivial
theorem rZ(x0:Aa1):aj p (Go.typeInfo x0):=by
 unfold Go.typeInfo
 repeat' first| (with_reducible first|exact pure _|exact aM _|exact q6 _|exact q8|refine bind' ?_ fun _=>?_|refine ite ?_ ?_) |split|dsimp only|trivial
theorem qQ(x0:Aa1):aj p (Go.zeroValue x0):=by
 unfold Go.zeroValue
 repeat' first| (with_reducible first|exact pure _|exact aM _|exact q7 _|exact rZ _|refine bind' ?_ fun _=>?_|refine ite ?_ ?_) |split|dsimp only|trivial
theorem lr(x0:Aa1):aj p (Go.sizeOf x0):=by
 unfold Go.sizeOf
 repeat' first| (with_reducible first|exact pure _|exact aM _|exact rZ _|refine bind' ?_ fun _=>?_|refine ite ?_ ?_) |split|dsimp only|trivial
theorem Bj(x0:Aa1):aj p (Go.isAgg x0):=by
 unfold Go.isAgg
 repeat' first| (with_reducible first|exact pure _|exact aM _|exact gF _|refine bind' ?_ fun _=>?_|refine ite ?_ ?_) |split|dsimp only|trivial
theorem tX(x0:Aay)(x1:Nat)(x2:Nat)(x3:Array Value):aj p (Go.loadCellsFrom x0 x1 x2 x3):=by
 induction x2 generalizing x1 x3 with
 |zero=>exact trivial
 |succ n ih=>
 unfold Go.loadCellsFrom;refine bind' (aj.Bi _ _) fun _=>ih _ _
 all_goals
 repeat' first| (with_reducible first|exact pure _|exact aM _|refine bind' ?_ fun _=>?_|refine ite ?_ ?_) |split|dsimp only|trivial
theorem r8(x0:Aay)(x1:Nat):aj p (Go.loadCells x0 x1):=by
 unfold Go.loadCells
 repeat' first| (with_reducible first|exact pure _|exact aM _|exact tX _ _ _ _|refine bind' ?_ fun _=>?_|refine ite ?_ ?_) |split|dsimp only|trivial
theorem vW(x0:Aay)(x1:List Value)(x2:Nat):aj p (Go.storeCells x0 x1 x2):=by
 induction x1 generalizing x2 with
 |nil=>exact trivial
 |cons a l ih=>
 unfold Go.storeCells;refine bind' (aj.EO _ _ _) fun _=>ih _
 all_goals
 repeat' first| (with_reducible first|exact pure _|exact aM _|refine bind' ?_ fun _=>?_|refine ite ?_ ?_) |split|dsimp only|trivial
theorem sa(x0:Aa1)(x1:Aay):aj p (Go.loadVar x0 x1):=by
 unfold Go.loadVar
 repeat' first| (with_reducible first|exact pure _|exact aM _|exact Bi _ _|exact lr _|exact Bj _|exact r8 _ _|refine bind' ?_ fun _=>?_|refine ite ?_ ?_) |split|dsimp only|trivial
theorem Bl(x0:Aa1)(x1:Aay)(x2:Value):aj p (Go.storeVar x0 x1 x2):=by
 unfold Go.storeVar
 repeat' first| (with_reducible first|exact pure _|exact aM _|exact q6 _|exact lr _|exact vW _ _ _|refine bind' ?_ fun _=>?_|refine ite ?_ ?_) |split|dsimp only|trivial
theorem Bm(x0:Aa1)(x1:Array Value)(x2:Nat):aj p (Go.part x0 x1 x2):=by
 unfold Go.part
 repeat' first| (with_reducible first|exact pure _|exact aM _|exact q6 _|exact lr _|exact Bj _|refine bind' ?_ fun _=>?_|refine ite ?_ ?_) |split|dsimp only|trivial
theorem vX(x0:Value):aj p (Go.asIntOf x0):=by
 unfold Go.asIntOf
 repeat' first| (with_reducible first|exact pure _|exact aM _|exact q6 _|exact q7 _|refine bind' ?_ fun _=>?_|refine ite ?_ ?_) |split|dsimp only|trivial
theorem qR(x0:Value):aj p (Go.asInt x0):=by
 unfold Go.asInt
 repeat' first| (with_reducible first|exact pure _|exact aM _|exact vX _|refine bind' ?_ fun _=>?_|refine ite ?_ ?_) |split|dsimp only|trivial
theorem asBool(x0:Value):aj p (Go.asBool x0):=by
 unfold Go.asBool
 repeat' first| (with_reducible first|exact pure _|exact aM _|exact q6 _|refine bind' ?_ fun _=>?_|refine ite ?_ ?_) |split|dsimp only|trivial
theorem ER(x0:Value):aj p (Go.asAgg x0):=by
 unfold Go.asAgg
 repeat' first| (with_reducible first|exact pure _|exact aM _|exact q6 _|refine bind' ?_ fun _=>?_|refine ite ?_ ?_) |split|dsimp only|trivial
theorem Bn(x0:Value):aj p (Go.asAddr x0):=by
 unfold Go.asAddr
 repeat' first| (with_reducible first|exact pure _|exact aM _|exact q6 _|exact runtimePanic _|refine bind' ?_ fun _=>?_|refine ite ?_ ?_) |split|dsimp only|trivial
theorem tY(x0:Value):aj p (Go.Instr.sureAddr x0):=by
 unfold Go.Instr.sureAddr
 repeat' first| (with_reducible first|exact pure _|exact aM _|exact q6 _|refine bind' ?_ fun _=>?_|refine ite ?_ ?_) |split|dsimp only|trivial
theorem Bo(x0:Nat):aj p (Go.askRoom x0):=by
 unfold Go.askRoom
 repeat' first| (with_reducible first|exact pure _|exact aM _|exact q9 _|refine bind' ?_ fun _=>?_|refine ite ?_ ?_) |split|dsimp only|trivial
theorem yQ(x0:Nat):aj p (Go.viewAt x0):=by
 unfold Go.viewAt
 repeat' first| (with_reducible first|exact pure _|exact aM _|exact py _|exact nO _|refine bind' ?_ fun _=>?_|refine ite ?_ ?_) |split|dsimp only|trivial
theorem Bp(x0:Aay):aj p (Go.noView x0):=by
 unfold Go.noView
 repeat' first| (with_reducible first|exact pure _|exact aM _|exact q7 _|exact yQ _|refine bind' ?_ fun _=>?_|refine ite ?_ ?_) |split|dsimp only|trivial
theorem ES(x0:Aay):aj p (Go.markStringish x0):=by
 unfold Go.markStringish
 repeat' first| (with_reducible first|exact pure _|exact aM _|exact nO _|refine bind' ?_ fun _=>?_|refine ite ?_ ?_) |split|dsimp only|trivial
theorem Bq(x0:Nat):aj p (Go.numberAt x0):=by
 unfold Go.numberAt
 repeat' first| (with_reducible first|exact pure _|exact aM _|exact py _|exact nO _|refine bind' ?_ fun _=>?_|refine ite ?_ ?_) |split|dsimp only|trivial
theorem Br(x0:Aay):aj p (Go.behindNumber x0):=by
 unfold Go.behindNumber
 repeat' first| (with_reducible first|exact pure _|exact aM _|exact Bq _|refine bind' ?_ fun _=>?_|refine ite ?_ ?_) |split|dsimp only|trivial
theorem ET(x0:Aay)(x1:Bool):aj p (Go.asNumber x0 x1):=by
 unfold Go.asNumber
 repeat' first| (with_reducible first|exact pure _|exact aM _|exact newObj id|refine bind' ?_ fun _=>?_|refine ite ?_ ?_) |split|dsimp only|trivial
theorem yR(x0:Aay):aj p (Go.byteOf x0):=by
 unfold Go.byteOf
 repeat' first| (with_reducible first|exact pure _|exact aM _|exact q6 _|exact q8|exact nO _|exact Bp _|refine bind' ?_ fun _=>?_|refine ite ?_ ?_) |split|dsimp only|trivial
theorem EU(x0:Aay)(x1:Nat)(x2:Nat):aj p (Go.partAt x0 x1 x2):=by
 unfold Go.partAt
 repeat' first| (with_reducible first|exact pure _|exact aM _|exact yR _|refine bind' ?_ fun _=>?_|refine ite ?_ ?_) |split|dsimp only|trivial
theorem EV(x0:Aay)(x1:Field):aj p (Go.fieldPlace x0 x1):=by
 unfold Go.fieldPlace
 repeat' first| (with_reducible first|exact pure _|exact aM _|exact lr _|exact EU _ _ _|refine bind' ?_ fun _=>?_|refine ite ?_ ?_) |split|dsimp only|trivial
theorem Ce(x0:Aa1)(x1:Bool)(x2:Value):aj p (Go.Instr.alloc x0 x1 x2):=by
 unfold Go.Instr.alloc
 repeat' first| (with_reducible first|exact pure _|exact aM _|exact yO _ _|exact qQ _|exact Bl _ _ _|refine bind' ?_ fun _=>?_|refine ite ?_ ?_) |split|dsimp only|trivial
theorem Cf(x0:Aa1)(x1:Value):aj p (Go.Instr.box x0 x1):=by
 unfold Go.Instr.box
 repeat' first| (with_reducible first|exact pure _|exact aM _|exact yO _ _|refine bind' ?_ fun _=>?_|refine ite ?_ ?_) |split|dsimp only|trivial
theorem Cl(x0:Aa1)(x1:Value):aj p (Go.Instr.loadAt x0 x1):=by
 unfold Go.Instr.loadAt
 repeat' first| (with_reducible first|exact pure _|exact aM _|exact sa _ _|exact tY _|refine bind' ?_ fun _=>?_|refine ite ?_ ?_) |split|dsimp only|trivial
theorem Cn(x0:Aa1)(x1:Value)(x2:Value):aj p (Go.Instr.storeAt x0 x1 x2):=by
 unfold Go.Instr.storeAt
 repeat' first| (with_reducible first|exact pure _|exact aM _|exact Bl _ _ _|exact tY _|refine bind' ?_ fun _=>?_|refine ite ?_ ?_) |split|dsimp only|trivial
theorem Ci(x0:Aa1)(x1:Value)(x2:Nat):aj p (Go.Instr.fieldAt x0 x1 x2):=by
 unfold Go.Instr.fieldAt
 repeat' first| (with_reducible first|exact pure _|exact aM _|exact q6 _|exact gF _|exact tY _|exact EV _ _|refine bind' ?_ fun _=>?_|refine ite ?_ ?_) |split|dsimp only|trivial
theorem EW(x0:Value)(x1:Nat)(x2:BoundsCode):aj p (Go.Instr.sliceBound x0 x1 x2):=by
 unfold Go.Instr.sliceBound
 repeat' first| (with_reducible first|exact pure _|exact aM _|exact yP _ _ _ _|exact vX _|refine bind' ?_ fun _=>?_|refine ite ?_ ?_) |split|dsimp only|trivial
theorem Bs(x0:Bool)(x1:Nat)(x2:Nat)(x3:Option Value)(x4:Option Value)(x5:Option Value):aj p (Go.Instr.sliceBounds x0 x1 x2 x3 x4 x5):=by
 unfold Go.Instr.sliceBounds
 repeat' first| (with_reducible first|exact pure _|exact aM _|exact q6 _|exact EW _ _ _|refine bind' ?_ fun _=>?_|refine ite ?_ ?_) |split|dsimp only|trivial
theorem EX(x0:Aa1)(x1:Value)(x2:Option Value)(x3:Option Value)(x4:Option Value):aj p (Go.Instr.slice x0 x1 x2 x3 x4):=by
 unfold Go.Instr.slice
 repeat' first| (with_reducible first|exact pure _|exact aM _|exact q6 _|exact gF _|exact lr _|exact Bn _|exact Bs _ _ _ _ _ _|refine bind' ?_ fun _=>?_|refine ite ?_ ?_) |split|dsimp only|trivial
theorem Cm(x0:Aa1)(x1:Value)(x2:Option Value)(x3:Option Value)(x4:Option Value):aj p (Go.Instr.sliceAt x0 x1 x2 x3 x4):=by
 unfold Go.Instr.sliceAt
 repeat' first| (with_reducible first|exact pure _|exact aM _|exact gF _|exact lr _|exact tY _|exact Bs _ _ _ _ _ _|exact EX _ _ _ _ _|refine bind' ?_ fun _=>?_|refine ite ?_ ?_) |split|dsimp only|trivial
theorem Ck(x0:Aa1)(x1:Value)(x2:Value):aj p (Go.Instr.indexAt x0 x1 x2):=by
 unfold Go.Instr.indexAt
 repeat' first| (with_reducible first|exact pure _|exact aM _|exact q6 _|exact q7 _|exact gF _|exact yP _ _ _ _|exact lr _|exact vX _|exact tY _|refine bind' ?_ fun _=>?_|refine ite ?_ ?_) |split|dsimp only|trivial
theorem Cg(x0:Aa1)(x1:Value)(x2:Nat):aj p (Go.Instr.field x0 x1 x2):=by
 unfold Go.Instr.field
 repeat' first| (with_reducible first|exact pure _|exact aM _|exact q6 _|exact gF _|exact Bm _ _ _|exact ER _|refine bind' ?_ fun _=>?_|refine ite ?_ ?_) |split|dsimp only|trivial
theorem Cj(x0:Aa1)(x1:Value)(x2:Value):aj p (Go.Instr.index x0 x1 x2):=by
 unfold Go.Instr.index
 repeat' first| (with_reducible first|exact pure _|exact aM _|exact q6 _|exact gF _|exact yP _ _ _ _|exact lr _|exact Bm _ _ _|exact vX _|refine bind' ?_ fun _=>?_|refine ite ?_ ?_) |split|dsimp only|trivial
theorem EY(x0:Adp)(x1:Aa0)(x2:Int)(x3:Int):aj p (Go.Op.intArith x0 x1 x2 x3):=by
 unfold Go.Op.intArith
 repeat' first| (with_reducible first|exact pure _|exact aM _|exact q6 _|refine bind' ?_ fun _=>?_|refine ite ?_ ?_) |split|dsimp only|trivial
theorem EZ(x0:Adp)(x1:Aa0)(x2:Int)(x3:Int):aj p (Go.Op.intDiv x0 x1 x2 x3):=by
 unfold Go.Op.intDiv
 repeat' first| (with_reducible first|exact pure _|exact aM _|exact q6 _|exact runtimePanic _|refine bind' ?_ fun _=>?_|refine ite ?_ ?_) |split|dsimp only|trivial
theorem E0(x0:Adp)(x1:Aa0)(x2:Int)(x3:Int):aj p (Go.Op.intBits x0 x1 x2 x3):=by
 unfold Go.Op.intBits
 repeat' first| (with_reducible first|exact pure _|exact aM _|exact q6 _|refine bind' ?_ fun _=>?_|refine ite ?_ ?_) |split|dsimp only|trivial
theorem E4(x0:Adp)(x1:Int)(x2:Int):aj p (Go.Op.intCmp x0 x1 x2):=by
 unfold Go.Op.intCmp
 repeat' first| (with_reducible first|exact pure _|exact aM _|exact q6 _|refine bind' ?_ fun _=>?_|refine ite ?_ ?_) |split|dsimp only|trivial
theorem E5(x0:Adp)(x1:Aa0)(x2:Int)(x3:Aa0)(x4:Int):aj p (Go.Op.shift x0 x1 x2 x3 x4):=by
 unfold Go.Op.shift
 repeat' first| (with_reducible first|exact pure _|exact aM _|exact q6 _|exact runtimePanic _|refine bind' ?_ fun _=>?_|refine ite ?_ ?_) |split|dsimp only|trivial
theorem Bt(x0:Adp)(x1:Adq)(x2:Nat)(x3:Nat):aj p (Go.Op.floatArith x0 x1 x2 x3):=by
 unfold Go.Op.floatArith
 repeat' first| (with_reducible first|exact pure _|exact aM _|exact q6 _|exact choose _|refine bind' ?_ fun _=>?_|refine ite ?_ ?_) |split|dsimp only|trivial
theorem E6(x0:Adp)(x1:Adq)(x2:Nat)(x3:Nat):aj p (Go.Op.floatCmp x0 x1 x2 x3):=by
 unfold Go.Op.floatCmp
 repeat' first| (with_reducible first|exact pure _|exact aM _|exact q6 _|refine bind' ?_ fun _=>?_|refine ite ?_ ?_) |split|dsimp only|trivial
theorem E7(x0:Adq)(x1:Nat)(x2:Adq):aj p (Go.Conv.floatToFloat x0 x1 x2):=by
 unfold Go.Conv.floatToFloat
 repeat' first| (with_reducible first|exact pure _|exact aM _|exact choose _|refine bind' ?_ fun _=>?_|refine ite ?_ ?_) |split|dsimp only|trivial
theorem tZ(x0:Adp)(x1:Adq)(x2:Nat)(x3:Nat):aj p (Go.Op.Complex.arith x0 x1 x2 x3):=by
 unfold Go.Op.Complex.arith
 repeat' first| (with_reducible first|exact pure _|exact aM _|exact q6 _|exact Bt _ _ _ _|refine bind' ?_ fun _=>?_|refine ite ?_ ?_) |split|dsimp only|trivial
theorem yS(x0:Nat)(x1:Nat):aj p (Go.Op.Complex.add x0 x1):=by
 unfold Go.Op.Complex.add
 repeat' first| (with_reducible first|exact pure _|exact aM _|exact tZ _ _ _ _|refine bind' ?_ fun _=>?_|refine ite ?_ ?_) |split|dsimp only|trivial
theorem yT(x0:Nat)(x1:Nat):aj p (Go.Op.Complex.sub x0 x1):=by
 unfold Go.Op.Complex.sub
 repeat' first| (with_reducible first|exact pure _|exact aM _|exact tZ _ _ _ _|refine bind' ?_ fun _=>?_|refine ite ?_ ?_) |split|dsimp only|trivial
theorem yU(x0:Nat)(x1:Nat):aj p (Go.Op.Complex.mul x0 x1):=by
 unfold Go.Op.Complex.mul
 repeat' first| (with_reducible first|exact pure _|exact aM _|exact tZ _ _ _ _|refine bind' ?_ fun _=>?_|refine ite ?_ ?_) |split|dsimp only|trivial
theorem E8(x0:Nat)(x1:Nat):aj p (Go.Op.Complex.quo x0 x1):=by
 unfold Go.Op.Complex.quo
 repeat' first| (with_reducible first|exact pure _|exact aM _|exact tZ _ _ _ _|refine bind' ?_ fun _=>?_|refine ite ?_ ?_) |split|dsimp only|trivial
theorem E9(x0:Nat)(x1:Nat)(x2:Nat)(x3:Nat)(x4:Nat):aj p (Go.Op.Complex.corrected x0 x1 x2 x3 x4):=by
 unfold Go.Op.Complex.corrected
 repeat' first| (with_reducible first|exact pure _|exact aM _|exact yS _ _|exact yT _ _|exact yU _ _|refine bind' ?_ fun _=>?_|refine ite ?_ ?_) |split|dsimp only|trivial
theorem Fa(x0:Adq)(x1:Nat)(x2:Adq):aj p (Go.Op.Complex.conv x0 x1 x2):=by
 unfold Go.Op.Complex.conv
 repeat' first| (with_reducible first|exact pure _|exact aM _|exact q6 _|exact E7 _ _ _|refine bind' ?_ fun _=>?_|refine ite ?_ ?_) |split|dsimp only|trivial
theorem Fb(x0:Nat)(x1:Nat)(x2:Nat)(x3:Nat):aj p (Go.Op.Complex.product x0 x1 x2 x3):=by
 unfold Go.Op.Complex.product
 repeat' first| (with_reducible first|exact pure _|exact aM _|exact yS _ _|exact yT _ _|exact yU _ _|refine bind' ?_ fun _=>?_|refine ite ?_ ?_) |split|dsimp only|trivial
theorem Fc(x0:Nat)(x1:Nat)(x2:Nat)(x3:Nat):aj p (Go.Op.Complex.quotient x0 x1 x2 x3):=by
 unfold Go.Op.Complex.quotient
 repeat' first| (with_reducible first|exact pure _|exact aM _|exact yS _ _|exact yT _ _|exact yU _ _|exact E8 _ _|exact E9 _ _ _ _ _|refine bind' ?_ fun _=>?_|refine ite ?_ ?_) |split|dsimp only|trivial
theorem Fe(x0:Adp)(x1:Adq)(x2:Nat)(x3:Nat)(x4:Nat)(x5:Nat):aj p (Go.Op.complexOp x0 x1 x2 x3 x4 x5):=by
 unfold Go.Op.complexOp
 repeat' first| (with_reducible first|exact pure _|exact aM _|exact q6 _|exact tZ _ _ _ _|exact Fa _ _ _|exact Fb _ _ _ _|exact Fc _ _ _ _|refine bind' ?_ fun _=>?_|refine ite ?_ ?_) |split|dsimp only|trivial
theorem yV(x0:Adp)(x1:ByteArray)(x2:ByteArray):aj p (Go.Op.stringOp x0 x1 x2):=by
 unfold Go.Op.stringOp
 repeat' first| (with_reducible first|exact pure _|exact aM _|exact q6 _|exact q7 _|refine bind' ?_ fun _=>?_|refine ite ?_ ?_) |split|dsimp only|trivial
theorem Bu(x0:Aay)(x1:Aay):aj p (Go.Op.twoPlaces x0 x1):=by
 unfold Go.Op.twoPlaces
 repeat' first| (with_reducible first|exact pure _|exact aM _|exact q7 _|exact q8|exact yR _|refine bind' ?_ fun _=>?_|refine ite ?_ ?_) |split|dsimp only|trivial
theorem Ff(x0:Aa0)(x1:Aay)(x2:Aay):aj p (Go.Op.addrSub x0 x1 x2):=by
 unfold Go.Op.addrSub
 repeat' first| (with_reducible first|exact pure _|exact aM _|exact Bu _ _|refine bind' ?_ fun _=>?_|refine ite ?_ ?_) |split|dsimp only|trivial
theorem Fg(x0:Adp)(x1:Aay)(x2:Aay):aj p (Go.Op.addrCmp x0 x1 x2):=by
 unfold Go.Op.addrCmp
 repeat' first| (with_reducible first|exact pure _|exact aM _|exact q7 _|exact Bu _ _|refine bind' ?_ fun _=>?_|refine ite ?_ ?_) |split|dsimp only|trivial
theorem Fh(x0:Aa0)(x1:Aay)(x2:Int):aj p (Go.Op.addrMod x0 x1 x2):=by
 unfold Go.Op.addrMod
 repeat' first| (with_reducible first|exact pure _|exact aM _|exact q7 _|exact nO _|exact rZ _|exact yR _|refine bind' ?_ fun _=>?_|refine ite ?_ ?_) |split|dsimp only|trivial
theorem yW(x0:Aay):aj p (Go.frozen x0):=by
 intro _
 repeat' first| (with_reducible first|exact pure _|exact aM _|refine bind' ?_ fun _=>?_|refine ite ?_ ?_) |split|dsimp only|trivial
theorem Fi(x0:Aay):aj p (Go.stringish x0):=by
 unfold Go.stringish
 repeat' first| (with_reducible first|exact pure _|exact aM _|exact nO _|exact yW _|refine bind' ?_ fun _=>?_|refine ite ?_ ?_) |split|dsimp only|trivial
theorem Fj(x0:Aay)(x1:Aay):aj p (Go.mayBeOne x0 x1):=by
 unfold Go.mayBeOne
 repeat' first| (with_reducible first|exact pure _|exact aM _|exact nO _|exact Fi _|refine bind' ?_ fun _=>?_|refine ite ?_ ?_) |split|dsimp only|trivial
theorem IP(x0:Aa1):aj p (Go.typeStr x0):=by
 unfold Go.typeStr
 repeat' first| (with_reducible first|exact pure _|exact aM _|exact q7 _|exact rZ _|refine bind' ?_ fun _=>?_|refine ite ?_ ?_) |split|dsimp only|trivial
theorem Fl(x0:Aay)(x1:Aay):aj p (Go.sameAddr x0 x1):=by
 unfold Go.sameAddr
 repeat' first| (with_reducible first|exact pure _|exact aM _|exact q7 _|exact choose _|exact Bp _|exact yW _|exact Fj _ _|refine bind' ?_ fun _=>?_|refine ite ?_ ?_) |split|dsimp only|trivial
theorem IQ(x0:Option Aay)(x1:Option Aay):aj p (Go.samePointer x0 x1):=by
 unfold Go.samePointer
 repeat' first| (with_reducible first|exact pure _|exact aM _|exact Fl _ _|refine bind' ?_ fun _=>?_|refine ite ?_ ?_) |split|dsimp only|trivial
theorem IS(x0:Nat)(x1:Aa1)(x2:Value)(x3:Value):aj p (Go.Op.equalIn x0 x1 x2 x3):=by
 induction x0 generalizing x1 x2 x3 with
 |zero=>exact trivial
 |succ n ih=>
 unfold Go.Op.equalIn
 repeat' first| (with_reducible first|exact pure _|exact aM _|exact ih _ _ _|exact q6 _|exact q7 _|exact choose _|exact q8|exact q9 _|exact py _|exact Bi _ _|exact EO _ _ _|exact nO _|exact newObj id|exact setObj _ id|exact gF _|exact EP _|exact tW _ _|exact yO _ _|exact runtimePanic _|exact yP _ _ _ _|exact rZ _|exact qQ _|exact lr _|exact Bj _|exact tX _ _ _ _|exact r8 _ _|exact vW _ _ _|exact sa _ _|exact Bl _ _ _|exact Bm _ _ _|exact vX _|exact qR _|exact asBool _|exact ER _|exact Bn _|exact tY _|exact Bo _|exact yQ _|exact Bp _|exact ES _|exact Bq _|exact Br _|exact ET _ _|exact yR _|exact EU _ _ _|exact EV _ _|exact Ce _ _ _|exact Cf _ _|exact Cl _ _|exact Cn _ _ _|exact Ci _ _ _|exact EW _ _ _|exact Bs _ _ _ _ _ _|exact EX _ _ _ _ _|exact Cm _ _ _ _ _|exact Ck _ _ _|exact Cg _ _ _|exact Cj _ _ _|exact EY _ _ _ _|exact EZ _ _ _ _|exact E0 _ _ _ _|exact E4 _ _ _|exact E5 _ _ _ _ _|exact Bt _ _ _ _|exact E6 _ _ _ _|exact E7 _ _ _|exact tZ _ _ _ _|exact yS _ _|exact yT _ _|exact yU _ _|exact E8 _ _|exact E9 _ _ _ _ _|exact Fa _ _ _|exact Fb _ _ _ _|exact Fc _ _ _ _|exact Fe _ _ _ _ _ _|exact yV _ _ _|exact Bu _ _|exact Ff _ _ _|exact Fg _ _ _|exact Fh _ _ _|exact yW _|exact Fi _|exact Fj _ _|exact IP _|exact Fl _ _|exact IQ _ _|refine bind' ?_ fun _=>?_|refine q1 _ (fun _ _=>?_) _|refine q0 _ (fun _ _=>?_) _|refine q2 _ (fun _ _=>?_) _|refine map _ ?_|refine q4 _ fun _=>?_|refine q3 _ fun _=>?_|refine q5 _ (fun _ _=>?_) _|refine ite ?_ ?_) |split|dsimp only|trivial
theorem IT(x0:Aa1)(x1:Value)(x2:Value):aj p (Go.Op.equal x0 x1 x2):=by
 unfold Go.Op.equal
 repeat' first| (with_reducible first|exact pure _|exact aM _|exact IS _ _ _ _|refine bind' ?_ fun _=>?_|refine ite ?_ ?_) |split|dsimp only|trivial
theorem Pg(x0:Nat)(x1:Aa1)(x2:Value)(x3:Value):aj p (Go.Op.eqGuardIn x0 x1 x2 x3):=by
 induction x0 generalizing x1 x2 x3 with
 |zero=>exact trivial
 |succ n ih=>
 unfold Go.Op.eqGuardIn
 repeat' first| (with_reducible first|exact pure _|exact aM _|exact ih _ _ _|exact q6 _|exact q7 _|exact choose _|exact q8|exact q9 _|exact py _|exact Bi _ _|exact EO _ _ _|exact nO _|exact newObj id|exact setObj _ id|exact gF _|exact EP _|exact tW _ _|exact yO _ _|exact runtimePanic _|exact yP _ _ _ _|exact rZ _|exact qQ _|exact lr _|exact Bj _|exact tX _ _ _ _|exact r8 _ _|exact vW _ _ _|exact sa _ _|exact Bl _ _ _|exact Bm _ _ _|exact vX _|exact qR _|exact asBool _|exact ER _|exact Bn _|exact tY _|exact Bo _|exact yQ _|exact Bp _|exact ES _|exact Bq _|exact Br _|exact ET _ _|exact yR _|exact EU _ _ _|exact EV _ _|exact Ce _ _ _|exact Cf _ _|exact Cl _ _|exact Cn _ _ _|exact Ci _ _ _|exact EW _ _ _|exact Bs _ _ _ _ _ _|exact EX _ _ _ _ _|exact Cm _ _ _ _ _|exact Ck _ _ _|exact Cg _ _ _|exact Cj _ _ _|exact EY _ _ _ _|exact EZ _ _ _ _|exact E0 _ _ _ _|exact E4 _ _ _|exact E5 _ _ _ _ _|exact Bt _ _ _ _|exact E6 _ _ _ _|exact E7 _ _ _|exact tZ _ _ _ _|exact yS _ _|exact yT _ _|exact yU _ _|exact E8 _ _|exact E9 _ _ _ _ _|exact Fa _ _ _|exact Fb _ _ _ _|exact Fc _ _ _ _|exact Fe _ _ _ _ _ _|exact yV _ _ _|exact Bu _ _|exact Ff _ _ _|exact Fg _ _ _|exact Fh _ _ _|exact yW _|exact Fi _|exact Fj _ _|exact IP _|exact Fl _ _|exact IQ _ _|exact IS _ _ _ _|exact IT _ _ _|refine bind' ?_ fun _=>?_|refine q1 _ (fun _ _=>?_) _|refine q0 _ (fun _ _=>?_) _|refine q2 _ (fun _ _=>?_) _|refine map _ ?_|refine q4 _ fun _=>?_|refine q3 _ fun _=>?_|refine q5 _ (fun _ _=>?_) _|refine ite ?_ ?_) |split|dsimp only|trivial
theorem IU(ts:Array Aa1)(t:Aa1)(x y:Value):aj p (Go.Builtin.unsafeAdd_ ts t #[x,y]):=by
 unfold Go.Builtin.unsafeAdd_;cases x<;>try exact trivial
 rename_i q;cases q
 ·refine bind' (s:=Go.asInt y) (aj.qR _) (fun n=>?_)
  dsimp only
  repeat' first| (with_reducible first|exact pure _|exact aM _|exact q6 _|exact q7 _|exact q8|exact nO _|exact qR _|exact yQ _|refine bind' ?_ fun _=>?_|refine ite ?_ ?_) |split|dsimp only|trivial
 ·refine bind' (s:=Go.asInt y) (aj.qR _) (fun n=>?_)
  dsimp only
  repeat' first| (with_reducible first|exact pure _|exact aM _|exact q6 _|exact q7 _|exact q8|exact nO _|exact qR _|exact yQ _|refine bind' ?_ fun _=>?_|refine ite ?_ ?_) |split|dsimp only|trivial
theorem Ph(x0:Aa1)(x1:Value)(x2:Value):aj p (Go.movedNumber x0 x1 x2):=by
 unfold Go.movedNumber
 repeat' first| (with_reducible first|exact pure _|exact aM _|exact q7 _|exact gF _|exact Br _|exact ET _ _|exact IU _ _ _ _|refine bind' ?_ fun _=>?_|refine ite ?_ ?_) |split|dsimp only|trivial
theorem Pj(x0:Aa1)(x1:Value)(x2:Value):aj p (Go.movedPointer x0 x1 x2):=by
 unfold Go.movedPointer
 repeat' first| (with_reducible first|exact pure _|exact aM _|exact q7 _|exact Bq _|exact IU _ _ _ _|refine bind' ?_ fun _=>?_|refine ite ?_ ?_) |split|dsimp only|trivial
theorem eqGuard(x0:Adp)(x1:Aa1)(x2:Operand)(x3:Operand)(x4:Value)(x5:Value):aj p (Go.eqGuard x0 x1 x2 x3 x4 x5):=by
 unfold Go.eqGuard
 repeat' first| (with_reducible first|exact pure _|exact aM _|exact q7 _|exact q8|exact Pg _ _ _ _|refine bind' ?_ fun _=>?_|refine ite ?_ ?_) |split|dsimp only|trivial
theorem binOp(x0:Adp)(x1:Aa1)(x2:Value)(x3:Value):aj p (Go.binOp x0 x1 x2 x3):=by
 unfold Go.binOp
 repeat' first| (with_reducible first|exact pure _|exact aM _|exact q6 _|exact q7 _|exact gF _|exact Br _|exact EY _ _ _ _|exact EZ _ _ _ _|exact E0 _ _ _ _|exact E4 _ _ _|exact E5 _ _ _ _ _|exact Bt _ _ _ _|exact E6 _ _ _ _|exact Fe _ _ _ _ _ _|exact yV _ _ _|exact Ff _ _ _|exact Fg _ _ _|exact Fh _ _ _|exact IT _ _ _|exact Ph _ _ _|exact Pj _ _ _|refine bind' ?_ fun _=>?_|refine ite ?_ ?_) |split|dsimp only|trivial
theorem K5(x0:Value)(x1:Nat):aj p (Go.Instr.extract x0 x1):=by
 unfold Go.Instr.extract
 repeat' first| (with_reducible first|exact pure _|exact aM _|exact q6 _|refine bind' ?_ fun _=>?_|refine ite ?_ ?_) |split|dsimp only|trivial
theorem K6(x0:Fn)(x1:Array Value)(x2:Array Value):aj p (Go.Instr.makeFunc x0 x1 x2):=by
 unfold Go.Instr.makeFunc
 repeat' first| (with_reducible first|exact pure _|exact aM _|refine bind' ?_ fun _=>?_|refine ite ?_ ?_) |split|dsimp only|trivial
theorem K7(x0:Aa1)(x1:Option Value):aj p (Go.Instr.makeMap x0 x1):=by
 unfold Go.Instr.makeMap
 repeat' first| (with_reducible first|exact pure _|exact aM _|exact q6 _|exact newObj id|exact gF _|exact qR _|refine bind' ?_ fun _=>?_|refine ite ?_ ?_) |split|dsimp only|trivial
theorem K8(x0:Aa1)(x1:Value)(x2:Value):aj p (Go.Instr.makeSlice x0 x1 x2):=by
 unfold Go.Instr.makeSlice
 repeat' first| (with_reducible first|exact pure _|exact aM _|exact q6 _|exact choose _|exact gF _|exact tW _ _|exact runtimePanic _|exact rZ _|exact qQ _|exact lr _|exact qR _|exact Bo _|refine bind' ?_ fun _=>?_|refine ite ?_ ?_) |split|dsimp only|trivial
theorem K3(x0:Aa1)(x1:Array (Nat×Value)):aj p (Go.Instr.build x0 x1):=by
 unfold Go.Instr.build
 repeat' first| (with_reducible first|exact pure _|exact aM _|exact q6 _|exact gF _|exact qQ _|exact lr _|refine bind' ?_ fun _=>?_|refine q4 _ fun _=>?_|refine ite ?_ ?_) |split|dsimp only|trivial
theorem K4(x0:Aa1)(x1:Nat)(x2:Array (Nat×Value)):aj p (Go.Instr.buildSlice x0 x1 x2):=by
 unfold Go.Instr.buildSlice
 repeat' first| (with_reducible first|exact pure _|exact aM _|exact q6 _|exact q7 _|exact gF _|exact tW _ _|exact qQ _|exact lr _|refine bind' ?_ fun _=>?_|refine ite ?_ ?_) |split|dsimp only|trivial
theorem IV(x0:Value):aj p (Go.Builtin.lenOf x0):=by
 unfold Go.Builtin.lenOf
 repeat' first| (with_reducible first|exact pure _|exact aM _|exact q6 _|refine bind' ?_ fun _=>?_|refine ite ?_ ?_) |split|dsimp only|trivial
theorem J9(x0:Array Aa1)(x1:Aa1)(x2:Array Value):aj p (Go.Builtin.len_ x0 x1 x2):=by
 unfold Go.Builtin.len_
 repeat' first| (with_reducible first|exact pure _|exact aM _|exact q6 _|exact py _|exact gF _|refine bind' ?_ fun _=>?_|refine ite ?_ ?_) |split|dsimp only|trivial
theorem Pk(x0:Value)(x1:Value):aj p (Go.Builtin.max2 x0 x1):=by
 unfold Go.Builtin.max2
 repeat' first| (with_reducible first|exact pure _|exact aM _|exact q6 _|exact q7 _|exact choose _|exact asBool _|exact yV _ _ _|refine bind' ?_ fun _=>?_|refine ite ?_ ?_) |split|dsimp only|trivial
theorem Pl(x0:Value)(x1:Value):aj p (Go.Builtin.min2 x0 x1):=by
 unfold Go.Builtin.min2
 repeat' first| (with_reducible first|exact pure _|exact aM _|exact q6 _|exact q7 _|exact choose _|exact asBool _|exact yV _ _ _|refine bind' ?_ fun _=>?_|refine ite ?_ ?_) |split|dsimp only|trivial
theorem Ka(x0:Array Aa1)(x1:Aa1)(x2:Array Value):aj p (Go.Builtin.max_ x0 x1 x2):=by
 unfold Go.Builtin.max_
 repeat' first| (with_reducible first|exact pure _|exact aM _|exact q6 _|exact Pk _ _|refine bind' ?_ fun _=>?_|refine q5 _ (fun _ _=>?_) _|refine ite ?_ ?_) |split|dsimp only|trivial
theorem Kb(x0:Array Aa1)(x1:Aa1)(x2:Array Value):aj p (Go.Builtin.min_ x0 x1 x2):=by
 unfold Go.Builtin.min_
 repeat' first| (with_reducible first|exact pure _|exact aM _|exact q6 _|exact Pl _ _|refine bind' ?_ fun _=>?_|refine q5 _ (fun _ _=>?_) _|refine ite ?_ ?_) |split|dsimp only|trivial
theorem IW(x0:Nat)(x1:Nat)(x2:Value):aj p (Go.Builtin.firstCells x0 x1 x2):=by
 unfold Go.Builtin.firstCells
 repeat' first| (with_reducible first|exact pure _|exact aM _|exact q6 _|exact r8 _ _|refine bind' ?_ fun _=>?_|refine ite ?_ ?_) |split|dsimp only|trivial
theorem J8(x0:Array Aa1)(x1:Aa1)(x2:Array Value):aj p (Go.Builtin.copy_ x0 x1 x2):=by
 unfold Go.Builtin.copy_
 repeat' first| (with_reducible first|exact pure _|exact aM _|exact q6 _|exact gF _|exact lr _|exact vW _ _ _|exact IV _|exact IW _ _ _|refine bind' ?_ fun _=>?_|refine ite ?_ ?_) |split|dsimp only|trivial
theorem J7(x0:Array Aa1)(x1:Aa1)(x2:Array Value):aj p (Go.Builtin.clear_ x0 x1 x2):=by
 unfold Go.Builtin.clear_
 repeat' first| (with_reducible first|exact pure _|exact aM _|exact q6 _|exact py _|exact setObj _ id|exact gF _|exact qQ _|exact vW _ _ _|refine bind' ?_ fun _=>?_|refine ite ?_ ?_) |split|dsimp only|trivial
theorem Pn(x0:Aay)(x1:Nat):aj p (Go.Builtin.holdsCells x0 x1):=by
 unfold Go.Builtin.holdsCells
 repeat' first| (with_reducible first|exact pure _|exact aM _|exact nO _|refine bind' ?_ fun _=>?_|refine ite ?_ ?_) |split|dsimp only|trivial
theorem Po(x0:Nat)(x1:Nat)(x2:Nat)(x3:Option Aay)(x4:Value):aj p (Go.Builtin.mayShare x0 x1 x2 x3 x4):=by
 unfold Go.Builtin.mayShare
 repeat' first| (with_reducible first|exact pure _|exact aM _|exact yW _|exact Pn _ _|refine bind' ?_ fun _=>?_|refine ite ?_ ?_) |split|dsimp only|trivial
theorem J6(x0:Array Aa1)(x1:Aa1)(x2:Array Value):aj p (Go.Builtin.append_ x0 x1 x2):=by
 unfold Go.Builtin.append_
 repeat' first| (with_reducible first|exact pure _|exact aM _|exact q6 _|exact q7 _|exact choose _|exact q9 _|exact gF _|exact tW _ _|exact runtimePanic _|exact rZ _|exact qQ _|exact lr _|exact vW _ _ _|exact qR _|exact Bo _|exact IV _|exact IW _ _ _|exact Po _ _ _ _ _|refine bind' ?_ fun _=>?_|refine ite ?_ ?_) |split|dsimp only|trivial
theorem Ki(x0:Adq)(x1:Nat)(x2:Aa0):aj p (Go.Conv.floatToInt x0 x1 x2):=by
 unfold Go.Conv.floatToInt
 repeat' first| (with_reducible first|exact pure _|exact aM _|exact choose _|refine bind' ?_ fun _=>?_|refine ite ?_ ?_) |split|dsimp only|trivial
theorem Kj(x0:Aa0)(x1:Int):aj p (Go.Conv.intToInt x0 x1):=by
 unfold Go.Conv.intToInt
 repeat' first| (with_reducible first|exact pure _|exact aM _|refine bind' ?_ fun _=>?_|refine ite ?_ ?_) |split|dsimp only|trivial
theorem Kk(x0:Aa1)(x1:ByteArray):aj p (Go.Conv.stringToBytes x0 x1):=by
 unfold Go.Conv.stringToBytes
 repeat' first| (with_reducible first|exact pure _|exact aM _|exact choose _|exact tW _ _|exact ES _|refine bind' ?_ fun _=>?_|refine ite ?_ ?_) |split|dsimp only|trivial
theorem Pp(x0:Bool)(x1:Nat)(x2:Aa1)(x3:Value):aj p (Go.Instr.checkKey x0 x1 x2 x3):=by
 induction x1 generalizing x2 x3 with
 |zero=>exact trivial
 |succ n ih=>
 unfold Go.Instr.checkKey
 repeat' first| (with_reducible first|exact pure _|exact aM _|exact ih _ _|exact q6 _|exact q7 _|exact choose _|exact q8|exact q9 _|exact py _|exact Bi _ _|exact EO _ _ _|exact nO _|exact newObj id|exact setObj _ id|exact gF _|exact EP _|exact tW _ _|exact yO _ _|exact runtimePanic _|exact yP _ _ _ _|exact rZ _|exact qQ _|exact lr _|exact Bj _|exact tX _ _ _ _|exact r8 _ _|exact vW _ _ _|exact sa _ _|exact Bl _ _ _|exact Bm _ _ _|exact vX _|exact qR _|exact asBool _|exact ER _|exact Bn _|exact tY _|exact Bo _|exact yQ _|exact Bp _|exact ES _|exact Bq _|exact Br _|exact ET _ _|exact yR _|exact EU _ _ _|exact EV _ _|exact Ce _ _ _|exact Cf _ _|exact Cl _ _|exact Cn _ _ _|exact Ci _ _ _|exact EW _ _ _|exact Bs _ _ _ _ _ _|exact EX _ _ _ _ _|exact Cm _ _ _ _ _|exact Ck _ _ _|exact Cg _ _ _|exact Cj _ _ _|exact EY _ _ _ _|exact EZ _ _ _ _|exact E0 _ _ _ _|exact E4 _ _ _|exact E5 _ _ _ _ _|exact Bt _ _ _ _|exact E6 _ _ _ _|exact E7 _ _ _|exact tZ _ _ _ _|exact yS _ _|exact yT _ _|exact yU _ _|exact E8 _ _|exact E9 _ _ _ _ _|exact Fa _ _ _|exact Fb _ _ _ _|exact Fc _ _ _ _|exact Fe _ _ _ _ _ _|exact yV _ _ _|exact Bu _ _|exact Ff _ _ _|exact Fg _ _ _|exact Fh _ _ _|exact yW _|exact Fi _|exact Fj _ _|exact IP _|exact Fl _ _|exact IQ _ _|exact IS _ _ _ _|exact IT _ _ _|exact Pg _ _ _ _|exact IU _ _ _ _|exact Ph _ _ _|exact Pj _ _ _|exact eqGuard _ _ _ _ _ _|exact binOp _ _ _ _|exact K5 _ _|exact K6 _ _ _|exact K7 _ _|exact K8 _ _ _|exact K3 _ _|exact K4 _ _ _|exact IV _|exact J9 _ _ _|exact Pk _ _|exact Pl _ _|exact Ka _ _ _|exact Kb _ _ _|exact IW _ _ _|exact J8 _ _ _|exact J7 _ _ _|exact Pn _ _|exact Po _ _ _ _ _|exact J6 _ _ _|exact Ki _ _ _|exact Kj _ _|exact Kk _ _|refine bind' ?_ fun _=>?_|refine q1 _ (fun _ _=>?_) _|refine q0 _ (fun _ _=>?_) _|refine q2 _ (fun _ _=>?_) _|refine map _ ?_|refine q4 _ fun _=>?_|refine q3 _ fun _=>?_|refine q5 _ (fun _ _=>?_) _|refine ite ?_ ?_) |split|dsimp only|trivial
theorem q89(x0:Aa1)(x1:Value)(x2:List MapEntry)(x3:Nat):aj p (Go.Instr.findAsking x0 x1 x2 x3):=by
 induction x2 generalizing x3 with
 |nil=>exact trivial
 |cons a l ih=>
 unfold Go.Instr.findAsking
 repeat' first| (with_reducible first|exact pure _|exact aM _|exact ih _|exact q6 _|exact q7 _|exact choose _|exact q8|exact q9 _|exact py _|exact Bi _ _|exact EO _ _ _|exact nO _|exact newObj id|exact setObj _ id|exact gF _|exact EP _|exact tW _ _|exact yO _ _|exact runtimePanic _|exact yP _ _ _ _|exact rZ _|exact qQ _|exact lr _|exact Bj _|exact tX _ _ _ _|exact r8 _ _|exact vW _ _ _|exact sa _ _|exact Bl _ _ _|exact Bm _ _ _|exact vX _|exact qR _|exact asBool _|exact ER _|exact Bn _|exact tY _|exact Bo _|exact yQ _|exact Bp _|exact ES _|exact Bq _|exact Br _|exact ET _ _|exact yR _|exact EU _ _ _|exact EV _ _|exact Ce _ _ _|exact Cf _ _|exact Cl _ _|exact Cn _ _ _|exact Ci _ _ _|exact EW _ _ _|exact Bs _ _ _ _ _ _|exact EX _ _ _ _ _|exact Cm _ _ _ _ _|exact Ck _ _ _|exact Cg _ _ _|exact Cj _ _ _|exact EY _ _ _ _|exact EZ _ _ _ _|exact E0 _ _ _ _|exact E4 _ _ _|exact E5 _ _ _ _ _|exact Bt _ _ _ _|exact E6 _ _ _ _|exact E7 _ _ _|exact tZ _ _ _ _|exact yS _ _|exact yT _ _|exact yU _ _|exact E8 _ _|exact E9 _ _ _ _ _|exact Fa _ _ _|exact Fb _ _ _ _|exact Fc _ _ _ _|exact Fe _ _ _ _ _ _|exact yV _ _ _|exact Bu _ _|exact Ff _ _ _|exact Fg _ _ _|exact Fh _ _ _|exact yW _|exact Fi _|exact Fj _ _|exact IP _|exact Fl _ _|exact IQ _ _|exact IS _ _ _ _|exact IT _ _ _|exact Pg _ _ _ _|exact IU _ _ _ _|exact Ph _ _ _|exact Pj _ _ _|exact eqGuard _ _ _ _ _ _|exact binOp _ _ _ _|exact K5 _ _|exact K6 _ _ _|exact K7 _ _|exact K8 _ _ _|exact K3 _ _|exact K4 _ _ _|exact IV _|exact J9 _ _ _|exact Pk _ _|exact Pl _ _|exact Ka _ _ _|exact Kb _ _ _|exact IW _ _ _|exact J8 _ _ _|exact J7 _ _ _|exact Pn _ _|exact Po _ _ _ _ _|exact J6 _ _ _|exact Ki _ _ _|exact Kj _ _|exact Kk _ _|exact Pp _ _ _ _|refine bind' ?_ fun _=>?_|refine q1 _ (fun _ _=>?_) _|refine q0 _ (fun _ _=>?_) _|refine q2 _ (fun _ _=>?_) _|refine map _ ?_|refine q4 _ fun _=>?_|refine q3 _ fun _=>?_|refine q5 _ (fun _ _=>?_) _|refine ite ?_ ?_) |split|dsimp only|trivial
theorem WC(x0:Aa1)(x1:Value)(x2:List MapEntry):aj p (Go.Instr.findKey x0 x1 x2):=by
 unfold Go.Instr.findKey
 repeat' first| (with_reducible first|exact pure _|exact aM _|exact gF _|exact q89 _ _ _ _|refine bind' ?_ fun _=>?_|refine ite ?_ ?_) |split|dsimp only|trivial
theorem Y6(x0:Aa1)(x1:Value)(x2:Value)(x3:Bool):aj p (Go.Instr.lookup x0 x1 x2 x3):=by
 unfold Go.Instr.lookup
 repeat' first| (with_reducible first|exact pure _|exact aM _|exact q6 _|exact py _|exact gF _|exact qQ _|exact Pp _ _ _ _|exact WC _ _ _|refine bind' ?_ fun _=>?_|refine ite ?_ ?_) |split|dsimp only|trivial
theorem q91(x0:Value)(x1:Value):aj p (Go.Instr.keyThatStays x0 x1):=by
 unfold Go.Instr.keyThatStays
 repeat' first| (with_reducible first|exact pure _|exact aM _|exact choose _|refine bind' ?_ fun _=>?_|refine ite ?_ ?_) |split|dsimp only|trivial
theorem Y7(x0:Aa1)(x1:Value)(x2:Value)(x3:Value):aj p (Go.Instr.mapUpdate x0 x1 x2 x3):=by
 unfold Go.Instr.mapUpdate
 repeat' first| (with_reducible first|exact pure _|exact aM _|exact q6 _|exact py _|exact setObj _ id|exact gF _|exact runtimePanic _|exact Pp _ _ _ _|exact WC _ _ _|exact q91 _ _|refine bind' ?_ fun _=>?_|refine ite ?_ ?_) |split|dsimp only|trivial
theorem Fo(x0:Nat):aj p (Go.Instr.getLoop x0):=by
 unfold Go.Instr.getLoop
 repeat' first| (with_reducible first|exact pure _|exact aM _|exact q6 _|exact py _|refine bind' ?_ fun _=>?_|refine ite ?_ ?_) |split|dsimp only|trivial
theorem Y5(x0:FuncId)(x1:Array Value)(x2:Array Tmp)(x3:Code)(x4:Code)(x5:Option Nat):aj p (Go.Instr.enterLoop x0 x1 x2 x3 x4 x5):=by
 unfold Go.Instr.enterLoop
 repeat' first| (with_reducible first|exact pure _|exact aM _|exact newObj id|exact Fo _|refine bind' ?_ fun _=>?_|refine ite ?_ ?_) |split|dsimp only|trivial
theorem Y9(x0:Nat)(x1:Array Value):aj p (Go.Instr.yield x0 x1):=by
 unfold Go.Instr.yield
 repeat' first| (with_reducible first|exact pure _|exact aM _|exact q6 _|exact Fo _|refine bind' ?_ fun _=>?_|refine ite ?_ ?_) |split|dsimp only|trivial
theorem Y2(x0:Nat):aj p (Go.Instr.beginRound x0):=by
 unfold Go.Instr.beginRound
 repeat' first| (with_reducible first|exact pure _|exact aM _|exact setObj _ id|exact runtimePanic _|exact Fo _|refine bind' ?_ fun _=>?_|refine ite ?_ ?_) |split|dsimp only|trivial
theorem Y4(x0:Nat)(x1:Option Code):aj p (Go.Instr.endRound x0 x1):=by
 unfold Go.Instr.endRound
 repeat' first| (with_reducible first|exact pure _|exact aM _|exact setObj _ id|exact Fo _|refine bind' ?_ fun _=>?_|refine ite ?_ ?_) |split|dsimp only|trivial
theorem Y3(x0:Nat):aj p (Go.Instr.endLoop x0):=by
 unfold Go.Instr.endLoop
 repeat' first| (with_reducible first|exact pure _|exact aM _|exact setObj _ id|exact runtimePanic _|exact Fo _|refine bind' ?_ fun _=>?_|refine ite ?_ ?_) |split|dsimp only|trivial
theorem Y8(x0:Nat):aj p (Go.Instr.takeDeferred x0):=by
 unfold Go.Instr.takeDeferred
 repeat' first| (with_reducible first|exact pure _|exact aM _|exact q6 _|exact py _|exact setObj _ id|refine bind' ?_ fun _=>?_|refine ite ?_ ?_) |split|dsimp only|trivial
theorem results(x0:Func)(x1:Array Value):aj p (Go.results x0 x1):=by
 unfold Go.results
 repeat' first| (with_reducible first|exact pure _|exact aM _|exact sa _ _|exact Bn _|refine bind' ?_ fun _=>?_|refine q4 _ fun _=>?_|refine ite ?_ ?_) |split|dsimp only|trivial
end aj
end Go.Sim
namespace Go.Sim
open Go
theorem Wh(w:Aa4)(a:Aay)(s:String):wR (w.noCell a s):=by
 unfold World.noCell;split<;>trivial
theorem acz{p:Aa6}{w:Aa4}{a:Aay}{b:Bool}{h:Halt}(e:w.farLoad p a b=.error h):wR h:=by
 unfold World.farLoad at e;split at e
 ·split at e
  ·cases e
  ·cases e;trivial
 ·cases e;exact Wh _ _ _
theorem acB{p:Aa6}{w:Aa4}{a:Aay}{v:Value}{b:Bool}{h:Halt}(e:w.farStore p a v b=.error h):wR h:=by
 unfold World.farStore at e;split at e
 ·split at e
  ·cases e
  ·cases e;trivial
 ·cases e;exact Wh _ _ _
theorem aku{p:Aa6}{α:Type}{s:Sem α}(hs:aj p s):∀(w:Aa4) (h:Halt) (w':Aa4),s.run p w=.halt h w'->wR h:=by
 induction s with
 |pure a=>intro w h w' e;cases e
 |load m a k ih=>
  intro w h w' e;simp only[Acx] at e;split at e
  ·exact ih _ (hs _) _ _ _ e
  ·split at e
   ·exact ih _ (hs _) _ _ _ e
   ·rename_i hf
    cases e;exact acz hf
 |store m a v k ih=>
  intro w h w' e;cases v<;>simp only[Acx] at e<;>first
   | (cases e;trivial)
   | (split at e
      ·split at e
       ·cases e;trivial
       ·exact ih hs _ _ _ e
      ·split at e
       ·exact ih hs _ _ _ e
       ·rename_i hf
        cases e;exact acB hf)
 |new o k ih=>intro w h w' e;exact ih _ (hs.2 _) _ _ _ e
 |shape r k ih=>intro w h w' e;exact ih _ (hs _) _ _ _ e
 |freeze a n k ih=>intro w h w' e;exact ih hs _ _ _ e
 |frozen a k ih=>intro w h w' e;exact ih _ (hs _) _ _ _ e
 |getObj r k ih=>
  intro w h w' e;simp only[Acx] at e;split at e
  ·cases e;trivial
  ·exact ih _ (hs _) _ _ _ e
  ·cases e;trivial
 |setObj r o k ih=>
  intro w h w' e;simp only[Acx] at e;split at e
  ·cases e;trivial
  ·exact ih hs.2 _ _ _ e
  ·cases e;trivial
 |choose q k ih=>
  intro w h w' e;simp only[Acx] at e;split at e
  ·exact ih _ (hs _) _ _ _ e
  ·exact ih _ (hs _) _ _ _ e
 |sys c k ih=>exact hs.elim
 |program k ih=>intro w h w' e;exact ih _ hs _ _ _ e
 |mark m k ih=>intro w h w' e;exact ih hs _ _ _ e
 |halt h=>intro w h' w' e;cases e;exact hs
def tk:Adl->Aa4
 | .go _ w _=>w
 | .ended _ w _=>w
 |_=>default
def adj(T:Tape):Adl->Adl
 | .go g w es=>.go g (aZ w T) es
 | .ended o w es=>.ended o (aZ w T) es
 |s=>s
inductive DL:Bool->List Aa3->Prop
 |nil:DL false []
 |stop:DL true [cQ]
 |cons {b:Bool} (r:Nat) {ds:List Aa3} (h:DL b ds):DL b (⟨.collected r,#[]⟩::ds)
inductive oP:List Abd->Prop
 |base {fr:Abd} (h:DL true fr.defers):oP [fr]
 |call {fr:Abd} {cs:List Abd} (h:DL false fr.defers) (t:oP cs):oP (fr::cs)
inductive qY:Adl->Prop
 |plain {g:Abe} {w:Aa4} {es:Array Aa5} (h:Plain g) (hn:bJ w.heap):qY (.go g w es)
 |ended {o:Outcome} {w:Aa4} {es:Array Aa5}:qY (.ended o w es)
 |rA {fr:Abd} {cs:List Abd} {w:Aa4} {es:Array Aa5} {ch:List Adr} (hm:fr.mode=.panicking ch) (hd:oP (fr::cs)) (hn:bJ w.heap):qY (.go (aO fr cs) w es)
structure Good(f:Aa4->Adl)(w:Aa4):Prop where
 cls:qY (f w)
 drawn:w.drawn<=(tk (f w)).drawn
 tape:(tk (f w)).tape=w.tape
 loc:∀T:Tape,(∀j q,w.drawn<=j->j<(tk (f w)).drawn->T j q=w.tape j q)->(f (aZ w T)).bare=adj T (f w).bare
theorem Sw{s:Adl}:qY s.bare↔qY s:=by
 cases s with
 |go g w es=>
  refine⟨fun h=>?_,fun h=>?_⟩
  ·have:∀s,qY s->s=.go g w #[]->qY (.go g w es):=by
    intro s hs e;cases hs with
    |plain h hn=>cases e;exact .plain h hn
    |ended=>cases e
    |rA hm hd hn=>cases e;exact .rA hm hd hn
   exact this _ h rfl
  ·have:∀s,qY s->s=.go g w es->qY (.go g w #[]):=by
    intro s hs e;cases hs with
    |plain h hn=>cases e;exact .plain h hn
    |ended=>cases e
    |rA hm hd hn=>cases e;exact .rA hm hd hn
   exact this _ h rfl
 |ended o w es=>exact⟨fun _=>.ended,fun _=>.ended⟩
 |_=>exact⟨fun h=>(by cases h),fun h=>(by cases h)⟩
theorem TH(s:Adl):tk s.bare=tk s:=by cases s<;>rfl
theorem Good.congr{f g:Aa4->Adl}{w:Aa4}(h:∀w,(f w).bare=(g w).bare)(x:Good g w):Good f w:=by
 have e:tk (f w)=tk (g w):=by rw[<-TH,h,TH]
 refine⟨Sw.1 (by rw[h];exact Sw.2 x.cls),by rw[e];exact x.drawn,by rw[e];exact x.tape,fun T hT=>?_⟩
 rw[e] at hT;rw[h,h];exact x.loc T hT
theorem Good.pure{g:Abe}{w:Aa4}{es:Array Aa5}(h:Plain g)(hn:bJ w.heap):Good (fun w=>.go g w es) w:=⟨.plain h hn,Ac2 _,rfl,fun _ _=>rfl⟩
theorem Good.ended{o:Outcome}{w:Aa4}{es:Array Aa5}:Good (fun w=>.ended o w es) w:=⟨.ended,Ac2 _,rfl,fun _ _=>rfl⟩
theorem Good.rA{fr:Abd}{cs:List Abd}{w:Aa4}{es:Array Aa5}{ch:List Adr}(hm:fr.mode=.panicking ch)(hd:oP (fr::cs))(hn:bJ w.heap):Good (fun w=>.go (aO fr cs) w es) w:=
 ⟨.rA hm hd hn,Ac2 _,rfl,fun _ _=>rfl⟩
theorem Good.ue{p:Aa6}{α:Type}{s:Sem α}(hs:aj p s){k:Ado α->Adl}{w:Aa4}(hn:bJ w.heap)
 (dh:∀a aq,s.run p w=.ok a aq->bJ aq.heap->Good (fun w=>k (.ok a w)) aq)
 (hh:∀h aq,s.run p w=.halt h aq->wR h->bJ aq.heap->Good (fun w=>k (.halt h w)) aq):Good (fun w=>k (s.run p w)) w:=by
 have hd:=WM hs w;have gy:=akv hs w hn;cases e:s.run p w with
 |ok a aq=>
  rw[e] at hd gy;simp only[BO] at hd gy;have g:=dh a aq e gy;refine⟨by simp only[e];exact g.cls,by simp only[e];exact Ac3 hd.1 g.drawn,by simp only[e];exact g.tape.trans hd.2,fun T hT=>?_⟩
  simp only[e] at hT |-
  have l:=WR hs w T (fun j q h1 h2=>hT j q h1 (by rw[e] at h2;exact Aeh h2 g.drawn))
  rw[l,e];exact g.loc T fun j q h1 h2=>(hT j q (Ac3 hd.1 h1) h2).trans (by rw[hd.2])
 |halt h aq=>
  have ho:=aku hs w h aq e;rw[e] at hd gy;simp only[BO] at hd gy;have g:=hh h aq e ho gy;refine⟨by simp only[e];exact g.cls,by simp only[e];exact Ac3 hd.1 g.drawn,by simp only[e];exact g.tape.trans hd.2,fun T hT=>?_⟩
  simp only[e] at hT |-
  have l:=WR hs w T (fun j q h1 h2=>hT j q h1 (by rw[e] at h2;exact Aeh h2 g.drawn))
  rw[l,e];exact g.loc T fun j q h1 h2=>(hT j q (Ac3 hd.1 h1) h2).trans (by rw[hd.2])
theorem abh{p:Aa6}{fr:Abd}{cs:List Abd}{w:Aa4}{ch:List Adr}(hm:fr.mode=.panicking ch)(hd:oP (fr::cs))(hn:bJ w.heap):
 (∃o aa,step p (Ads fr cs w)=.ended o aa)\/∃jR lM aa xd,step p (Ads fr cs w)=.next (Ads jR lM aa)/\jR.mode=.panicking xd/\oP (jR::lM)/\bJ aa.heap:=by
 have D8:Adn p true (aO fr cs) w=Adt p true fr cs none w:=by
  unfold Adn;simp only[hm]
 have hDL:∃b,DL b fr.defers/\(b=true->cs=[])/\(b=false->oP cs):=by
  cases hd with
  |base h=>exact⟨true,h,fun _=>rfl,fun h=>(by cases h)⟩
  |call h t=>exact⟨false,h,fun h=>(by cases h),fun _=>t⟩
 obtain⟨b,hl,h1,h2⟩:=hDL;generalize Ao:fr.defers=df at hl;cases hl with
 |nil=>
  have ht:=h2 rfl;have key:∀(c:Abd) (rest:List Abd),cs=c::rest->(∃o,Adt p true fr cs none w=.ended o w)\/Adt p true fr cs none w=.go {frame:=c.raise ch,callers:=rest,status:=.running,dying:=none} w:=by
   intro c rest fg;subst fg;unfold Adt;simp only[Ao,hm];by_cases hc:fr.catches p=true
   ·rw[if_pos hc];exact .inl ⟨_,rfl⟩
   ·rw[if_neg hc];exact .inr rfl
  have rz:∀c:Abd,(∃xd,(c.raise ch).mode=.panicking xd)/\(c.raise ch).defers=c.defers:=by
   intro c;unfold Frame.raise;split<;>exact⟨⟨_,rfl⟩,rfl⟩
  obtain⟨c,rest,fg⟩:∃c rest,cs=c::rest:=by
   cases ht with
   |base h=>exact⟨_,_,rfl⟩
   |call h t=>exact⟨_,_,rfl⟩
  obtain⟨⟨xd,xK⟩,Ug⟩:=rz c;rcases key c rest fg with⟨o,e⟩ |e
  ·left
   refine⟨o,w,Adu ?_⟩
   rw[show Adn p true {frame:=fr,callers:=cs,status:=.running,dying:=none} w=_ from D8,e]
   rfl
  ·right
   refine⟨c.raise ch,rest,w,xd,Adv ?_,xK,?_,hn⟩
   ·rw[show Adn p true {frame:=fr,callers:=cs,status:=.running,dying:=none} w=_ from D8,e]
    rfl
   ·subst fg
    cases ht with
    |base h=>exact .base (Ug▸h)
    |call h t=>exact .call (Ug▸h) t
 |stop=>
  left;have e:Adt p true fr cs none w=Adw p {fr with defers:=[]} cs none cQ w:=by
   unfold Adt;simp only[Ao,cQ]
  have e2:∃o,(Adw p {fr with defers:=[]} cs none cQ w).bare=.ended o w:=by
   unfold Adw cQ;simp[Go.invoke,Go.stuck,Acy,bind,Sem.bind]
  obtain⟨o,e2⟩:=e2;refine⟨o,w,Adu ?_⟩
  rw[show Adn p true {frame:=fr,callers:=cs,status:=.running,dying:=none} w=_ from D8,e]
  exact e2
 | @cons _ r ds h=>
   have e:(Adt p true fr cs none w).bare=(match(Acj r).run p w with
    | .ok calls w=>(.go {frame:={fr with defers:=calls++ds},callers:=cs,status:=.running,dying:=none} w:Adl)
    | .halt _ w=>.ended (.stuck "the deferred calls of a range-over-func loop have been taken" (fr.pos p)) w).bare:=by
    unfold Adt;simp only[Ao,Ad6,Sem.runT_fst];cases(Acj r).run p w<;>rfl
   have bz:(Acj r).run p w=.ok [] {w with heap:=w.heap.setIfInBounds r (.deferred none)}\/∃h aq,(Acj r).run p w=.halt h aq:=by
    unfold Acj;simp only[Go.getObj,bind,Sem.bind,Acx];cases ho:w.heap[r]? with
    |none=>right;exact⟨_,_,rfl⟩
    |some o=>
     cases o;case deferred calls=>
      cases calls with
      |none=>right;simp[Go.stuck,Acx]
      |some l=>
       cases l with
       |nil=>left;simp[Go.setObj,Sem.bind,Acx,ho,pure]
       |cons x l=>exact absurd (show pH (.deferred (some (x::l))) from trivial) (hn.get ho)
     all_goals (right;simp[Go.stuck,Acx])
   rcases bz with hr| ⟨h',aq,hr⟩
   ·right
    rw[hr] at e;refine⟨{fr with defers:=ds},cs,_,ch,Adv (w':={w with heap:=w.heap.setIfInBounds r (.deferred none)}) ?_,hm,?_,hn.set r (fun h=>h)⟩
    ·rw[show Adn p true {frame:=fr,callers:=cs,status:=.running,dying:=none} w=_ from D8,e]
     rfl
    ·cases b with
     |true=>rw[h1 rfl];exact .base h
     |false=>exact .call h (h2 rfl)
   ·left
    rw[hr] at e;refine⟨_,_,Adu (o:=.stuck "the deferred calls of a range-over-func loop have been taken" (fr.pos p)) (w':=aq) ?_⟩
    rw[show Adn p true {frame:=fr,callers:=cs,status:=.running,dying:=none} w=_ from D8,e]
    rfl
theorem abg{p:Aa6}:∀(n:Nat) {fr:Abd} {cs:List Abd} {w:Aa4} {ch:List Adr},fr.mode=.panicking ch->oP (fr::cs)->bJ w.heap->
 ∀ {jR:Abd} {lM:List Abd} {aa:Aa4},runN p n (Ads fr cs w)=.next (Ads jR lM aa)->∃xd,jR.mode=.panicking xd:=by
 intro n;induction n with
 |zero=>
  intro fr cs w ch hm hd hn jR lM aa e;simp only[runN,Ads,Stepped.next.injEq,Machine.mk.injEq] at e;obtain⟨_,e,_⟩:=e;simp only[Array.mk.injEq,List.cons.injEq,Goroutine.mk.injEq] at e;exact⟨ch,e.1.1▸hm⟩
 |succ n ih=>
  intro fr cs w ch hm hd hn jR lM aa e;simp only[runN] at e;rcases abh (p:=p) hm hd hn with⟨o,aa,h⟩ | ⟨anT,anL,aq,anI,h,qv,fJ,dM⟩
  ·rw[h] at e;cases e
  ·rw[h] at e
   exact ih qv fJ dM e
end Go.Sim
namespace Go.Sim
open Go
section
variable {P:Aa6}{F:Array Func}{C:bQ}{G:Nat->Bool}{ρ:Ren}
theorem aj.val{p:Aa6}{s:Sem Value}(h:aj p s):aj p (do Pure.pure (Next.value (<-s))):=aj.bind' h fun _=>trivial
theorem aj.unit{p:Aa6}{s:Sem Unit}(h:aj p s):aj p (do s;Pure.pure Next.skip):=aj.bind' h fun _=>trivial
theorem aj.FL{p:Aa6}{α:Type}{t:Aa1}{d:TypeDesc}(h:p.underlying t=some d){f:TypeDesc->Sem α}(hf:aj p (f d)):aj p (Go.underlying t>>=f):=by
 show aj p ((match p.underlying t with
  |some d=>(Pure.pure d:Sem TypeDesc)
  |none=>Go.stuck _)>>=f)
 rw[h];exact hf
theorem aj.convert{s d:Aa1}(h:QR P s d)(x:Value):aj (tw P F) (Go.convert s d x):=by
 cases h with
 |ints j k h1 h2=>
  unfold Go.convert;refine aj.FL (d:=.int j) (by rw[jH];exact h1) (aj.FL (d:=.int k) (by rw[jH];exact h2) ?_)
  cases x;case int=>exact aj.Kj _ _
  case float=>exact aj.Ki _ _ _
  case pointer q=>cases q<;>exact trivial
  all_goals exact trivial
 |bytes e h1 h2 h3=>
  unfold Go.convert;refine aj.FL (d:=.string) (by rw[jH];exact h1) (aj.FL (d:=.slice e) (by rw[jH];exact h2) ?_)
  cases x;case string=>exact aj.FL (d:=.int .u8) (by rw[jH];exact h3) (aj.Kk _ _)
  case slice q n c=>cases q<;>exact trivial
  all_goals exact trivial
theorem aj.callFunc(E:Env P F C G)(f:FuncId)(x:Array Value):aj (tw P F) (Go.callFunc f x):=by
 have SY:∀fn c,F[f]?=some fn->fn.body=some c->(fn.name== "runtime.NumGoroutine")=false->aj (tw P F) (Go.callFunc f x):=by
  intro fn c h1 h3 h5;have e1:(tw P F).funcs[f]?=some fn:=h1;unfold Go.callFunc;show aj (tw P F) (match(tw P F).funcs[f]? with
   |none=>Go.stuck _
   |some fn=>_)
  simp only[e1,h5,h3,Option.isNone_some,Aaw,if_false];trivial
 by_cases hf:C.ok f=true
 ·obtain⟨fn,c,h1,h2,h3,h4,h5⟩:=E.get f hf
  exact SY fn c h1 h3 h5
 ·by_cases hh:C.hole f=true
  ·obtain⟨fn,fn',c,c',h1,h2,h3,h4,h5,h6⟩:=E.DT f hh
   exact SY fn c h1 h3 h5
  ·rcases E.dead f (by simpa using hf) (by simpa using hh) with e| ⟨fn,e,D⟩
   ·have e1:(tw P F).funcs[f]?=none:=e
    unfold Go.callFunc;show aj (tw P F) (match(tw P F).funcs[f]? with
     |none=>Go.stuck _
     |some fn=>_)
    simp only[e1];trivial
   ·have e1:(tw P F).funcs[f]?=some fn:=e
    unfold Go.callFunc;show aj (tw P F) (match(tw P F).funcs[f]? with
     |none=>Go.stuck _
     |some fn=>_)
    simp only[e1,D.name,D.body,D.next,D.row,D.init,Option.isNone_none,Aaw,if_false,if_true,Bool.false_and];trivial
theorem aj.AT(E:Env P F C G){v v':Value}(hv:ah ρ v v')(x:Array Value):aj (tw P F) (do let d <-Deferred.ofValue v x;Go.invoke d.target d.args):=by
 cases hv;case func fn fn' a a' b b' h ha h1 hb h2=>
  cases h with
  |func f=>exact aj.callFunc E f _
  |yield hl=>exact aj.Y9 _ _
 case nilFunc=>
  show aj (tw P F) (Go.runtimePanic .nilDeref:Sem Next);exact aj.runtimePanic _
 case fjunk=>
  have e:(do let d <-Deferred.ofValue (.func (.method "") #[.nilIface] #[]) x;Go.invoke d.target d.args:Sem Next)=Go.runtimePanic .nilDeref:=by
   show Go.invoke (.fn (.method "") #[]) (#[.nilIface]++x)=_;have h0:(#[Value.nilIface]++x)[0]?=some .nilIface:=by rw[Array.getElem?_append_left (by simp)];rfl
   unfold Go.invoke;simp only[h0,Go.callMethod]
  rw[e];exact aj.runtimePanic _
 all_goals exact trivial
theorem aj.builtin{p:Aa6}{Q:Aa6}(b:Builtin)(ts:Array Aa1)(t:Aa1)(cs:Array Bool)(x:Array Value)(n:Nat)(hb:uL Q ts n b=true):aj p (Go.builtin b ts t cs x):=by
 cases b<;>try(simp[uL] at hb;done)
 case append=>exact aj.val (aj.J6 _ _ _)
 case clear=>exact aj.val (aj.J7 _ _ _)
 case copy=>exact aj.val (aj.J8 _ _ _)
 case len=>exact aj.val (aj.J9 _ _ _)
 case max=>exact aj.val (aj.Ka _ _ _)
 case min=>exact aj.val (aj.Kb _ _ _)
variable {e e':Operand->Value}
theorem aj.execOp(E:Env P F C G)(o:Oper)(ho:j7 P G o=true)(h:pL G ρ e e'):aj (tw P F) (Go.execOp e o):=by
 unfold j7 at ho;rw[Aax] at ho;obtain⟨eA,ab⟩:=ho;have mem:∀x,x∈o.op.operands->ah ρ (e x) (e' x):=fun x hx=>h x (Gm eA hx)
 unfold Go.execOp;generalize o.op=op at *;cases op<;>try(simp[iO] at ab;done)
 case move x=>exact trivial
 case assign x=>exact trivial
 case pick c a b=>exact aj.bind' (aj.asBool _) fun _=>trivial
 case alloc t=>exact aj.val (aj.Ce _ _ _)
 case box t x=>exact aj.val (aj.Cf _ _)
 case build t ps=>exact aj.val (aj.K3 _ _)
 case buildSlice t n ps=>exact aj.val (aj.K4 _ _ _)
 case load t a=>exact aj.val (aj.Cl _ _)
 case store t a x=>exact aj.unit (aj.Cn _ _ _)
 case binOp bop t x y yt=>exact aj.val (aj.bind' (aj.eqGuard _ _ _ _ _ _) fun _=>aj.binOp _ _ _ _)
 case unOp u t x=>
  cases u<;>try(simp[iO] at ab;done)
  refine aj.val ?_
  unfold Op.unary;cases e x<;>exact trivial
 case convert s d x=>
  refine aj.val (aj.convert (P:=P) ?_ _)
  simp only[iO,zO] at ab;split at ab
  ·exact .ints _ _ (by assumption) (by assumption)
  ·unfold zK at ab
   split at ab
   ·exact .bytes _ (by assumption) (by assumption) (by assumption)
   ·cases ab
  ·cases ab
 case nilCheck x=>
  have hx:=mem x (by simp[Op.operands])
  simp only;generalize e x=v at hx |-
  generalize e' x=v' at hx;cases hx;case func fn fn' _ _ _ _ hf _ _ _ _=>cases hf<;>exact trivial
  all_goals first|exact trivial|exact aj.runtimePanic _
 case makeFunc fn a b=>exact aj.val (aj.K6 _ _ _)
 case makeMap t r=>exact aj.val (aj.K7 _ _)
 case makeSlice t l c=>exact aj.val (aj.K8 _ _ _)
 case slice t x lo hi mx=>exact aj.val (aj.Cm _ _ _ _ _)
 case fieldAddr s x i=>exact aj.val (aj.Ci _ _ _)
 case field t x i=>exact aj.val (aj.Cg _ _ _)
 case indexAddr t x i=>exact aj.val (aj.Ck _ _ _)
 case index t x i=>exact aj.val (aj.Cj _ _ _)
 case lookup t x i ok=>exact aj.val (aj.Y6 _ _ _ _)
 case mapUpdate t m k x=>exact aj.unit (aj.Y7 _ _ _ _)
 case extract x i=>exact aj.val (aj.K5 _ _)
 case call c=>
  obtain⟨callee,args,ts⟩:=c;cases callee with
  |invoke=>simp[iO] at ab
  |value f=>exact aj.AT E (mem f (by simp[Op.operands,Call.operands])) _
  |builtin b=>exact aj.builtin (Q:=P) b ts _ _ _ args.size (by simpa [iO] using ab)
end
end Go.Sim
namespace Go.Sim
open Go
theorem Zm{p:Aa6}{fr:Abd}{cs:List Abd}{s:Sem Next}{w:Aa4}:(Aed p true fr cs none s w).bare=(match s.run p w with
 | .ok n aq=>Aed p true fr cs none (.pure n) aq
 | .halt h aq=>Aed p true fr cs none (.halt h) aq).bare:=by
 have e:s.runT p w #[]=(s.run p w,(s.runT p w #[]).2):=Prod.ext (Sem.runT_fst p s w #[]) rfl;unfold Aed;simp only[if_true];rw[e];cases hr:s.run p w with
 |ok n aq=>simp only[Ad6,Acy];try(cases n<;>rfl)
 |halt h aq=>simp only[Ad6,Acy];try(cases h<;>first|rfl| (rename_i u;cases u<;>rfl))
def Rl:Next->Prop
 | .value _| .skip| .enter .. | .round .. =>True
 |_=>False
section
variable {P:Aa6}{F:Array Func}{C:bQ}{S:Tl}{G:Nat->Bool}{ρ:Ren}
theorem PN{s s':Sem Next}(hs:ed (tw P F) P C ρ (kR C) s s'){w w':Aa4}(hw:bV C ρ w w'):∀n aq,s.run (tw P F) w=.ok n aq->Rl n:=by
 intro n aq hr;obtain⟨bH,n',_,_,_,k,_⟩:=hs ρ ρ.le_refl w {w' with tape:=w.tape,drawn:=w.drawn} #[] (bV.rel ⟨hw.dA,hw.dc,hw.fn,hw.inj,hw.obj⟩ (fun _ _=>rfl)) n aq hr
 cases k<;>trivial
theorem SK{b:Bool}{d d':List Aa3}(h:jJ S ρ b d d'):DL b d:=by
 induction h with
 |nil=>exact .nil
 |stop=>exact .stop
 |cons hd _ ih=>cases hd;exact .cons _ ih
theorem XB{b:Bool}{fr aV:Abd}(h:ea C S ρ b fr aV){cs bh:List Abd}(hL:Below C S ρ b cs bh):oP (fr::cs):=by
 induction hL generalizing fr aV with
 |base=>cases h with|mk f ht hk hd hm hr hf=>exact .base (SK hd)
 |call hq aw _ ih=>
  refine .call ?_ (ih hq)
  cases h with|mk f ht hk hd hm hr hf=>exact SK hd
theorem CW(fr:Abd)(v:Value):(fr.finish v).mode=fr.mode/\(fr.finish v).defers=fr.defers:=by
 unfold Frame.finish;split<;>exact⟨rfl,rfl⟩
theorem tV{fr:Abd}{cs:List Abd}(h:fr.mode=.run):Plain (aO fr cs):=⟨⟨fr,cs,rfl⟩,fun ch e=>by simp only[h] at e;cases e⟩
theorem IM{fr:Abd}{cs:List Abd}(h:fr.mode=.returning):Plain (aO fr cs):=⟨⟨fr,cs,rfl⟩,fun ch e=>by simp only[h] at e;cases e⟩
theorem Lq(E:Env P F C G){s:Sem Next}(hs:aj (tw P F) s){w:Aa4}(hn:bJ w.heap){fr:Abd}{cs:List Abd}(hm:fr.mode=.run)(hd:oP (fr::cs))
 (vz:∀n aq,s.run (tw P F) w=.ok n aq->Rl n):Good (fun w=>Aed (tw P F) true fr cs none s w) w:=by
 refine Good.congr (fun w=>Zm) ?_
 refine Good.ue hs (k:=fun r=>match r with
  | .ok n aq=>Aed (tw P F) true fr cs none (.pure n) aq
  | .halt h aq=>Aed (tw P F) true fr cs none (.halt h) aq) hn (fun n aq hr dM=>?_) fun h aq hr ho dM=>?_
 ·have Vf:=vz n aq hr
  refine Good.congr (g:=fun w=>match n with
   | .value v=>.go (aO (fr.finish v) cs) w
   | .skip=>.go (aO (fr.finish undef) cs) w
   | .enter f args=>.go (aO (Frame.enter (tw P F) f args (match fr.todo with| .call _ true _ _::_=>.wrapped|_=>.normal)) (fr::cs)) w
   | .round l f tmps a b=>.go (aO (Frame.round l f tmps a b .normal) (fr::cs)) w
   |_=>.ended (.stuck "" "") w) (fun w=>?_) ?_
  ·unfold Aed
   simp only[if_true,Acy,Ad6];cases n<;>first|rfl|exact Vf.elim
  ·cases n<;>first|exact Vf.elim|skip
   case value v=>exact Good.pure (tV ((CW fr v).1.trans hm)) dM
   case skip=>exact Good.pure (tV ((CW fr undef).1.trans hm)) dM
   case enter f x=>exact Good.pure (tV rfl) dM
   case round l f tm a b=>exact Good.pure (tV rfl) dM
 ·cases h<;>first|exact ho.elim|skip
  case panic v=>
   obtain⟨ch,xK⟩:=raise_mode fr [{v,recovered:=false}];refine Good.congr (g:=fun w=>.go (aO (fr.raise [{v,recovered:=false}]) cs) w) (fun w=>?_) (Good.rA xK ?_ dM)
   ·unfold Aed
    simp only[if_true,Acy,Ad6]
   ·have:(fr.raise [{v,recovered:=false}]).defers=fr.defers:=by unfold Frame.raise;split<;>rfl
    cases hd with
    |base h=>exact .base (this▸h)
    |call h t=>exact .call (this▸h) t
  case stuck why=>
   refine Good.congr (g:=fun w=>.ended (.stuck why (fr.pos (tw P F))) w) (fun w=>?_) Good.ended
   unfold Aed;simp only[if_true,Acy,Ad6]
  case unsupported u=>
   by_cases hu:∃g,u=.initOrder g
   ·obtain⟨g,rfl⟩:=hu
    refine Good.congr (g:=fun w=>early (tw P F) fr cs none g w) (fun w=>?_) ?_
    ·unfold Aed
     simp only[if_true,Acy,Ad6]
    ·refine Good.congr (g:=fun w=>.ended (.unsupported (.initOrder g) (fr.pos (tw P F))) w) (fun w=>?_) Good.ended
     unfold early;simp only[E.ahead,E.steps g,Adg,Aaw,if_false]
   ·refine Good.congr (g:=fun w=>.ended (.unsupported u (fr.pos (tw P F))) w) (fun w=>?_) Good.ended
    unfold Aed;simp only[if_true,Acy,Ad6];cases u<;>first|rfl|exact(hu ⟨_,rfl⟩).elim
theorem Good.Fv{p:Aa6}{α:Type}{s:Sem α}(hs:aj p s){fn:FuncId}{q:Aa6}{k:Ado α->Adl}{w:Aa4}(hn:bJ w.heap)
 (dh:∀a aq,s.run p w=.ok a aq->bJ aq.heap->Good (fun w=>k (.ok a w)) aq)
 (hh:∀h aq,s.run p w=.halt h aq->wR h->bJ aq.heap->Good (fun w=>k (.halt h w)) aq):Good (fun w=>GStep.after (seen q fn (s.runT p w #[]).2) (k (s.runT p w #[]).1)) w:=by
 refine Good.congr (g:=fun w=>k (s.run p w)) (fun w=>?_) (Good.ue hs hn dh hh)
 rw[Ad6,Sem.runT_fst]
theorem SL{w:Aa4}(hn:bJ w.heap){fr aV:Abd}(b7:ea C S ρ false fr aV){cs bh:List Abd}(hL:Below C S ρ false cs bh){v:Value}(m:Bool):Good (fun w=>Adm (tw P F) m fr cs none v w) w:=by
 cases b7 with
 |mk f ht hk hd hm hr hf=>
  cases hL with
  |call hq aw hL=>
   cases hq with
   |mk f ht hk hd hm hr hf=>
    refine Good.pure (g:=aO (Frame.finish _ v) _) ?_ hn
    cases hm with
    |run=>exact tV (CW _ _).1
    |returning=>exact IM (CW _ _).1
theorem OM{w w':Aa4}(hn:bJ w.heap){b:Bool}{fr aV:Abd}(b7:ea C S ρ b fr aV){cs bh:List Abd}(hL:Below C S ρ b cs bh)(m:Bool)(j:Option Code):Good (fun w=>Ev (tw P F) m fr cs w j) w:=by
 have gw:=b7;cases b7 with
 | @mk f t t' ht k k' hk d d' hd md hm ro iS hr eT hf=>
   unfold Ev;cases hr with
   |none=>
    simp only;split
    ·exact Good.pure (IM rfl) hn
    ·exact Good.pure (IM rfl) hn
    ·exact Good.ended
   |some hl=>
    have hb:b=false:=by
     cases b with
     |false=>rfl
     |true=>exact absurd (hf.base rfl) (by simp)
    subst hb;simp only;refine Good.Fv (aj.Y4 _ _) (k:=fun r=>match r with
     | .ok v w=>Adm (tw P F) m _ cs none v w
     | .halt _ w=>.ended (.stuck "range over a function: no such loop" _) w) hn (fun a aq _ dM=>SL dM gw hL m) fun _ _ _ _ _=>Good.ended
theorem aco(E:Env P F C G)(hG:∀g,G g=true->ρ g g){w w':Aa4}(hn:bJ w.heap)(hw:bV C ρ w w'){q:Bool}{fr aV:Abd}(b7:ea C S ρ q fr aV)(qw:fr.mode=.run){cs bh:List Abd}(hL:Below C S ρ q cs bh)(m:Bool):
 Good (fun w=>Aec (tw P F) m true fr cs none w) w:=by
 have gw:=b7;have aQ:=XB b7 hL;have eC:gY C ρ w {w' with tape:=w.tape,drawn:=w.drawn}:=bV.rel ⟨hw.dA,hw.dc,hw.fn,hw.inj,hw.obj⟩ (fun _ _=>rfl)
 cases b7 with
 | @mk f t t' ht k k' hk d d' hd md hm ro iS hr eT hf=>
   simp only at qw;subst qw;have cl:∀ {c},C.clean c->cr P G c=true:=fun h=>(E.clean _).1 h
   have lc:∀ {c},cr P G c=true->C.clean c:=fun h=>(E.clean _).2 h
   have pu:∀ {k₁:List Item} {d:List Aa3},Good (fun w=>.go (aO ⟨f,t,k₁,d,.run,.normal,ro⟩ cs) w) w:=Good.pure (tV rfl) hn
   have ev:∀ {k k':List Item} {d d':List Aa3} {r r':Option Nat},pL G ρ (Ad5 ⟨f,t,k,d,.run,.normal,r⟩) (Ad5 ⟨f,t',k',d',.run,eT,r'⟩):=C5 hG ht
   cases hk with
   |nil=>exact OM (w':=w') hn gw hL m none
   |stop=>exact Good.ended
   | @cons _ i i' k k' hi hk=>
     cases hi with
     |inBlock id=>exact pu
     |inScope c hc=>exact pu
     |inLoop c hc=>exact pu
     |inRangeFunc hl=>exact Good.ended
     |beginRound=>
      refine Lq E (aj.unit ?_) hn rfl aQ ?_
      ·cases hr with
       |none=>exact trivial
       |some hl=>exact aj.Y2 _
      ·refine PN (P:=P) (C:=C) (ρ:=ρ) (Sim.Ql (s':=iS.elim (Go.stuck "beginRound: no round") Instr.beginRound) ?_) hw
       cases hr with
       |none=>exact Sim.stuck
       |some hl=>exact Sim.beginRound hl
     |endRangeFunc hl=>
      refine Good.Fv (aj.Y3 _) (k:=fun r=>match r with
       | .ok jump w=>.go (aO ⟨f,t,(jump.map Item.code).toList++k,d,.run,.normal,ro⟩ cs) w
       | .halt (.panic v) w=>.go (aO ((⟨f,t,_,d,.run,.normal,ro⟩:Abd).raise [{v,recovered:=false}]) cs) w
       | .halt _ w=>.ended (.stuck "range over a function: no such loop" _) w) hn (fun a aq _ dM=>Good.pure (tV rfl) dM) fun h aq _ ho dM=>?_
      cases h with
      |panic v=>
       refine Good.rA (fr:=(⟨f,t,_,d,.run,.normal,ro⟩:Abd).raise [{v,recovered:=false}]) (ch:=[{v,recovered:=false}]) rfl ?_ dM
       cases aQ with
       |base h=>exact .base h
       |call h t=>exact .call h t
      |_=>exact Good.ended
     |inRegion id dr ops todo hc=>
      cases todo with
      |nil=>exact pu
      |cons i rest=>
       have ya:ops.all (j7 P G)=true:=cl hc;unfold Aec;simp only;split
       ·unfold stepG.oper
        simp only[Frame.oper?];cases ho:ops[i]? with
        |none=>exact Good.ended
        |some o=>
         have mB:o∈ops:= Ac9 ho;have k8:j7 P G o=true:=by simpa using Aal.1 ya o mB
         have nH:∀q,o.op≠ .defer q:=fun q e=>by simp[j7,iO,e] at k8
         have he:=ev (k:=.inRegion ops (i::rest)::k) (k':=.inRegion ops (i::rest)::k') (d:=d) (d':=d') (r:=ro) (r':=iS);have:=Lq E (aj.execOp E o k8 he) hn rfl aQ (PN (ed.execOp E o k8 he) hw);simp only;cases hr with
         |none=>exact this
         |some hl=>
          cases ab:o.op<;>first|exact absurd ab (nH _) |exact this
       ·exact Good.pure (tV (CW _ _).1) hn
     |cut hc=>
      rcases lG.SG hc with rfl| ⟨x,y,y',rfl,rfl,ha,hb⟩
      ·exact Good.ended
      ·exact pu
     |code cd hc=>
      have fB:=cl hc;cases cd with
      |skip=>exact pu
      |label l=>exact pu
      |ret=>exact OM (w':=w') hn gw hL m (some .ret)
      |seq x y=>exact pu
      |cond x y z=>
       unfold Aec;simp only;split
       ·exact pu
       ·exact Good.ended
      |block id x=>exact pu
      |loop x=>exact pu
      |scope x=>exact pu
      |exit id=>
       have:=OM (P:=P) (F:=F) (w':=w') hn gw hL m (some (.exit id));unfold Aec;simp only;cases exitTo id k with
       |none=>exact this
       |some k₁=>exact pu
      |region id ops dr=>
       unfold Aec;simp only;cases dr with
       |false=>exact pu
       |true=>
        simp only[Adg,Aaw,if_false];refine Good.ue (p:=tw P F) (s:=Go.choose (.order f id)) (aj.choose _) (k:=fun r=>match r with
         | .ok n w=>.go (aO ⟨f,t,.inRegion ops (Region.schedule ((tw P F).follows .mixedOrders) ops n)::k,d,.run,.normal,ro⟩ cs) w
         | .halt _ w=>.ended (.stuck "order" ((⟨f,t,.code (.region id ops true)::k,d,.run,.normal,ro⟩:Abd).pos (tw P F))) w) hn (fun a aq _ dM=>?_) (fun h aq _ _ _=>?_)
        ·exact Good.pure (tV rfl) dM
        ·exact Good.ended
      |rangeFunc g ps x y=>
       simp only[cr,Aax] at fB;refine Good.Fv (aj.Y5 _ _ _ _ _ _) (k:=fun r=>match r with
        | .ok (l,mark) w=>Aed (tw P F) true ⟨f,t,.inRangeFunc l::k,mark++d,.run,.normal,ro⟩ cs none
          (do let d <-resolve (Ad5 ⟨f,t,.inRangeFunc l::k,mark++d,.run,.normal,ro⟩) {callee:=.value g,args:=#[.const (.func (.yield l) #[] #[])],argTypes:=#[]} 0;Go.invoke d.target d.args) w
        | .halt _ w=>.ended (.stuck "range over a function: no such loop" _) w) hn (fun a aq bz dM=>?_) fun _ _ _ _ _=>Good.ended
       obtain⟨bH,y2,ep,eD,k1,⟨hl,Ay⟩,k3,k4,k5⟩:=Sim.enterLoop (P:=P) (F:=F) (C:=C) f ht ps (lc fB.1.2) (lc fB.2) hr ρ ρ.le_refl w {w' with tape:=w.tape,drawn:=w.drawn} #[] eC a aq bz
       obtain⟨l1,Iq⟩:=a;obtain⟨yB,Ir⟩:=y2;simp only at hl Ay |-
       have he:pL G bH (Ad5 ⟨f,t,.inRangeFunc l1::k,Iq++d,.run,.normal,ro⟩) (Ad5 ⟨f,t',.inRangeFunc yB::k',Ir++d',.run,eT,iS⟩):=C5 (fun g hg=>k4.le _ _ (hG g hg)) (ht.mono k4.le)
       have hy:aP bH #[Value.func (.yield l1) #[] #[]] #[Value.func (.yield yB) #[] #[]]:=bU.one (R:=ah bH) (ah.func (.yield hl) rfl (by simp) rfl (by simp))
       refine Lq E ?_ dM rfl ?_ (PN (Sim.lx (Sim.AT E (he g fB.1.1) (by simpa [Ad5] using hy))) k3.core)
       ·exact aj.AT E (he g fB.1.1) _
       ·have my:ea C S bH q ⟨f,t,.inRangeFunc l1::k,Iq++d,.run,.normal,ro⟩ ⟨f,t',.inRangeFunc yB::k',Ir++d',.run,eT,iS⟩:=.mk f (ht.mono k4.le) (.cons (.inRangeFunc hl) (hk.mono k4.le)) (jJ.app Ay (hd.mono k4.le)) .run (by
         cases hr with
         |none=>exact .none
         |some h=>exact .some (k4.le _ _ h)) hf
        exact XB my (hL.mono k4.le)
      |goto l=>simp[cr] at fB
      |refuse s=>simp[cr] at fB
theorem amB(E:Env P F C G){w w':Aa4}(hn:bJ w.heap)(hw:bV C ρ w w'){b:Bool}{fr aV:Abd}(b7:ea C S ρ b fr aV)(qw:fr.mode=.returning){cs bh:List Abd}(hL:Below C S ρ b cs bh)(m:Bool):
 Good (fun w=>Adt (tw P F) m fr cs none w) w:=by
 have gw:=b7;cases b7 with
 | @mk f t t' ht k k' hk d d' hd md hm ro iS hr eT hf=>
   simp only at qw;subst qw;have DY:ro=none:=by
    rcases Option.eq_none_or_eq_some ro with e| ⟨x,e⟩
    ·exact e
    ·exact absurd (hf.round (by simp[e])) (by simp)
   subst DY;cases hd with
   |nil=>
    obtain⟨fn,cd,h1,h2,h3,h4,h5⟩:=E.get f (hf.ok rfl rfl);have e1:(tw P F).funcs[f]?=some fn:=h1;unfold Adt;simp only[e1];refine Good.Fv (aj.results _ _) (k:=fun r=>match r with
     | .ok v w=>Adm (tw P F) m _ cs none v w
     | .halt (.stuck s) w=>.ended (.stuck s _) w
     | .halt _ w=>.ended (.stuck "return: the result variables cannot be read" _) w) hn (fun a aq _ dM=>SL dM gw hL m) fun h _ _ _ _=>?_
    cases h<;>exact Good.ended
   |stop=>
    refine Good.congr (g:=fun w=>.ended (.stuck "call: a method without a receiver" ((⟨f,t,k,[],.returning,.normal,none⟩:Abd).pos (tw P F))) w) (fun w=>?_) Good.ended
    unfold Adt Adw cQ;simp[Go.invoke,Go.stuck,Acy,bind,Sem.bind]
   |cons hi hd=>
    cases hi with
    | @collected r r' hb=>
      refine Good.Fv (aj.Y8 _) (k:=fun r=>match r with
       | .ok calls w=>.go {frame:={ (⟨f,t,k,_,.returning,.normal,none⟩:Abd) with defers:=calls++_},callers:=cs,status:=.running,dying:=none} w
       | .halt _ w=>.ended (.stuck "the deferred calls of a range-over-func loop have been taken" _) w) hn (fun a aq _ dM=>Good.pure (IM rfl) dM) fun _ _ _ _ _=>Good.ended
theorem alU(E:Env P F C G)(hG:∀g,G g=true->ρ g g){w w':Aa4}(hn:bJ w.heap)(hw:bV C ρ w w'){q:Bool}{fr aV:Abd}(b7:ea C S ρ q fr aV){cs bh:List Abd}(hL:Below C S ρ q cs bh):
 Good (fun w=>Adn (tw P F) true (aO fr cs) w) w:=by
 have gw:=b7;cases b7 with
 | @mk f t t' ht k k' hk d d' hd md hm ro iS hr eT hf=>
   cases hm with
   |run=>exact aco E hG hn hw gw rfl hL true
   |returning=>exact amB E hn hw gw rfl hL true
end
end Go.Sim
namespace Go.Sim
open Go
inductive Safe(p:Aa6)(Q:Abe->Aa4->Prop):Abe->Aa4->Prop
 |stop {g:Abe} {w:Aa4} (h:Q g w):Safe p Q g w
 |step {g:Abe} {w:Aa4} (nx:Tape->Abe×Aa4) (h:∀T:Tape,(∃es,Adn p true g (aZ w T)=.go (nx T).1 (nx T).2 es)/\Plain (nx T).1) (hs:∀T,Safe p Q (nx T).1 (nx T).2):Safe p Q g w
section
variable {P:Aa6}{F:Array Func}{C:bQ}{S:Tl}{G:Nat->Bool}
def Inv(C:bQ)(S:Tl)(G:Nat->Bool)(g:Abe)(w:Aa4):Prop:=
 bJ w.heap/\∃(ρ:Ren) (b:Bool) (fr aV:Abd) (cs bh:List Abd) (w':Aa4),g=aO fr cs/\(∀g,G g=true->ρ g g)/\ea C S ρ b fr aV/\Below C S ρ b cs bh/\bV C ρ w w'
theorem bV.left{ρ:Ren}{w w' aa:Aa4}(h:bV C ρ w w')(e:aa.heap=w.heap):bV C ρ aa w':=⟨by rw[e];exact h.dA,h.dc,h.fn,h.inj,by rw[e];exact h.obj⟩
theorem bV.right{ρ:Ren}{w w' aa:Aa4}(h:bV C ρ w w')(e:aa.heap=w'.heap):bV C ρ w aa:=⟨h.dA,by rw[e];exact h.dc,h.fn,h.inj,by rw[e];exact h.obj⟩
theorem Inv.aZ{g:Abe}{w:Aa4}(h:Inv C S G g w)(T:Tape):Inv C S G g (aZ w T):=by
 obtain⟨hn,ρ,b,fr,aV,cs,bh,w',e,hG,b7,hL,hw⟩:=h;exact⟨hn,ρ,b,fr,aV,cs,bh,w',e,hG,b7,hL,hw.left rfl⟩
theorem Inv.C8(E:Env P F C G){g:Abe}{w:Aa4}(h:Inv C S G g w):Good (fun w=>Adn (tw P F) true g w) w:=by
 obtain⟨hn,ρ,b,fr,aV,cs,bh,w',e,hG,b7,hL,hw⟩:=h;subst e;exact alU E hG hn hw b7 hL
theorem Inv.step(E:Env P F C G)(hh:∀f,C.hole f=false){g:Abe}{w:Aa4}(h:Inv C S G g w){dG:Abe}{aa:Aa4}{es:Array Aa5}(e:Adn (tw P F) true g w=.go dG aa es)(hp:Plain dG):Inv C S G dG aa:=by
 have gx:=h.C8 E;have qx:bJ aa.heap:=by
  have:=gx.cls;simp only[e] at this;cases this with
  |plain h hn=>exact hn
  |rA hm hd hn=>exact hn
 obtain⟨hn,ρ,b,fr,aV,cs,bh,w',rfl,hG,b7,hL,hw⟩:=h;have eC:gY C ρ w {w' with tape:=w.tape,drawn:=w.drawn}:=(hw.right (aa:={w' with tape:=w.tape,drawn:=w.drawn}) rfl).rel fun _ _=>rfl
 obtain⟨bH,en,aA,es',h1,h2,h3,h4,h5⟩:=Xx E hG eC b7 hL true true true .running .running none none dG aa es e hp;cases h2 with
 |inside my nB=>exact⟨qx,bH,_,_,_,_,_,aA,rfl,fun g hg=>h4.le _ _ (hG g hg),my,nB,h3⟩
 |hole f hf=>rw[hh f] at hf;cases hf
theorem ahg{fr aV:Abd}{cs bh:List Abd}{w w':Aa4}(h:Ads fr cs w=Ads aV bh w'):fr=aV/\cs=bh/\w=w':=by
 simp only[Ads,Machine.mk.injEq] at h;obtain⟨h1,h2,_⟩:=h;simp only[Array.mk.injEq,List.cons.injEq,Goroutine.mk.injEq] at h2;exact⟨h2.1.1,h2.1.2.1,h1⟩
theorem PD(E:Env P F C G)(hh:∀f,C.hole f=false){Q:Abe->Aa4->Prop}(hQ:∀g w T,Q g w->Q g (aZ w T))(hQm:∀g w,Q g w->∀ch,g.frame.mode≠ .panicking ch)
 {zW:Abe}{aL:Aa4}(hi:Inv C S G zW aL)
 (afw:∀T:Tape,∃n jR lM aa,runN (tw P F) n (Ads zW.frame zW.callers (aZ aL T))=.next (Ads jR lM aa)/\Q (aO jR lM) aa):Safe (tw P F) Q zW aL:=by
 apply Adh;intro adZ
 let St:=Abe×Aa4
 let zg:St->Prop:=fun x=>Inv C S G x.1 x.2/\¬Safe (tw P F) Q x.1 x.2
 have ae:∀x:St,zg x->∃T:Tape,∀y:St,(∃es,Adn (tw P F) true x.1 (aZ x.2 T)=.go y.1 y.2 es)->Plain y.1->¬Safe (tw P F) Q y.1 y.2:=by
  intro x hx;apply Adh;intro bj;apply hx.2;have eA:∀T:Tape,∃y:St,(∃es,Adn (tw P F) true x.1 (aZ x.2 T)=.go y.1 y.2 es)/\Plain y.1/\Safe (tw P F) Q y.1 y.2:=by
   intro T;apply Adh;intro h;exact bj ⟨T,fun y h1 h2 h3=>h ⟨y,h1,h2,h3⟩⟩
  exact .step (fun T=>Adi (eA T)) (fun T=>⟨(Adj (eA T)).1,(Adj (eA T)).2.1⟩) (fun T=>(Adj (eA T)).2.2)
 have ak:∀x:St,∃T:Tape,zg x->∀y:St,(∃es,Adn (tw P F) true x.1 (aZ x.2 T)=.go y.1 y.2 es)->Plain y.1->¬Safe (tw P F) Q y.1 y.2:=by
  intro x;by_cases hx:zg x
  ·obtain⟨T,h⟩:=ae x hx
   exact⟨T,fun _=>h⟩
  ·exact⟨fun _ _=>0,fun h=>absurd h hx⟩
 obtain⟨τ,hτ⟩:∃τ:St->Tape,∀x,zg x->∀y:St,(∃es,Adn (tw P F) true x.1 (aZ x.2 (τ x))=.go y.1 y.2 es)->Plain y.1->¬Safe (tw P F) Q y.1 y.2:=
  ⟨fun x=>Adi (ak x),fun x=>Adj (ak x)⟩
 let Live:St->Prop:=fun x=>∃y:St,(∃es,Adn (tw P F) true x.1 (aZ x.2 (τ x))=.go y.1 y.2 es)/\Plain y.1
 obtain⟨nx,NL,NM⟩:∃nx:St->St,(∀x,Live x->(∃es,Adn (tw P F) true x.1 (aZ x.2 (τ x))=.go (nx x).1 (nx x).2 es)/\Plain (nx x).1)/\∀x,¬Live x->nx x=x:=by
  refine⟨fun x=> @dite _ (Live x) (Adk _) (fun h=>Adi h) (fun _=>x),fun x h=>?_,fun x h=>?_⟩
  ·simp only[h,dite_true];exact Adj h
  ·simp only[h,dite_false]
 let sq:Nat->St:=fun i=>Nat.rec (zW,aL) (fun _ x=>nx x) i
 have sq0:sq 0=(zW,aL):=rfl;have Jc:∀i,sq (i+1)=nx (sq i):=fun _=>rfl
 have o5:∀x:St,zg x->Good (fun w=>Adn (tw P F) true x.1 w) (aZ x.2 (τ x)):=fun x hx=>(hx.1.aZ (τ x)).C8 E
 have Dm:∀i,zg (sq i):=by
  intro i;induction i with
  |zero=>exact⟨hi,adZ⟩
  |succ i ih=>
   rw[Jc];by_cases hl:Live (sq i)
   ·obtain⟨⟨es,h1⟩,h2⟩:=NL _ hl
    exact⟨(ih.1.aZ (τ (sq i))).step E hh h1 h2,hτ _ ih _ ⟨es,h1⟩ h2⟩
   ·rw[NM _ hl];exact ih
 have Ni:∀i,(sq i).2.drawn<=(sq (i+1)).2.drawn:=by
  intro i;rw[Jc];by_cases hl:Live (sq i)
  ·obtain⟨⟨es,h1⟩,h2⟩:=NL _ hl
   have:=(o5 _ (Dm i)).drawn;simp only[h1,tk] at this;exact this
  ·rw[NM _ hl];exact Ac2 _
 have NH:∀i j,i<=j->(sq i).2.drawn<=(sq j).2.drawn:=by
  intro i j h;induction h with
  |refl=>exact Ac2 _
  |step _ ih=>exact Ac3 ih (Ni _)
 let At:Nat->Nat->Prop:=fun j i=>(sq i).2.drawn<=j/\j<(sq (i+1)).2.drawn
 have hAt:∀j i k,At j i->At j k->i=k:=by
  intro j i k h1 h2;rcases Nat.lt_trichotomy i k with h|h|h
  ·have:=NH (i+1) k h;have:=h1.2;have:=h2.1;omega
  ·exact h
  ·have:=NH (k+1) i h;have:=h2.2;have:=h1.1;omega
 let T:Tape:=fun j q=> @dite _ (∃i,At j i) (Adk _) (fun h=>τ (sq (Adi h)) j q) fun _=>
  @dite _ (∃i,¬Live (sq i)) (Adk _) (fun h=>τ (sq (Adi h)) j q) fun _=>0
 have xC:∀i j q,At j i->T j q=τ (sq i) j q:=by
  intro i j q h;have hex:∃i,At j i:=⟨i,h⟩
  show @dite _ (∃i,At j i) (Adk _) _ _=_
  simp only[hex,dite_true];rw[hAt j _ i (Adj hex) h]
 have Nc:∀i,¬Live (sq i)->∀k,i<=k->sq k=sq i:=by
  intro i hl k hk;induction hk with
  |refl=>rfl
  |step _ ih=>rw[Jc,ih,NM _ hl]
 have MH:∀i j q,¬Live (sq i)->(sq i).2.drawn<=j->T j q=τ (sq i) j q:=by
  intro i j q hl hj;have bj:¬ ∃k,At j k:=by
   rintro⟨k,h1,h2⟩;rcases Nat.lt_or_ge k i with h|h
   ·have:=NH (k+1) i h;omega
   ·have e1:=Nc i hl (k+1) (by omega)
    rw[e1] at h2;omega
  have hex:∃i,¬Live (sq i):=⟨i,hl⟩
  show @dite _ (∃i,At j i) (Adk _) _ _=_
  simp only[bj,dite_false,hex,dite_true];have hc:=Adj hex;have:sq (Adi hex)=sq i:=by
   rcases Nat.le_total i (Adi hex) with h|h
   ·exact Nc i hl _ h
   ·exact(Nc _ hc _ h).symm
  rw[this]
 have Oa:∀i,∃fr cs,(sq i).1=aO fr cs:=by
  intro i;obtain⟨_,_,_,fr,_,cs,_,_,e,_⟩:=(Dm i).1;exact⟨fr,cs,e⟩
 have ae0:∀i,Live (sq i)->step (tw P F) (Ads (sq i).1.frame (sq i).1.callers (aZ (sq i).2 T))=.next (Ads (sq (i+1)).1.frame (sq (i+1)).1.callers (aZ (sq (i+1)).2 T)):=by
  intro i hl;obtain⟨⟨es,h1⟩,h2⟩:=NL _ hl;rw[<-Jc] at h1 h2;have hg:=o5 _ (Dm i);have rK:=hg.loc T (fun j q a b=>by
   simp only[h1,tk] at b;exact xC i j q ⟨a,b⟩)
  simp only[h1] at rK;obtain⟨fr,cs,e⟩:=Oa i;obtain⟨⟨Tj,uQ,e1⟩,_⟩:=h2;rw[e] at rK |-
  rw[e1] at rK |-
  exact Adv rK
 have ael:∀i,¬Live (sq i)->(∃o aa,step (tw P F) (Ads (sq i).1.frame (sq i).1.callers (aZ (sq i).2 T))=.ended o aa)\/∃jR lM aa ch,step (tw P F) (Ads (sq i).1.frame (sq i).1.callers (aZ (sq i).2 T))=.next (Ads jR lM aa)/\jR.mode=.panicking ch/\oP (jR::lM)/\bJ aa.heap:=by
  intro i hl;have hg:=o5 _ (Dm i);have rK:=hg.loc T (fun j q a _=>MH i j q hl a)
  have T9:=hg.cls;obtain⟨fr,cs,e⟩:=Oa i;generalize hs:Adn (tw P F) true (sq i).1 (aZ (sq i).2 (τ (sq i)))=s at rK T9;cases T9 with
  |plain h hn=>exact absurd ⟨(_,_),⟨_,hs⟩,h⟩ hl
  | @ended o w es=>
    left;rw[e] at rK |-
    exact⟨o,_,Adu rK⟩
  | @rA Tj uQ w1 es ch hm hd hn=>
    right;rw[e] at rK |-
    exact⟨Tj,uQ,aZ w1 T,ch,Adv rK,hm,hd,hn⟩
 have Vb:∀n,(∀i,i<n->Live (sq i))->runN (tw P F) n (Ads (sq 0).1.frame (sq 0).1.callers (aZ (sq 0).2 T))=.next (Ads (sq n).1.frame (sq n).1.callers (aZ (sq n).2 T)):=by
  intro n hl;induction n with
  |zero=>rfl
  |succ n ih=>
   rw[runN_add,ih fun i hi=>hl i (by omega)]
   simp only[runN,ae0 n (hl n (by omega))]
 obtain⟨n,jR,lM,aa,bz,hq⟩:=afw T;have bz:runN (tw P F) n (Ads (sq 0).1.frame (sq 0).1.callers (aZ (sq 0).2 T))=.next (Ads jR lM aa):=bz;have hnQ:∀i,Q (aO (sq i).1.frame (sq i).1.callers) (aZ (sq i).2 T)->False:=by
  intro i h;apply(Dm i).2;obtain⟨fr,cs,e⟩:=Oa i;have:=hQ _ _ (sq i).2.tape h;rw[e] at this |-
  exact .stop this
 by_cases eA:∀i,i<n->Live (sq i)
 ·have:=Vb n eA
  rw[this] at bz;simp only[Stepped.next.injEq] at bz;obtain⟨e1,e2,e3⟩:=ahg bz;subst e1 e2 e3;exact hnQ n hq
 ·
  have:∃i,i<n/\¬Live (sq i)/\∀k,k<i->Live (sq k):=by
   have hex:∃i,i<n/\¬Live (sq i):=by
    apply Adh;intro h;exact eA fun i hi=>Adh fun hl=>h ⟨i,hi,hl⟩
   obtain⟨i,hi⟩:=hex;induction i using Nat.strongRecOn with
   |_ i ih=>
    by_cases hk:∃k,k<i/\¬Live (sq k)
    ·obtain⟨k,h1,h2⟩:=hk
     exact ih k h1 ⟨by omega,h2⟩
    ·exact⟨i,hi.1,hi.2,fun k qu=>Adh fun hl=>hk ⟨k,qu,hl⟩⟩
  obtain⟨i,dL,hl,MR⟩:=this;have h1:=Vb i MR;obtain⟨m,rfl⟩:∃m,n=i+(m+1):=⟨n - i - 1,by omega⟩
  have AH:runN (tw P F) (i+(m+1)) (Ads (sq 0).1.frame (sq 0).1.callers (aZ (sq 0).2 T))=.next (Ads jR lM aa):=bz;rw[runN_add,h1] at AH;simp only[runN] at AH;rcases ael i hl with⟨o,w2,h2⟩ | ⟨iJ,jQ,w2,ch,h2,hm,hd,hn⟩
  ·rw[h2] at AH;cases AH
  ·rw[h2] at AH
   obtain⟨iF,rM⟩:=abg m hm hd hn AH;exact hQm _ _ hq iF rM
end
end Go.Sim
namespace Go.Sim
open Go
structure aaa where
 O:Nat->Prop
 R:Nat->Prop
def aaa.has(M:aaa)(b:Nat):Prop:=M.O b\/M.R b
def aaa.grow(M:aaa)(w w':Aa4):aaa:=⟨fun b=>M.O b\/(w.heap.size<=b/\b<w'.heap.size),M.R⟩
structure bN(M:aaa)(w w':Aa4):Prop where
 size:w.heap.size<=w'.heap.size
 kept:∀b,M.has b->w'.heap[b]?=w.heap[b]?
 tape:w'.tape=w.tape
 os:w'.os=w.os
 out:w'.output=w.output
theorem bN.refl(M:aaa)(w:Aa4):bN M w w:=⟨Ac2 _,fun _ _=>rfl,rfl,rfl,rfl⟩
theorem bN.trans{M:aaa}{w aa aq:Aa4}(h:bN M w aa)(k:bN M aa aq):bN M w aq:=
 ⟨Ac3 h.size k.size,fun b hb=>(k.kept b hb).trans (h.kept b hb),k.tape.trans h.tape,k.os.trans h.os,k.out.trans h.out⟩
theorem bN.of_heap{M:aaa}{w w':Aa4}(h:w'.heap=w.heap)(ht:w'.tape=w.tape)(ho:w'.os=w.os)(hp:w'.output=w.output):bN M w w':=⟨by rw[h];exact Ac2 _,fun _ _=>by rw[h],ht,ho,hp⟩
def wK(M:aaa)(e:Aa5):Prop:=
 (∃b:Nat,(e.loc=.obj b\/∃c:Aay,e.loc=.cell c/\c.block=b)/\e.sync=false/\M.has b/\(e.write=true->M.O b))\/e.loc=.mark .noRoom\/∃f,e.loc=.mark (.extern f)
structure eO(M:aaa)(w w':Aa4)(es:Array Aa5):Prop where
 size:w.heap.size<=w'.heap.size
 kept:∀b,b<w.heap.size->¬M.O b->w'.heap[b]?=w.heap[b]?
 tape:w'.tape=w.tape
 os:w'.os=w.os
 out:w'.output=w.output
 ev:∀e∈es,wK (M.grow w w') e
theorem eO.idle(M:aaa)(w:Aa4):eO M w w #[]:=⟨Ac2 _,fun _ _ _=>rfl,rfl,rfl,rfl,by simp⟩
inductive Walk(P:Aa6)(main:Bool)(Stop:aaa->Abe->Aa4->Prop):aaa->Abe->Aa4->Prop
 |stop {M:aaa} {g:Abe} {w:Aa4} (h:∀aa,bN M w aa->Stop M g aa):Walk P main Stop M g w
 |step {M:aaa} {g:Abe} {w:Aa4} (run:g.status=.running) (nx:Aa4->Abe×Aa4×Array Aa5)
   (h:∀aa,bN M w aa->Adn P main g aa=.go (nx aa).1 (nx aa).2.1 (nx aa).2.2/\eO M aa (nx aa).2.1 (nx aa).2.2)
   (hs:∀aa,bN M w aa->Walk P main Stop (M.grow aa (nx aa).2.1) (nx aa).1 (nx aa).2.1):Walk P main Stop M g w
theorem Walk.rely{P:Aa6}{main:Bool}{Stop:aaa->Abe->Aa4->Prop}{M:aaa}{g:Abe}{w aa:Aa4}(h:Walk P main Stop M g w)(k:bN M w aa):Walk P main Stop M g aa:=by
 cases h with
 |stop h=>exact .stop fun aq k2=>h aq (k.trans k2)
 |step run nx h hs=>exact .step run nx (fun aq k2=>h aq (k.trans k2)) fun aq k2=>hs aq (k.trans k2)
theorem Walk.bind{P:Aa6}{main:Bool}{S1 S2:aaa->Abe->Aa4->Prop}{M:aaa}{g:Abe}{w:Aa4}(h:Walk P main S1 M g w)(k:∀M g w,S1 M g w->Walk P main S2 M g w):Walk P main S2 M g w:=by
 induction h with
 | @stop M g w h=>
   have:=k M g w (h w (bN.refl M w));exact this
 |step run nx h _ ih=>exact .step run nx h ih
theorem Walk.mono{P:Aa6}{main:Bool}{S1 S2:aaa->Abe->Aa4->Prop}{M:aaa}{g:Abe}{w:Aa4}(h:Walk P main S1 M g w)(k:∀M g w,S1 M g w->S2 M g w):Walk P main S2 M g w:=by
 induction h with
 |stop h=>exact .stop fun aa k1=>k _ _ _ (h aa k1)
 |step run nx h _ ih=>exact .step run nx h ih
def Ch(p:Aa6)(y x:Abe×Aa4):Prop:=∃(T:Tape) (es:Array Aa5),Adn p true x.1 (aZ x.2 T)=.go y.1 y.2 es
inductive sN(p:Aa6)(x:Abe×Aa4):Abe×Aa4->Prop
 |refl:sN p x x
 |step {y z:Abe×Aa4} (h:sN p x y) (k:Ch p z y):sN p x z
theorem sN.trans{p:Aa6}{x y z:Abe×Aa4}(h:sN p x y)(k:sN p y z):sN p x z:=by
 induction k with
 |refl=>exact h
 |step _ k ih=>exact .step ih k
structure gX(M:aaa)(ρ:Ren)(w w':Aa4)(bS:aaa)(aE:Ren)(aa aA:Aa4):Prop where
 le:ρ.le aE
 new:∀a b,aE a b->ρ a b\/(w.heap.size<=a/\w'.heap.size<=b)
 mP:w.heap.size<=aa.heap.size
 fQ:w'.heap.size<=aA.heap.size
 kE:∀(a:Nat) (o:Obj),w.heap[a]?=some o->lC o->aa.heap[a]?=some o
 im:∀b:Nat,M.has b->(∀a,ρ a b->∃o,w.heap[a]?=some o/\lC o)->aA.heap[b]?=w'.heap[b]?
 R:bS.R=M.R
 O:∀b,M.O b->bS.O b
 On:∀b,bS.O b->M.O b\/(w'.heap.size<=b/\b<aA.heap.size)
 tape:aA.tape=w'.tape
 os:aA.os=w'.os
 out:aA.output=w'.output
theorem aaa.tx{M bS:aaa}(hR:bS.R=M.R)(hO:∀b,M.O b->bS.O b){b:Nat}(h:M.has b):bS.has b:=h.imp (hO b) fun x=>by rw[hR];exact x
theorem gX.trans{M bS pU:aaa}{ρ aE bH:Ren}{w w' aa aA aq ep:Aa4}(h:gX M ρ w w' bS aE aa aA)(k:gX bS aE aa aA pU bH aq ep)(hM:∀b,M.has b->b<w'.heap.size):gX M ρ w w' pU bH aq ep where
 le:=Ren.le_trans h.le k.le
 new a b x:=by
  rcases k.new a b x with x| ⟨x,y⟩
  ·exact h.new a b x
  ·exact .inr ⟨Ac3 h.mP x,Ac3 h.fQ y⟩
 mP:=Ac3 h.mP k.mP
 fQ:=Ac3 h.fQ k.fQ
 kE a o x f:=k.kE a o (h.kE a o x f) f
 im b hb hf:=by
  refine(k.im b (aaa.tx h.R h.O hb) fun a ha=>?_).trans (h.im b hb hf)
  rcases h.new a b ha with x| ⟨_,y⟩
  ·obtain⟨o,ho,fo⟩:=hf a x
   exact⟨o,h.kE a o ho fo,fo⟩
  ·have:=hM b hb;omega
 R:=k.R.trans h.R
 O b x:=k.O b (h.O b x)
 On b x:=by
  rcases k.On b x with x| ⟨x,y⟩
  ·rcases h.On b x with x| ⟨x,y⟩
   ·exact .inl x
   ·exact .inr ⟨x,Aeh y k.fQ⟩
  ·exact .inr ⟨Ac3 h.fQ x,y⟩
 tape:=k.tape.trans h.tape
 os:=k.os.trans h.os
 out:=k.out.trans h.out
theorem gX.keep{M:aaa}{ρ:Ren}{w w' aA:Aa4}(h:bN M w' aA):gX M ρ w w' M ρ w aA:=
 ⟨ρ.le_refl,fun _ _ h=>.inl h,Ac2 _,h.size,fun _ _ h _=>h,fun b hb _=>h.kept b hb,rfl,fun _ h=>h,fun _ h=>.inl h,h.tape,h.os,h.out⟩
def Fits(M:aaa)(ρ:Ren)(w:Aa4):Prop:=∀a b,ρ a b->M.O b\/(M.R b/\∃o,w.heap[a]?=some o/\lC o)
theorem bV.keep{C:bQ}{M:aaa}{ρ:Ren}{w w' aA:Aa4}(h:bV C ρ w w')(f:Fits M ρ w)(k:bN M w' aA):bV C ρ w aA where
 dA:=h.dA
 dc a b x:=Aeh (h.dc a b x) k.size
 fn:=h.fn
 inj:=h.inj
 obj a b o x e:=by
  obtain⟨o',h1,h2⟩:=h.obj a b o x e;exact⟨o',by rw[k.kept b ((f a b x).imp id (·.1))];exact h1,h2⟩
section
variable {P:Aa6}{F:Array Func}{C:bQ}{S:Tl}{G:Nat->Bool}
structure Rel(P:Aa6)(F:Array Func)(C:bQ)(S:Tl)(G:Nat->Bool)(M:aaa)(ρ:Ren)(g:Abe)(w:Aa4)(g':Abe)(w':Aa4):Prop where
 gr:sP P (tw P F) C S ρ g g'
 core:bV C ρ w w'
 gL:∀g,G g=true->ρ g g
 fits:Fits M ρ w
 low:∀b,M.has b->b<w'.heap.size
theorem Rel.keep{M:aaa}{ρ:Ren}{g g':Abe}{w w' aA:Aa4}(h:Rel P F C S G M ρ g w g' w')(k:bN M w' aA):Rel P F C S G M ρ g w g' aA:=
 ⟨h.gr,h.core.keep h.fits k,h.gL,h.fits,fun b hb=>Aeh (h.low b hb) k.size⟩
theorem WG(E:Env P F C G){M:aaa}{ρ:Ren}{g g':Abe}{w w':Aa4}(h:Rel P F C S G M ρ g w g' w')
 (dL:∃b fr aV cs bh,g=aO fr cs/\g'=aO aV bh/\ea C S ρ b fr aV/\Below C S ρ b cs bh)
 {nx:Tape->Abe×Aa4}(hn:∀T:Tape,(∃es,Adn (tw P F) true g (aZ w T)=.go (nx T).1 (nx T).2 es)/\Plain (nx T).1)(main:Bool):
 ∃(T:Tape) (aE:Ren) (en:Abe) (aA:Aa4) (es:Array Aa5),Adn P main g' w'=.go en aA es/\eO M w' aA es/\
  Rel P F C S G (M.grow w' aA) aE (nx T).1 (nx T).2 en aA/\gX M ρ w w' (M.grow w' aA) aE (nx T).2 aA:=by
 obtain⟨b,fr,aV,cs,bh,rfl,rfl,b7,hL⟩:=dL
 let T:Tape:=fun j q=>w'.tape (w'.drawn+(j - w.drawn)) q
 obtain⟨⟨es0,h1⟩,h2⟩:=hn T;have hw:gY C ρ (aZ w T) w':=(h.core.left (aa:=aZ w T) rfl).rel fun j q=>by
  show w'.tape (w'.drawn+(w.drawn+j - w.drawn)) q=w'.tape (w'.drawn+j) q;rw[Nat.add_sub_cancel_left]
 obtain⟨aE,en,aA,es,k1,k2,k3,k4,k5⟩:=Xx E h.gL hw b7 hL true main true .running .running none none _ _ _ h1 h2;have Mf:∀b,b<w'.heap.size->¬M.O b->∀a,ρ a b->∃o,w.heap[a]?=some o/\lC o:=fun b _ hb a ha=>((h.fits a b ha).resolve_left hb).2
 have aI:(aZ w T).heap.size=w.heap.size:=rfl;have GH:eO M w' aA es:=by
  refine⟨k4.fQ,fun b hb hO=>k4.im b hb (Mf b hb hO),k4.wv,k4.vR,k4.vS,fun e he=>?_⟩
  rcases k5 e he with⟨b,a,e1,e2,e3,e4⟩ |x
  ·refine .inl ⟨b,e1,e2,?_⟩
   rcases k4.new a b e3 with x| ⟨x,y⟩
   ·rcases h.fits a b x with o| ⟨r,o,ho,fo⟩
    ·exact⟨.inl (.inl o),fun _=>.inl o⟩
    ·refine⟨.inr r,fun Ec=>?_⟩
     rcases e4 with e4| ⟨o',oB,e4⟩
     ·have:=h.core.dA a b x;rw[aI] at e4;omega
     ·have e5:w.heap[a]?=some o':=oB
      rw[ho] at e5;obtain rfl:=Ac5 e5;exact absurd fo (e4 Ec)
   ·have hb:=k3.dc a b e3
    exact⟨.inl (.inr ⟨y,hb⟩),fun _=>.inr ⟨y,hb⟩⟩
  ·exact .inr x
 refine⟨T,aE,en,aA,es,k1,GH,⟨k2,k3,fun g hg=>k4.le _ _ (h.gL g hg),fun a b hab=>?_,fun b hb=>?_⟩,⟨k4.le,k4.new,k4.mP,k4.fQ,k4.kE,fun b hb hf=>k4.im b (h.low b hb) hf,rfl,fun _ x=>.inl x,fun _ x=>x,k4.wv,k4.vR,k4.vS⟩⟩
 ·rcases k4.new a b hab with x| ⟨x,y⟩
  ·rcases h.fits a b x with o| ⟨r,o,ho,fo⟩
   ·exact .inl (.inl o)
   ·exact .inr ⟨r,o,k4.kE a o ho fo,fo⟩
  ·exact .inl (.inr ⟨y,k3.dc a b hab⟩)
 ·rcases hb with(hb|hb) |hb
  ·exact Aeh (h.low b (.inl hb)) k4.fQ
  ·exact hb.2
  ·exact Aeh (h.low b (.inr hb)) k4.fQ
theorem X7(E:Env P F C G)(main:Bool){Q:Abe->Aa4->Prop}{Stop:aaa->Abe->Aa4->Prop}{g:Abe}{w:Aa4}(hs:Safe (tw P F) Q g w):
 ∀ {M:aaa} {ρ:Ren} {g':Abe} {w':Aa4},Rel P F C S G M ρ g w g' w'->
  (∀(bS:aaa) (aE:Ren) (dG:Abe) (aa:Aa4) (en:Abe) (aA:Aa4),Rel P F C S G bS aE dG aa en aA->gX M ρ w w' bS aE aa aA->Safe (tw P F) Q dG aa->sN (tw P F) (g,w) (dG,aa)->
     (Q dG aa\/¬ ∃b fr aV cs bh,dG=aO fr cs/\en=aO aV bh/\ea C S aE b fr aV/\Below C S aE b cs bh)->Stop bS en aA)->Walk P main Stop M g' w':=by
 induction hs with
 | @stop g w h=>
   intro M ρ g' w' hR aQ;exact .stop fun aa k=>aQ M ρ g w g' aa (hR.keep k) (.keep k) (.stop h) .refl (.inl h)
 | @step g w nx h hs ih=>
   intro M ρ g' w' hR aQ;by_cases dL:∃b fr aV cs bh,g=aO fr cs/\g'=aO aV bh/\ea C S ρ b fr aV/\Below C S ρ b cs bh
   ·have key:∀aa:Aa4,∃y:Abe×Aa4×Array Aa5,bN M w' aa->∃(T:Tape) (aE:Ren),Adn P main g' aa=.go y.1 y.2.1 y.2.2/\eO M aa y.2.1 y.2.2/\
     Rel P F C S G (M.grow aa y.2.1) aE (nx T).1 (nx T).2 y.1 y.2.1/\gX M ρ w aa (M.grow aa y.2.1) aE (nx T).2 y.2.1:=by
     intro aa;by_cases k:bN M w' aa
     ·obtain⟨T,aE,en,aA,es,a1,a2,a3,a4⟩:=WG E (hR.keep k) dL h main
      exact⟨(en,aA,es),fun _=>⟨T,aE,a1,a2,a3,a4⟩⟩
     ·exact⟨(g',aa,#[]),fun x=>absurd x k⟩
    have bz:g'.status=.running:=by obtain⟨b,fr,aV,cs,bh,_,rfl,_⟩:=dL;rfl
    refine .step bz (fun aa=>Adi (key aa)) (fun aa k=>?_) fun aa k=>?_
    ·obtain⟨T,aE,a1,a2,a3,a4⟩:=Adj (key aa) k
     exact⟨a1,a2⟩
    ·obtain⟨T,aE,a1,a2,a3,a4⟩:=Adj (key aa) k
     refine ih T a3 fun pU bH cg aq C9 ep b1 b2 b3 b4 b5=>aQ pU bH cg aq C9 ep b1 (((gX.keep k).trans a4 hR.low).trans b2 hR.low) b3 ?_ b5
     obtain⟨⟨es,h1⟩,_⟩:=h T;exact sN.trans (.step .refl ⟨T,es,h1⟩) b4
   ·exact .stop fun aa k=>aQ M ρ g w g' aa (hR.keep k) (.keep k) (.step nx h hs) .refl (.inr dL)
end
end Go.Sim
namespace Go.Sim
open Go Go.Conc
open Go.ConcN (sumTo upd sumTo_upd upd_ne upd_same)
def Iz:Loc->Prop:=fun _=>False
theorem L9{M:aaa}{B:Nat}{e:Aa5}(h:wK M e)(hB:∀b,M.has b->b<B):EvL Iz B e:=by
 obtain⟨loc,wr,sy⟩:=e;rcases h with⟨b,e1,e2,e3,e4⟩ |e1| ⟨f,e1⟩
 ·simp only at e1 e2 e4
  subst e2;rcases e1 with e1| ⟨c,e1,e5⟩
  ·subst e1
   refine⟨fun _ _ h=>h.elim,by simp,by simp,?_⟩
   cases wr<;>exact hB _ e3
  ·subst e1
   refine⟨fun _ _ h=>h.elim,by simp,by simp,?_⟩
   have:=hB _ e3;rw[<-e5] at this;cases wr<;>exact this
 ·simp only at e1
  subst e1;exact⟨fun _ _ h=>h.elim,by simp,by simp,by cases wr<;>cases sy<;>exact trivial⟩
 ·simp only at e1
  subst e1;exact⟨fun _ _ h=>h.elim,by simp,by simp,by cases wr<;>cases sy<;>exact trivial⟩
def oS(t:Adx):Prop:=∀op∈t,op.act≠ .mark .disable/\op.act≠ .mark .enable
theorem Wj{t:Adx}(h:oS t)(g:Nat):∀i,t.deaf g i=0:=by
 intro i;induction i with
 |zero=>rfl
 |succ i ih=>
  unfold Trace.deaf;split
  ·rename_i ab
   exact absurd rfl (h _ (Ac9 ab)).1
  ·rename_i ab
   exact absurd rfl (h _ (Ac9 ab)).2
  ·exact ih
theorem IA{t:Adx}(h:oS t){i:Nat}{op:MemOp}(hi:t[i]?=some op):t.heard i:=⟨op.g,by simp[Trace.g?,hi],Wj h _ _⟩
theorem EG{t:Adx}(h:oS t)(g:Nat):Deaf t g=0:=Wj h g _
theorem oS.app{t u:Adx}(h:oS t)(k:oS u):oS (t++u):=fun op ab=>(Aad.1 ab).elim (h op) (k op)
theorem O4{M:aaa}{g:Nat}{fn:FuncId}{pos:String}{es:Array Aa5}(h:∀e∈es,wK M e):oS (Ad9 g fn pos es):=by
 intro op ab;obtain⟨e,he,rfl⟩:=Go.Conc.mem_ofEvents ab;obtain⟨loc,wr,sy⟩:=e;rcases h _ he with⟨b,e1,e2,_⟩ |e1| ⟨f,e1⟩
 ·simp only at e1 e2
  subst e2;rcases e1 with e1| ⟨c,e1,_⟩<;>subst e1<;>cases wr<;>exact⟨by simp[Ad7],by simp[Ad7]⟩
 ·simp only at e1
  subst e1;exact⟨by simp[Ad7],by simp[Ad7]⟩
 ·simp only at e1
  subst e1;exact⟨by simp[Ad7],by simp[Ad7]⟩
section
variable {P:Aa6}
structure Fr(P:Aa6)(gs:Array Abe)(w:Aa4)(t:Adx)(q:Nat->Nat)(g:Abe):Prop where
 zero:gs[0]?=some g
 lv:∀i x,0<i->gs[i]?=some x->QuitsIn P (q i) x
 gD:Past Iz w.heap.size t
 nd:oS t
 gb:∀op∈t,op.g<gs.size
theorem Fr.ag1{gs:Array Abe}{w:Aa4}{t:Adx}{q:Nat->Nat}{g:Abe}(h:Fr P gs w t q g):Leavers P t gs q:=
 ⟨fun i x hi hx=>by rw[EG h.nd];exact QuitsD.of_quitsIn (h.lv i x hi hx),fun j _=>EG h.nd j⟩
theorem woken_quits{g g' b:Abe}{w':Aa4}{k:Nat}(hB:QuitsIn P k b):woken P g g' w' b=b:=woken_quitsD (QuitsD.of_quitsIn hB)
theorem nM(g:Nat)(fn:FuncId)(pos:String):Ad9 g fn pos #[]=#[]:=by simp[Ad9]
theorem yy(M:aaa)(w:Aa4)(d:Nat):bN M w (w.at d):=bN.of_heap rfl rfl rfl rfl
theorem To{gs:Array Abe}{w:Aa4}{sl:Option (Nat×Nat)}{t:Adx}{q:Nat->Nat}{g:Abe}(h:Fr P gs w t q g)(bz:g.status=.running):
 (∃d bm,stepT P (crowd gs w sl)=runT P (crowd gs (w.at d) bm) 0)\/
 ∃aT d bm ops q',stepT P (crowd gs w sl)=(.next (crowd aT (w.at d) bm),ops)/\aT.size=gs.size/\sumTo aT.size q'<sumTo gs.size q/\Fr P aT (w.at d) (t++ops) q' g:=by
 obtain⟨h0,hL,hP,hN,hG⟩:=h;have tz:∀g∈gs,awake g:=by
  intro x hx;obtain⟨i,hi,rfl⟩:=Ada.1 hx;rcases Nat.eq_zero_or_pos i with rfl|rP
  ·have:gs[0]=g:=by simpa [Adb hi] using h0
   rw[this];exact awake_of (.inl bz)
  ·exact awake_of ((hL i _ rP (Adb hi)).status.elim .inl fun x=>.inr (.inr x))
 obtain⟨i,x,d,bm,hi,hg,aQ⟩:=crowd_pick (P:=P) (w:=w) (sl:=sl) tz ⟨0,g,h0,bz⟩;rcases Nat.eq_zero_or_pos i with rfl|rP
 ·exact .inl ⟨d,bm,aQ⟩
 ·right
  have hq:=hL i x rP hi;have cR:(i==0)=false:=by simp;omega
  have al:i<gs.size:=(Aaf.1 hi).1
  cases pe:q i with
  |zero=>rw[pe] at hq;rw[show x.status=.finished from hq] at hg;cases hg
  |succ k=>
   rw[pe] at hq;rcases hq with hf| ⟨_,g',D3,mD⟩
   ·rw[hf] at hg;cases hg
   have tJ:=runT_crowd_go (P:=P) (sl:=bm) (i:=i) hi (by rw[cR];exact D3 (w.at d))
   rw[nM] at tJ;have aI:((gs.map (woken P x g' (w.at d))).setIfInBounds i g').size=gs.size:=by simp
   have Zb:sumTo gs.size (upd q i k)+(k+1)=sumTo gs.size q+k:=by
    have:=sumTo_upd q k id al;simpa [pe] using this
   refine⟨(gs.map (woken P x g' (w.at d))).setIfInBounds i g',d,bm,#[],upd q i k,aQ.trans tJ,aI,by rw[aI];omega,?_,fun j y hj hy=>?_,by rw[Aag];exact hP,by rw[Aag];exact hN,by rw[Aag];exact fun op ab=>by rw[aI];exact hG op ab⟩
   ·have aw:i≠0:=by omega
    rw[Adc aw,Ade,h0]
    simp[woken_run bz]
   ·by_cases pa:i=j
    ·subst pa
     rw[Array.getElem?_setIfInBounds_self_of_lt (by simpa using al)] at hy
     obtain rfl:=Ac5 hy;rw[upd_same];exact mD
    ·rw[Adc pa,Ade] at hy
     obtain⟨z,hz,rfl⟩:=Aej.1 hy;have yd:=hL j z hj hz;rw[woken_quits yd,upd_ne q k (Aei pa)];exact yd
theorem Tm{gs:Array Abe}{w aa:Aa4}{sl:Option (Nat×Nat)}{t:Adx}{q:Nat->Nat}{g dG:Abe}{es:Array Aa5}{M:aaa}(h:Fr P gs w t q g)(hs:Adn P true g w=.go dG aa es)(hd:eO M w aa es)(hM:∀b,M.has b->b<w.heap.size):
 ∃aT ops,runT P (crowd gs w sl) 0=(.next (crowd aT aa sl),ops)/\aT.size=gs.size/\Fr P aT aa (t++ops) q dG:=by
 obtain⟨h0,hL,hP,hN,hG⟩:=h;have tJ:=runT_crowd_go (P:=P) (sl:=sl) (i:=0) h0 (show Adn P (0==0) g w=_ from hs)
 have al:0<gs.size:=(Aaf.1 h0).1
 refine⟨_,_,tJ,by simp,by simp[al],fun j x hj hx=>?_,(hP.mono hd.size).own fun e he=>L9 (hd.ev e he) fun b hb=>?_,hN.app (O4 hd.ev),fun op ab=>?_⟩
 ·have aw:0≠j:=by omega
  rw[Adc aw,Ade] at hx
  obtain⟨y,hy,rfl⟩:=Aej.1 hx;have hq:=hL j y hj hy;rw[woken_quits hq];exact hq
 ·rcases hb with(hb|hb) |hb
  ·exact Aeh (hM b (.inl hb)) hd.size
  ·exact hb.2
  ·exact Aeh (hM b (.inr hb)) hd.size
 ·rw[Array.size_setIfInBounds,Array.size_map]
  rcases Aad.1 ab with ab|ab
  ·exact hG op ab
  ·obtain⟨e,_,rfl⟩:=Go.Conc.mem_ofEvents ab
   exact al
theorem zU{M:aaa}{w aa:Aa4}{es:Array Aa5}(hd:eO M w aa es)(hM:∀b,M.has b->b<w.heap.size):∀b,(M.grow w aa).has b->b<aa.heap.size:=by
 intro b hb;rcases hb with(hb|hb) |hb
 ·exact Aeh (hM b (.inl hb)) hd.size
 ·exact hb.2
 ·exact Aeh (hM b (.inr hb)) hd.size
theorem Cw{Stop:aaa->Abe->Aa4->Prop}{M:aaa}{g:Abe}{w:Aa4}(h:Walk P true Stop M g w):
 ∀(gs:Array Abe) (sl:Option (Nat×Nat)) (t:Adx) (q:Nat->Nat),Fr P gs w t q g->(∀b,M.has b->b<w.heap.size)->
  ∃(N:Nat) (aT:Array Abe) (M':aaa) (g':Abe) (w':Aa4) (bm:Option (Nat×Nat)) (t':Adx) (q':Nat->Nat),
    runNT P N (crowd gs w sl) t=(.next (crowd aT w' bm),t')/\aT.size=gs.size/\Stop M' g' w'/\Fr P aT w' t' q' g':=by
 induction h with
 | @stop M g w h=>exact fun gs sl t q hF hM=>⟨0,gs,M,g,w,sl,t,q,rfl,rfl,h w (bN.refl M w),hF⟩
 | @step M g w run nx h hs ih=>
   have key:∀(n:Nat) (gs:Array Abe) (sl:Option (Nat×Nat)) (t:Adx) (q:Nat->Nat) (aq:Aa4),sumTo gs.size q<=n->bN M w aq->Fr P gs aq t q g->(∀b,M.has b->b<aq.heap.size)->
    ∃(N:Nat) (aT:Array Abe) (M':aaa) (g':Abe) (w':Aa4) (bm:Option (Nat×Nat)) (t':Adx) (q':Nat->Nat),
     runNT P N (crowd gs aq sl) t=(.next (crowd aT w' bm),t')/\aT.size=gs.size/\Stop M' g' w'/\Fr P aT w' t' q' g':=by
    intro n;induction n with
    |zero=>
     intro gs sl t q aq hn k hF hM;rcases To (sl:=sl) hF run with⟨d,bm,aQ⟩ | ⟨aT,d,bm,ops,q',_,_,al,_⟩
     ·have k2:=k.trans (yy M aq d)
      obtain⟨h1,h2⟩:=h _ k2;obtain⟨iK,ops,hr,aI,lN⟩:=Tm (sl:=bm) (w:=aq.at d) (M:=M) ⟨hF.zero,hF.lv,hF.gD,hF.nd,hF.gb⟩ h1 h2 hM;obtain⟨N,aT,M',g',w',mQ,t',q',r1,r2,r3,r4⟩:=ih _ k2 iK bm _ q lN (zU h2 hM);exact⟨N+1,aT,M',g',w',mQ,t',q',by simp only[runNT,aQ,hr];exact r1,r2.trans aI,r3,r4⟩
     ·omega
    |succ n En=>
     intro gs sl t q aq hn k hF hM;rcases To (sl:=sl) hF run with⟨d,bm,aQ⟩ | ⟨aT,d,bm,ops,q',aQ,aI,al,lN⟩
     ·have k2:=k.trans (yy M aq d)
      obtain⟨h1,h2⟩:=h _ k2;obtain⟨iK,ops,hr,aI,lN⟩:=Tm (sl:=bm) (w:=aq.at d) (M:=M) ⟨hF.zero,hF.lv,hF.gD,hF.nd,hF.gb⟩ h1 h2 hM;obtain⟨N,aT,M',g',w',mQ,t',q',r1,r2,r3,r4⟩:=ih _ k2 iK bm _ q lN (zU h2 hM);exact⟨N+1,aT,M',g',w',mQ,t',q',by simp only[runNT,aQ,hr];exact r1,r2.trans aI,r3,r4⟩
     ·obtain⟨N,xu,M',g',w',mQ,t',Pf,r1,r2,r3,r4⟩:=En aT bm (t++ops) q' (aq.at d) (by omega) (k.trans (yy M aq d)) lN hM
      exact⟨N+1,xu,M',g',w',mQ,t',Pf,by simp only[runNT,aQ];exact r1,r2.trans aI,r3,r4⟩
   exact fun gs sl t q hF hM=>key _ gs sl t q w (Ac2 _) (bN.refl M w) hF hM
end
end Go.Sim
namespace Go.Sim
open Go Go.Conc
def rh(l:Loc)(b:Nat):Prop:=l=.obj b\/∃c:Aay,l=.cell c/\c.block=b
structure lH where
 M:aaa
 g:Abe
 w:Aa4
structure WT(cL cN:Nat)(w:Aa4)(t:Adx)(act:Nat->Option lH):Prop where
 keep:∀g j,act g=some j->bN j.M j.w w
 mq:∀g g' j j',g≠g'->act g=some j->act g'=some j'->∀b,j.M.O b->¬j'.M.has b
 low:∀g j,act g=some j->∀b,j.M.has b->b<w.heap.size/\b≠cL/\b≠cN
 tl:∀op∈t,op.act.low w.heap.size
 nd:oS t
 clean:∀said,¬Race said t
 perm:∀g j,act g=some j->∀k a,Ady t k=some a->∀b,rh a.loc b->(j.M.O b\/(j.M.R b/\a.write=true))->Knows t g k
 hL:cL<w.heap.size
 hN:cN<w.heap.size
def eW(act:Nat->Option lH)(g:Nat)(x:Option lH):Nat->Option lH:=fun i=>if i=g then x else act i
theorem fE(act:Nat->Option lH)(g:Nat)(x:Option lH):eW act g x g=x:=by simp[eW]
theorem bP(act:Nat->Option lH){g i:Nat}(x:Option lH)(h:i≠g):eW act g x i=act i:=by simp[eW,h]
theorem P9{M:aaa}{e:Aa5}(h:wK M e){x:Touch}(hx:(Ad7 e).touch? =some x):∃b,rh x.loc b/\M.has b/\(x.write=true->M.O b)/\x.kind=.plain:=by
 obtain⟨loc,wr,sy⟩:=e;rcases h with⟨b,e1,e2,e3,e4⟩ |e1| ⟨f,e1⟩
 ·simp only at e1 e2 e4
  subst e2;rcases e1 with e1| ⟨c,e1,e5⟩
  ·subst e1
   cases wr<;>(simp[Ad7,Ad8] at hx;subst hx)
   ·exact⟨b,.inl rfl,e3,by simp,rfl⟩
   ·exact⟨b,.inl rfl,e3,fun _=>e4 rfl,rfl⟩
  ·subst e1
   cases wr<;>(simp[Ad7,Ad8] at hx;subst hx)
   ·exact⟨b,.inr ⟨c,rfl,e5⟩,e3,by simp,rfl⟩
   ·exact⟨b,.inr ⟨c,rfl,e5⟩,e3,fun _=>e4 rfl,rfl⟩
 ·simp only at e1
  subst e1;cases wr<;>cases sy<;>simp[Ad7,Ad8] at hx
 ·simp only at e1
  subst e1;cases wr<;>cases sy<;>simp[Ad7,Ad8] at hx
theorem OP{l:Loc}{b b':Nat}(h:rh l b)(k:rh l b'):b=b':=by
 rcases h with h| ⟨c,h,e⟩<;>rcases k with k| ⟨c',k,e'⟩
 ·rw[h] at k;exact Loc.obj.inj k
 ·rw[h] at k;cases k
 ·rw[h] at k;cases k
 ·rw[h] at k;cases k;exact e.symm.trans e'
theorem Qa{t:Adx}{B:Nat}(h:∀op∈t,op.act.low B){k:Nat}{a:Touch}(ha:Ady t k=some a){b:Nat}(hb:rh a.loc b):b<B:=by
 obtain⟨op,ab,cB⟩:=Adz ha;have hl:=h op (mem_of_getElem? ab);obtain⟨g,fn,pos,act⟩:=op;simp only at cB hl;cases act with
 |access e=>
  simp only[Ad8,Option.some.injEq] at cB;subst cB;rcases hb with hb| ⟨c,hb,e5⟩
  ·simp only at hb;rw[MemAct.low,hb] at hl;exact hl
  ·simp only at hb;rw[MemAct.low,hb] at hl;rw[<-e5];exact hl
 |mark m=>
  cases m<;>simp[Ad8] at cB
  ·subst cB
   rcases hb with hb| ⟨c,hb,e5⟩
   ·cases hb
   ·simp only[Loc.cell.injEq] at hb;subst hb;rw[<-e5];exact hl
  ·subst cB
   rcases hb with hb| ⟨c,hb,e5⟩
   ·cases hb
   ·simp only[Loc.cell.injEq] at hb;subst hb;rw[<-e5];exact hl
 |_=>simp[Ad8] at cB
section
variable {cL cN:Nat}{w:Aa4}{t:Adx}{act:Nat->Option lH}
theorem WT.at(h:WT cL cN w t act)(d:Nat):WT cL cN (w.at d) t act:=
 ⟨fun g j e=>(h.keep g j e).trans (yy _ _ _),h.mq,h.low,h.tl,h.nd,h.clean,h.perm,h.hL,h.hN⟩
theorem WT.own(h:WT cL cN w t act){g:Nat}{j:lH}(hg:act g=some j){x:Abe}{w':Aa4}{es:Array Aa5}(hd:eO j.M w w' es)(fn:FuncId)(pos:String):
 WT cL cN w' (t++Ad9 g fn pos es) (eW act g (some ⟨j.M.grow w w',x,w'⟩)):=by
 have UM:∀b,(j.M.grow w w').has b->b<w'.heap.size/\b≠cL/\b≠cN:=by
  intro b hb;have old:j.M.has b->b<w'.heap.size/\b≠cL/\b≠cN:=fun hb=>by
   have:=h.low g j hg b hb;exact⟨Aeh this.1 hd.size,this.2⟩
  rcases hb with(hb|hb) |hb
  ·exact old (.inl hb)
  ·have:=h.hL;have:=h.hN
   exact⟨hb.2,by omega,by omega⟩
  ·exact old (.inr hb)
 have IB:∀op∈Ad9 g fn pos es,∃e∈es,op={g,fn,pos,act:=.ofEvent e}:=fun op ab=>Go.Conc.mem_ofEvents ab
 have split:∀ {k a},Ady (t++Ad9 g fn pos es) k=some a->(k<t.size/\Ady t k=some a)\/∃e∈es,∃b,rh a.loc b/\(j.M.grow w w').has b/\(a.write=true->(j.M.grow w w').O b)/\Knows (t++Ad9 g fn pos es) g k:=by
  intro k a ha;obtain⟨op,ab,cB⟩:=Adz ha;rcases Ad0 ab with⟨hi,bG⟩ | ⟨_,dN⟩
  ·exact .inl ⟨hi,by rw[Ad1 bG];exact cB⟩
  ·obtain⟨e,he,rfl⟩:=IB op dN
   obtain⟨b,b1,b2,b3,_⟩:=P9 (hd.ev e he) cB;exact .inr ⟨e,he,b,b1,b2,b3,knows_own ab⟩
 refine⟨fun i ji hi=>?_,fun i i' ji Ox aw hi bu b hb eH=>?_,fun i ji hi b hb=>?_,fun op ab=>?_,h.nd.app (O4 hd.ev),fun said=>?_,fun i ji hi k a ha b hb hc=>?_,Aeh h.hL hd.size,Aeh h.hN hd.size⟩
 ·by_cases mz:i=g
  ·subst mz
   rw[fE] at hi;cases hi;exact bN.refl _ _
  ·rw[bP _ _ mz] at hi
   refine(h.keep i ji hi).trans ⟨hd.size,fun b hb=>hd.kept b (h.low i ji hi b hb).1 fun hO=>h.mq g i j ji (Aei mz) hg hi b hO hb,hd.tape,hd.os,hd.out⟩
 ·by_cases mz:i=g
  ·subst mz
   rw[fE] at hi;cases hi;rw[bP _ _ (Aei aw)] at bu;rcases hb with hb|hb
   ·exact h.mq i i' j Ox aw hg bu b hb eH
   ·have:=(h.low i' Ox bu b eH).1;omega
  ·rw[bP _ _ mz] at hi
   by_cases Ur:i'=g
   ·subst Ur
    rw[fE] at bu;cases bu;rcases eH with(eH|eH) |eH
    ·exact h.mq i i' ji j aw hi hg b hb (.inl eH)
    ·have:=(h.low i ji hi b (.inl hb)).1;omega
    ·exact h.mq i i' ji j aw hi hg b hb (.inr eH)
   ·rw[bP _ _ Ur] at bu
    exact h.mq i i' ji Ox aw hi bu b hb eH
 ·by_cases mz:i=g
  ·subst mz
   rw[fE] at hi;cases hi;exact UM b hb
  ·rw[bP _ _ mz] at hi
   have:=h.low i ji hi b hb;exact⟨Aeh this.1 hd.size,this.2⟩
 ·rcases Aad.1 ab with ab|ab
  ·exact MemAct.low_mono hd.size (h.tl op ab)
  ·obtain⟨e,he,rfl⟩:=IB op ab
   exact(L9 (B:=w'.heap.size) (hd.ev e he) fun b hb=>(UM b hb).1).2.2.2
 ·refine noRace_append (h.clean said) (fun op ab=>by obtain⟨e,_,rfl⟩:=IB op ab;rfl) fun k a ha op ab b hb hc=>?_
  obtain⟨e,he,rfl⟩:=IB op ab;obtain⟨c,c1,c2,c3,c4⟩:=P9 (hd.ev e he) hb;have ca:rh a.loc c:=by rw[hc.1];exact c1
  have al:=Qa h.tl ha ca;by_cases cF:b.write=true
  ·rcases c3 cF with hO|hO
   ·exact h.perm g j hg k a ha c ca (.inl hO)
   ·omega
  ·have tz:a.write=true:=hc.2.2.1.resolve_right cF
   rcases c2 with(hO|hO) |hR
   ·exact h.perm g j hg k a ha c ca (.inl hO)
   ·omega
   ·exact h.perm g j hg k a ha c ca (.inr ⟨hR,tz⟩)
 ·by_cases mz:i=g
  ·subst mz
   rw[fE] at hi;cases hi;rcases split ha with⟨_,uZ⟩ | ⟨e,he,c,c1,c2,c3,c4⟩
   ·have al:=Qa h.tl uZ hb
    refine(h.perm i j hg k a uZ b hb ?_).app _
    rcases hc with(hc|hc) |hc
    ·exact .inl hc
    ·omega
    ·exact .inr hc
   ·exact c4
  ·rw[bP _ _ mz] at hi
   rcases split ha with⟨_,uZ⟩ | ⟨e,he,c,c1,c2,c3,c4⟩
   ·exact(h.perm i ji hi k a uZ b hb hc).app _
   ·exfalso
    obtain rfl:=OP hb c1;have pb:=h.low i ji hi b (hc.imp id (·.1))
    rcases hc with hc| ⟨hc,tz⟩
    ·rcases c2 with(c2|c2) |c2
     ·exact h.mq i g ji j mz hi hg b hc (.inl c2)
     ·omega
     ·exact h.mq i g ji j mz hi hg b hc (.inr c2)
    ·rcases c3 tz with c3|c3
     ·exact h.mq g i j ji (Aei mz) hg hi b c3 (.inr hc)
     ·omega
theorem WT.mute(h:WT cL cN w t act){u:Adx}(hu:∀op∈u,op.act.touch? =none/\op.act.low w.heap.size/\op.act≠ .mark .disable/\op.act≠ .mark .enable){w':Aa4}(hs:w'.heap.size=w.heap.size)
 (hk:∀b,b≠cL->b≠cN->w'.heap[b]?=w.heap[b]?)(ht:w'.tape=w.tape)(ho:w'.os=w.os)(hp:w'.output=w.output):WT cL cN w' (t++u) act:=by
 have old:∀ {k a},Ady (t++u) k=some a->Ady t k=some a:=by
  intro k a ha;obtain⟨op,ab,cB⟩:=Adz ha;rcases Ad0 ab with⟨_,bG⟩ | ⟨_,dN⟩
  ·rw[Ad1 bG];exact cB
  ·rw[(hu op dN).1] at cB;cases cB
 refine⟨fun g j e=>(h.keep g j e).trans ⟨by rw[hs];exact Ac2 _,fun b hb=>hk b (h.low g j e b hb).2.1 (h.low g j e b hb).2.2,ht,ho,hp⟩,h.mq,fun g j e b hb=>by rw[hs];exact h.low g j e b hb,fun op ab=>?_,h.nd.app fun op ab=>(hu op ab).2.2,fun said=>?_,fun g j e k a ha b hb hc=>(h.perm g j e k a (old ha) b hb hc).app u,by rw[hs];exact h.hL,by rw[hs];exact h.hN⟩
 ·rw[hs]
  rcases Aad.1 ab with ab|ab
  ·exact h.tl op ab
  ·exact(hu op ab).2.1
 ·
  have key:∀(l:List MemOp) (s:Adx),(∀op∈l,op.act.touch? =none)->¬Race said s->¬Race said (s++l.toArray):=by
   intro l;induction l with
   |nil=>intro s _ hr;simpa using hr
   |cons x l ih=>
    intro s hl hr;have e:s++(x::l).toArray=(s++#[x])++l.toArray:=by apply Array.ext';simp
    rw[e];refine ih _ (fun op ab=>hl op (by simp[ab])) (noRace_append (g:=x.g) hr (by simp) fun k a ha op ab b hb hc=>?_)
    simp only[Aee,List.mem_singleton] at ab;subst ab;rw[hl op (by simp)] at hb
    cases hb
  have:=key u.toList t (fun op ab=>(hu op (by simpa using ab)).1) (h.clean said)
  simpa using this
theorem WT.drop(h:WT cL cN w t act)(g:Nat):WT cL cN w t (eW act g none):=by
 have back:∀ {i j},eW act g none i=some j->act i=some j:=by
  intro i j hi;by_cases e:i=g
  ·subst e;rw[fE] at hi;cases hi
  ·rwa[bP _ _ e] at hi
 exact⟨fun i j e=>h.keep i j (back e),fun i i' j j' aw e e'=>h.mq i i' j j' aw (back e) (back e'),fun i j e=>h.low i j (back e),h.tl,h.nd,h.clean,fun i j e=>h.perm i j (back e),h.hL,h.hN⟩
theorem WT.again(h:WT cL cN w t act){g:Nat}{j:lH}(hg:act g=some j)(x:Abe):WT cL cN w t (eW act g (some ⟨j.M,x,w⟩)):=by
 have back:∀ {i j'},eW act g (some ⟨j.M,x,w⟩) i=some j'->∃VK,act i=some VK/\j'.M=VK.M:=by
  intro i j' hi;by_cases e:i=g
  ·subst e;rw[fE] at hi;cases hi;exact⟨j,hg,rfl⟩
  ·rw[bP _ _ e] at hi;exact⟨j',hi,rfl⟩
 refine⟨fun i j' hi=>?_,fun i i' j1 j2 aw e e'=>?_,fun i j' hi=>?_,h.tl,h.nd,h.clean,fun i j' hi=>?_,h.hL,h.hN⟩
 ·by_cases e:i=g
  ·subst e;rw[fE] at hi;cases hi;exact bN.refl _ _
  ·rw[bP _ _ e] at hi;exact h.keep i j' hi
 ·obtain⟨a,a1,a2⟩:=back e
  obtain⟨b,b1,b2⟩:=back e';rw[a2,b2];exact h.mq i i' a b aw a1 b1
 ·obtain⟨a,a1,a2⟩:=back hi
  rw[a2];exact h.low i a a1
 ·obtain⟨a,a1,a2⟩:=back hi
  rw[a2];exact h.perm i a a1
def aaa.shared(M:aaa):aaa:=⟨fun _=>False,M.has⟩
theorem WT.spawn(h:WT cL cN w t act){j:lH}(h0:act 0=some j){c:Nat}(hc:act c=none)(ic:c≠0){x y:MemOp}(hx:x.g=0/\x.act=.go c)(hy:y.g=c/\y.act=.start)(g' child:Abe):
 WT cL cN w (t++#[x,y]) (eW (eW act 0 (some ⟨j.M.shared,g',w⟩)) c (some ⟨j.M.shared,child,w⟩)):=by
 have hm:=h.mute (u:=#[x,y]) (w':=w) (fun op ab=>by
  simp only[Aee,Aef,Aeg,or_false] at ab;rcases ab with rfl|rfl
  ·rw[hx.2];exact⟨rfl,trivial,by simp,by simp⟩
  ·rw[hy.2];exact⟨rfl,trivial,by simp,by simp⟩) rfl (fun _ _ _=>rfl) rfl rfl rfl
 have back:∀ {i j'},eW (eW act 0 (some ⟨j.M.shared,g',w⟩)) c (some ⟨j.M.shared,child,w⟩) i=some j'->((i=0\/i=c)/\j'.M=j.M.shared/\j'.w=w)\/(i≠0/\i≠c/\act i=some j'):=by
  intro i j' hi;by_cases e:i=c
  ·subst e;rw[fE] at hi;cases hi;exact .inl ⟨.inr rfl,rfl,rfl⟩
  ·rw[bP _ _ e] at hi
   by_cases e0:i=0
   ·subst e0;rw[fE] at hi;cases hi;exact .inl ⟨.inl rfl,rfl,rfl⟩
   ·rw[bP _ _ e0] at hi;exact .inr ⟨e0,e,hi⟩
 have old:∀ {k a},Ady (t++#[x,y]) k=some a->Ady t k=some a:=by
  intro k a ha;obtain⟨op,ab,cB⟩:=Adz ha;rcases Ad0 ab with⟨_,bG⟩ | ⟨_,dN⟩
  ·rw[Ad1 bG];exact cB
  ·simp only[Aee,Aef,Aeg,or_false] at dN
   rcases dN with rfl|rfl
   ·rw[hx.2] at cB;cases cB
   ·rw[hy.2] at cB;cases cB
 refine⟨fun i j' hi=>?_,fun i i' j1 j2 aw e e' b hb eH=>?_,fun i j' hi b hb=>?_,hm.tl,hm.nd,hm.clean,fun i j' hi k a ha b hb tA=>?_,h.hL,h.hN⟩
 ·rcases back hi with⟨_,a2,a3⟩ | ⟨_,_,a3⟩
  ·rw[a2,a3];exact bN.refl _ _
  ·exact h.keep i j' a3
 ·rcases back e with⟨_,a2,_⟩ | ⟨a1,_,a3⟩
  ·rw[a2] at hb;exact hb.elim
  ·rcases back e' with⟨_,b2,_⟩ | ⟨_,_,b3⟩
   ·rw[b2] at eH
    exact h.mq i 0 j1 j a1 a3 h0 b hb (eH.resolve_left id)
   ·exact h.mq i i' j1 j2 aw a3 b3 b hb eH
 ·rcases back hi with⟨_,a2,_⟩ | ⟨_,_,a3⟩
  ·rw[a2] at hb;exact h.low 0 j h0 b (hb.resolve_left id)
  ·exact h.low i j' a3 b hb
 ·rcases back hi with⟨a1,a2,_⟩ | ⟨_,_,a3⟩
  ·rw[a2] at tA
   rcases tA with tA| ⟨tA,tz⟩
   ·exact tA.elim
   ·have hk:Knows t 0 k:=by
      rcases tA with hO|hR
      ·exact h.perm 0 j h0 k a (old ha) b hb (.inl hO)
      ·exact h.perm 0 j h0 k a (old ha) b hb (.inr ⟨hR,tz⟩)
    rcases a1 with rfl|rfl
    ·exact hk.app _
    ·exact Go.ConcN.fork_knows hx hy (EG h.nd 0) (EG h.nd _) hk
  ·exact(h.perm i j' a3 k a (old ha) b hb tA).app _
end
def sU(t:Adx)(g h:Nat):Prop:=∀k a,Ady t k=some a-> t.g? k=some g->Knows t h k
theorem sU.app{t u:Adx}{g h:Nat}(k:sU t g h)(hu:∀op∈u,op.g=g-> op.act.touch? =none):sU (t++u) g h:=by
 intro i a ha hg;obtain⟨op,ab,cB⟩:=Adz ha;rcases Ad0 ab with⟨hi,bG⟩ | ⟨_,dN⟩
 ·refine(k i a (by rw[Ad1 bG];exact cB) ?_).app u
  simpa [Trace.g?,ab,bG] using hg
 ·have e:op.g=g:=by simpa [Trace.g?,ab] using hg
  rw[hu op dN e] at cB;cases cB
theorem sU.self(t:Adx)(g:Nat):sU t g g:=by
 intro i a ha hg;obtain⟨op,ab,_⟩:=Adz ha;have e:op.g=g:=by simpa [Trace.g?,ab] using hg
 have:=knows_own ab;rwa[e] at this
theorem adX{t:Adx}(hn:oS t){a b c s r cap:Nat}{x1 x2 x3 x4:MemOp}(h1:x1.g=a/\x1.act=.send c s)(h2:x2.g=b/\x2.act=.recv c r cap)(h3:x3.g=a/\x3.act=.sendDone c s)(h4:x4.g=b/\x4.act=.recvDone c s)
 {k:Nat}(h:Knows t a k):Knows (t++#[x1,x2,x3,x4]) b k:=by
 have e1:(t++#[x1,x2,x3,x4])[t.size]?=some x1:=by rw[Adf (Ac2 _)];simp
 have e4:(t++#[x1,x2,x3,x4])[t.size+3]?=some x4:=by rw[Adf (by omega)];simp
 have US:oS (t++#[x1,x2,x3,x4]):=hn.app fun op ab=>by
  simp only[Aee,Aef,Aeg,or_false] at ab;rcases ab with rfl|rfl|rfl|rfl
  ·rw[h1.2];simp
  ·rw[h2.2];simp
  ·rw[h3.2];simp
  ·rw[h4.2];simp
 have q1:HappensBefore (t++#[x1,x2,x3,x4]) k t.size:=h.hb_new (Ac2 _) e1 h1.1;exact⟨t.size+3,x4,e4,h4.1,.inr (q1.trans (.single (.inr ⟨.handOver (c:=c) (k:=s) (by rw[act?_of e1,h1.2]) (by rw[act?_of e4,h4.2]),IA US e1,IA US e4⟩)))⟩
end Go.Sim
namespace Go.Sim
open Go Go.Conc
open Go.ConcN (sumTo upd sumTo_upd upd_ne upd_same sumTo_congr)
inductive Tree:Type
 |leaf:Tree
 |node (f:Aa4->Tree):Tree
def Tree.lt(a b:Tree):Prop:=∃f w,b=.node f/\a=f w
theorem Tree.acc(a:Tree):Acc Tree.lt a:=by
 induction a with
 |leaf=>exact⟨_,fun y ⟨f,w,e,_⟩=>by cases e⟩
 |node f ih=>exact⟨_,fun y ⟨f',w,e,e'⟩=>by cases e;rw[e'];exact ih w⟩
def zy(n:Nat)(f' f:Nat->Tree):Prop:=∃i,i<n/\Tree.lt (f' i) (f i)/\∀j,j≠i->f' j=f j
theorem Xv(n:Nat):∀f:Nat->Tree,Acc (zy n) f:=by
 induction n with
 |zero=>exact fun f=>⟨_,fun y ⟨i,hi,_⟩=>by omega⟩
 |succ n ih=>
  have key:∀x:Tree,Acc Tree.lt x->∀f:Nat->Tree,f n=x->Acc (zy (n+1)) f:=by
   intro x hx;induction hx with
   |intro x _ ihx=>
    intro f hf;have inner:∀f:Nat->Tree,Acc (zy n) f->f n=x->Acc (zy (n+1)) f:=by
     intro f ha;induction ha with
     |intro f _ ihf=>
      intro hf;refine⟨_,fun f' ⟨i,hi,al,ho⟩=>?_⟩
      by_cases dL:i=n
      ·subst dL
       exact ihx (f' i) (by rw[<-hf];exact al) f' rfl
      ·exact ihf f' ⟨i,by omega,al,ho⟩ ((ho n (fun e=>dL e.symm)).trans hf)
    exact inner f (ih f) hf
  exact fun f=>key (f n) (Tree.acc _) f rfl
inductive sZ(P:Aa6)(main:Bool)(Stop:aaa->Abe->Aa4->Prop):Tree->aaa->Abe->Aa4->Prop
 |stop {T:Tree} {M:aaa} {g:Abe} {w:Aa4} (h:∀aa,bN M w aa->Stop M g aa):sZ P main Stop T M g w
 |step {f:Aa4->Tree} {M:aaa} {g:Abe} {w:Aa4} (run:g.status=.running) (nx:Aa4->Abe×Aa4×Array Aa5)
   (h:∀aa,bN M w aa->Adn P main g aa=.go (nx aa).1 (nx aa).2.1 (nx aa).2.2/\eO M aa (nx aa).2.1 (nx aa).2.2)
   (hs:∀aa,bN M w aa->sZ P main Stop (f aa) (M.grow aa (nx aa).2.1) (nx aa).1 (nx aa).2.1):sZ P main Stop (.node f) M g w
theorem Walk.tree{P:Aa6}{main:Bool}{Stop:aaa->Abe->Aa4->Prop}{M:aaa}{g:Abe}{w:Aa4}(h:Walk P main Stop M g w):∃T,sZ P main Stop T M g w:=by
 induction h with
 |stop h=>exact⟨.leaf,.stop h⟩
 | @step M g w run nx h _ ih=>
   have ex:∀aa,∃T,bN M w aa->sZ P main Stop T (M.grow aa (nx aa).2.1) (nx aa).1 (nx aa).2.1:=by
    intro aa;by_cases k:bN M w aa
    ·obtain⟨T,hT⟩:=ih aa k;exact⟨T,fun _=>hT⟩
    ·exact⟨.leaf,fun x=>absurd x k⟩
   exact⟨.node fun aa=>Adi (ex aa),.step run nx h fun aa k=>Adj (ex aa) k⟩
theorem sZ.rv{P:Aa6}{main:Bool}{Stop:aaa->Abe->Aa4->Prop}{T:Tree}{M:aaa}{g:Abe}{w:Aa4}(h:sZ P main Stop T M g w):
 (∀aa,bN M w aa->Stop M g aa)\/(g.status=.running/\∀aa,bN M w aa->∃T' g' w' es,Tree.lt T' T/\Adn P main g aa=.go g' w' es/\eO M aa w' es/\sZ P main Stop T' (M.grow aa w') g' w'):=by
 cases h with
 |stop h=>exact .inl h
 |step run nx h hs=>exact .inr ⟨run,fun aa k=>⟨_,_,_,_,⟨_,aa,rfl,rfl⟩,(h aa k).1,(h aa k).2,hs aa k⟩⟩
structure Pm where
 P:Aa6
 n:Nat
 N0:Nat
 cL:Nat
 cN:Nat
 eU:Nat->Bool
 val:Nat->Value
 End:List Nat->aaa->Abe->Aa4->Prop
def FW(X:Pm)(c:Nat)(v:Value)(Next:aaa->Abe->Aa4->Prop)(M:aaa)(g:Abe)(w:Aa4):Prop:=
 g.status=.running/\g.offers=none/\(∃z,Adn X.P false g w=.comm g #[scase c v z] true .send w #[])/\Next M (Ad2 g undef) w
def W2(X:Pm):aaa->Abe->Aa4->Prop:=FW X X.cL (.bool true) (fun _ g _=>∃k,QuitsIn X.P k g)
def W1(X:Pm)(i:Nat)(M:aaa)(g:Abe)(w:Aa4):Prop:=
 (X.eU i=true/\FW X X.cN (X.val i) (fun M g w=>Walk X.P false (W2 X) M g w) M g w)\/(X.eU i=false/\W2 X M g w)
def AtClose(X:Pm)(_:aaa)(g:Abe)(w:Aa4):Prop:=
 g.status=.running/\mayWake X.P g=true/\∀s r,w.heap[X.cN]?=some (.chan 0 #[] false s r false)->
  ∃cg k,Adn X.P false g w=.go cg (w.shut X.cN s r false) #[⟨.obj X.cN,false,true⟩,⟨.obj X.cN,true,true⟩]/\QuitsIn X.P k cg
def pW(X:Pm):Nat->aaa->Abe->Aa4->Prop
 |0=>AtClose X
 |r+1=>fun M g w=>g.status=.running/\g.offers=none/\(∃z,Adn X.P false g w=.comm g #[rcase X.cL z] true (.recv false) w #[])/\Walk X.P false (pW X r) M (Ad2 g (recvd false (.bool true) true)) w
def nj(X:Pm):Nat->List Nat->aaa->Abe->Aa4->Prop
 |0,az=>fun M g w=>g.status=.running/\g.offers=none/\∃z,Adn X.P true g w=.comm g #[rcase X.cN z] true (.recv true) w #[]/\X.End az M (Ad2 g (recvd true z false)) w
 |f+1,az=>fun M g w=>g.status=.running/\g.offers=none/\∃z,Adn X.P true g w=.comm g #[rcase X.cN z] true (.recv true) w #[]/\X.End az M (Ad2 g (recvd true z false)) w/\
   ∀i,i<X.n->X.eU i=true->i ∉ az->Walk X.P true (nj X f (az++ [i])) M (Ad2 g (recvd true (X.val i) true)) w
theorem nj.at{X:Pm}{f:Nat}{az:List Nat}{M:aaa}{g:Abe}{w:Aa4}(h:nj X f az M g w):g.status=.running/\g.offers=none/\∃z,Adn X.P true g w=.comm g #[rcase X.cN z] true (.recv true) w #[]/\X.End az M (Ad2 g (recvd true z false)) w:=by
 cases f with
 |zero=>exact h
 |succ f=>obtain⟨a,b,z,c,d,_⟩:=h;exact⟨a,b,z,c,d⟩
def StopA(X:Pm):Nat->aaa->Abe->Aa4->Prop
 |0=>fun M g w=>g.status=.running/\∃cg child,Adn X.P true g w=.spawn cg child w #[]/\cg.status=.running/\child.status=.running/\Walk X.P false (pW X X.n) M.shared child w/\Walk X.P true (nj X X.n []) M.shared cg w
 |r+1=>fun M g w=>g.status=.running/\∃cg child,Adn X.P true g w=.spawn cg child w #[]/\cg.status=.running/\child.status=.running/\Walk X.P false (W1 X (X.n - (r+1))) M.shared child w/\Walk X.P true (StopA X r) M.shared cg w
inductive WS where
 |no|ku|iR|iz|iu|quit
 deriving DecidableEq
def WS.w:WS->Nat
 | .no=>6| .ku=>5| .iR=>4| .iz=>3| .iu=>2| .quit=>0
def WS.gD:WS->Bool
 | .iz| .iu| .quit=>true
 |_=>false
def WS.q(s:WS):Nat:=if s=.quit then 1 else 0
inductive MP where
 |spawn|walk(f:Nat)(az:List Nat) |db(f:Nat)(az:List Nat)
inductive CP where
 |no|walk(r:Nat) |db(r:Nat) |quit
def MP.w(n:Nat):MP->Nat
 | .spawn=>2 * n+3| .walk f _=>2 * f+2| .db f _=>2 * f+1
def CP.w(n:Nat):CP->Nat
 | .no=>2 * n+8| .walk r=>2 * r+5| .db r=>2 * r+4| .quit=>0
structure Gh where
 j:Nat
 st:Nat->WS
 mp:MP
 cp:CP
 act:Nat->Option lH
 q:Nat->Nat
 tr:Nat->Tree
def Gh.mu(X:Pm)(G:Gh):Nat:=G.mp.w X.n+G.cp.w X.n+sumTo X.n (fun i=>(G.st i).w)
def pV(x y:Abe):Prop:=x.frame=y.frame/\x.callers=y.callers/\x.dying=y.dying/\x.status=.running
def fM(X:Pm)(G:Gh)(x:Abe):Prop:=
 match G.mp with
 | .spawn=>∃M aL,G.act 0=some ⟨M,x,aL⟩/\x.status=.running/\sZ X.P true (StopA X (X.n - G.j)) (G.tr 0) M x aL
 | .walk f az=>∃M aL y,G.act 0=some ⟨M,y,aL⟩/\pV x y/\sZ X.P true (nj X f az) (G.tr 0) M y aL
 | .db f az=>∃M aL y z,G.act 0=some ⟨M,y,aL⟩/\x=Ad3 y #[rcase X.cN z] (.recv true)/\∀aa,bN M aL aa->nj X f az M y aa
def WSit(X:Pm)(G:Gh)(i:Nat)(x:Abe):Prop:=
 match G.st i with
 | .no=>False
 | .ku=>∃M aL,G.act (X.N0+i)=some ⟨M,x,aL⟩/\x.status=.running/\sZ X.P false (W1 X i) (G.tr (X.N0+i)) M x aL
 | .iR=>∃M aL y z,G.act (X.N0+i)=some ⟨M,y,aL⟩/\x=Ad3 y #[scase X.cN (X.val i) z] .send/\X.eU i=true/\Walk X.P false (W2 X) M (Ad2 y undef) aL
 | .iz=>∃M aL,G.act (X.N0+i)=some ⟨M,x,aL⟩/\x.status=.running/\sZ X.P false (W2 X) (G.tr (X.N0+i)) M x aL
 | .iu=>∃M aL y z,G.act (X.N0+i)=some ⟨M,y,aL⟩/\x=Ad3 y #[scase X.cL (.bool true) z] .send/\∃k,QuitsIn X.P k (Ad2 y undef)
 | .quit=>G.act (X.N0+i)=none/\QuitsIn X.P (G.q (X.N0+i)) x
def CSit(X:Pm)(G:Gh)(x:Abe):Prop:=
 match G.cp with
 | .no=>False
 | .walk r=>∃M aL,G.act (X.N0+X.n)=some ⟨M,x,aL⟩/\x.status=.running/\sZ X.P false (pW X r) (G.tr (X.N0+X.n)) M x aL
 | .db r=>∃r' M aL y z,r=r'+1/\G.act (X.N0+X.n)=some ⟨M,y,aL⟩/\x=Ad3 y #[rcase X.cL z] (.recv false)/\Walk X.P false (pW X r') M (Ad2 y (recvd false (.bool true) true)) aL
 | .quit=>G.act (X.N0+X.n)=none/\QuitsIn X.P (G.q (X.N0+X.n)) x
def Gh.closed(G:Gh):Bool:=match G.cp with
 | .quit=>true
 |_=>false
def CP.gC:CP->Bool
 | .no=>true
 |_=>false
def mY(X:Pm)(G:Gh):Prop:=
 match G.cp with
 | .no=>sumTo X.n (fun i=>(G.st i).q)=0
 | .walk r| .db r=>r+sumTo X.n (fun i=>(G.st i).q)=X.n
 | .quit=>sumTo X.n (fun i=>(G.st i).q)=X.n
def nf(X:Pm)(G:Gh):Prop:=
 match G.mp with
 | .spawn=>∀i,i<X.n->X.eU i=true->(G.st i).gD=false
 | .walk f az| .db f az=>az.Nodup/\f+az.length=X.n/\∀i,i∈az↔(i<X.n/\X.eU i=true/\(G.st i).gD=true)
structure Base(wb w:Aa4):Prop where
 size:wb.heap.size<=w.heap.size
 tape:w.tape=wb.tape
 os:w.os=wb.os
 out:w.output=wb.output
structure FI(X:Pm)(wb:Aa4)(gs:Array Abe)(w:Aa4)(t:Adx)(G:Gh):Prop where
 size:gs.size=X.N0+G.j+(if G.cp.gC then 0 else 1)
 n0:0<X.N0
 jn:G.j<=X.n
 jc:G.cp.gC=false->G.j=X.n
 mc:(∃f az,G.mp=.walk f az\/G.mp=.db f az)↔G.cp.gC=false
 uh:∀i,i<X.n->(G.st i=.no↔G.j<=i)
 main:∃x,gs[0]?=some x/\fM X G x
 wk:∀i,i<G.j->∃x,gs[X.N0+i]?=some x/\WSit X G i x
 cl:G.cp.gC=false->∃x,gs[X.N0+X.n]?=some x/\CSit X G x
 old:∀g x,0<g->g<X.N0->gs[g]?=some x->QuitsIn X.P (G.q g) x
 nN:∀g,0<g->g<X.N0->G.act g=none
 mw:∀g,gs.size<=g->G.act g=none
 cnt:mY X G
 az:nf X G
 mL:(∃f az,G.mp=.db f az)->∀i,i<X.n->G.st i≠ .iR
 vN:(∃r,G.cp=.db r)->∀i,i<X.n->G.st i≠ .iu
 yJ:(∃f az,G.mp=.db f az)->G.closed=false
 wt:WT X.cL X.cN w t G.act
 kU:∃s,w.heap[X.cL]?=some (.chan 0 #[] false s s false)
 kV:∃s,w.heap[X.cN]?=some (.chan 0 #[] G.closed s s false)
 neq:X.cL≠X.cN
 base:Base wb w
 vP:∀k a,Ady t k=some a->a.loc.isMemory=true->∀g,t.g? k=some g->g<X.N0->Knows t 0 k
 tj:∀k g,t.g? k=some g->g<gs.size
 kq:∀i,i<X.n->G.st i=.quit->sU t (X.N0+i) (X.N0+X.n)
 yI:G.closed=false->∀k a,Ady t k=some a->a.loc≠ .obj X.cN
 CN:G.closed=true->∃c z,t[c]?=some z/\z.act=.close X.cN/\z.g=X.N0+X.n/\∀k a,Ady t k=some a->∀g,t.g? k=some g->X.N0<=g->Before t k c
end Go.Sim
namespace Go.Sim
open Go Go.Conc
open Go.ConcN (sumTo upd sumTo_upd upd_ne upd_same sumTo_congr)
theorem XF(st:Nat->WS):∀n,sumTo n (fun i=>(st i).q)<=n
 |0=>Ac2 _
 |n+1=>by
  have:=XF st n;simp only[sumTo];have:(st n).q<=1:=by unfold WS.q;split<;>omega
  omega
theorem P6(st:Nat->WS):∀n,sumTo n (fun i=>(st i).q)=n->∀i,i<n->st i=.quit
 |0,_,i,hi=>by omega
 |n+1,h,i,hi=>by
  have h1:=XF st n;have h2:(st n).q<=1:=by unfold WS.q;split<;>omega
  simp only[sumTo] at h;by_cases e:i=n
  ·subst e
   have:(st i).q=1:=by omega
   unfold WS.q at this;split at this
   ·assumption
   ·omega
  ·exact P6 st n (by omega) i (by omega)
theorem al2(st:Nat->WS)(n:Nat)(h:sumTo n (fun i=>(st i).q)<n):∃i,i<n/\st i≠ .quit:=by
 apply Adh;intro hn;have eA:∀i,i<n->st i=.quit:=fun i hi=>Adh fun hq=>hn ⟨i,hi,hq⟩
 have:sumTo n (fun i=>(st i).q)=n:=by
  have key:∀m,m<=n->sumTo m (fun i=>(st i).q)=m:=by
   intro m;induction m with
   |zero=>intro _;rfl
   |succ m ih=>
    intro hm;simp only[sumTo];rw[ih (by omega),eA m (by omega)]
    simp[WS.q]
  exact key n (Ac2 _)
 omega
section
variable {X:Pm}{wb:Aa4}{gs:Array Abe}{w:Aa4}{t:Adx}{G:Gh}
theorem CP.aaP{G:Gh}(h:G.closed=true):G.cp.gC=false:=by
 unfold Gh.closed at h;unfold CP.gC;cases hc:G.cp<;>rw[hc] at h<;>simp_all
theorem FI.Gk(h:FI X wb gs w t G)(hc:G.closed=true):∀i,i<X.n->G.st i=.quit:=by
 have hq:=h.cnt;unfold mY at hq;unfold Gh.closed at hc;cases e:G.cp with
 |quit=>rw[e] at hq;exact P6 _ _ hq
 |_=>rw[e] at hc;cases hc
theorem FI.sI(h:FI X wb gs w t G){k:Nat}(hk:k<gs.size):k=0\/(0<k/\k<X.N0)\/(∃i,i<G.j/\k=X.N0+i)\/(k=X.N0+X.n/\G.cp.gC=false):=by
 have hs:=h.size;by_cases h0:k=0
 ·exact .inl h0
 by_cases h1:k<X.N0
 ·exact .inr (.inl ⟨by omega,h1⟩)
 by_cases h2:k<X.N0+G.j
 ·exact .inr (.inr (.inl ⟨k - X.N0,by omega,by omega⟩))
 ·right;right;right
  by_cases hc:G.cp.gC=true
  ·rw[hc] at hs;simp at hs;omega
  ·have hc:G.cp.gC=false:=by simpa using hc
   rw[hc] at hs;have:=h.jc hc;simp at hs;exact⟨by omega,hc⟩
theorem FI.V4(h:FI X wb gs w t G){i:Nat}(hi:i<X.n)(hs:G.st i≠ .no):i<G.j:=by
 apply Adh;intro hn;exact hs ((h.uh i hi).2 (by omega))
theorem FI.kinds(h:FI X wb gs w t G){k:Nat}{y:Abe}(hy:gs[k]?=some y):
 y.status=.running\/(∃n,QuitsIn X.P n y)\/(∃g z,G.closed=false/\y=Ad3 g #[rcase X.cN z] (.recv true))\/(∃g z,y=Ad3 g #[rcase X.cL z] (.recv false))\/
  (∃g v z,k≠0/\G.closed=false/\y=Ad3 g #[scase X.cN v z] .send)\/∃g v z,k≠0/\y=Ad3 g #[scase X.cL v z] .send:=by
 rcases h.sI (Aaf.1 hy).1 with rfl| ⟨h1,h2⟩ | ⟨i,hi,rfl⟩ | ⟨rfl,hc⟩
 ·obtain⟨x,hx,hs⟩:=h.main
  rw[hy] at hx;obtain rfl:=Ac5 hx;unfold fM at hs;cases e:G.mp with
  |spawn=>rw[e] at hs;obtain⟨M,aL,_,hr,_⟩:=hs;exact .inl hr
  |walk f az=>rw[e] at hs;obtain⟨M,aL,y',_,hr,_⟩:=hs;exact .inl hr.2.2.2
  |db f az=>rw[e] at hs;obtain⟨M,aL,y',z,_,hr,_⟩:=hs;exact .inr (.inr (.inl ⟨y',z,h.yJ ⟨f,az,e⟩,hr⟩))
 ·exact .inr (.inl ⟨_,h.old k y h1 h2 hy⟩)
 ·obtain⟨x,hx,hs⟩:=h.wk i hi
  rw[hy] at hx;obtain rfl:=Ac5 hx;have iM:X.N0+i≠0:=by have:=h.n0;omega
  have eL:∀s,G.st i=s->s≠ .quit->G.closed=false:=by
   intro s e hs;apply Adh;intro hc;have:=h.Gk (by simpa using hc) i (by have:=h.jn;omega)
   exact hs (e.symm.trans this)
  unfold WSit at hs;cases e:G.st i with
  |no=>rw[e] at hs;exact hs.elim
  |ku=>rw[e] at hs;obtain⟨M,aL,_,hr,_⟩:=hs;exact .inl hr
  |iR=>rw[e] at hs;obtain⟨M,aL,y',z,_,hr,_⟩:=hs;exact .inr (.inr (.inr (.inr (.inl ⟨y',_,z,iM,eL _ e (by simp),hr⟩))))
  |iz=>rw[e] at hs;obtain⟨M,aL,_,hr,_⟩:=hs;exact .inl hr
  |iu=>rw[e] at hs;obtain⟨M,aL,y',z,_,hr,_⟩:=hs;exact .inr (.inr (.inr (.inr (.inr ⟨y',_,z,iM,hr⟩))))
  |quit=>rw[e] at hs;exact .inr (.inl ⟨_,hs.2⟩)
 ·obtain⟨x,hx,hs⟩:=h.cl hc
  rw[hy] at hx;obtain rfl:=Ac5 hx;unfold CSit at hs;cases e:G.cp with
  |no=>rw[e] at hs;exact hs.elim
  |walk r=>rw[e] at hs;obtain⟨M,aL,_,hr,_⟩:=hs;exact .inl hr
  |db r=>rw[e] at hs;obtain⟨r',M,aL,y',z,_,_,hr,_⟩:=hs;exact .inr (.inr (.inr (.inl ⟨y',z,hr⟩)))
  |quit=>rw[e] at hs;exact .inr (.inl ⟨_,hs.2⟩)
theorem FI.awake(h:FI X wb gs w t G):∀g∈gs,Conc.awake g:=by
 intro y hy;obtain⟨k,hk,rfl⟩:=Ada.1 hy;rcases h.kinds (k:=k) (Adb hk) with e| ⟨n,e⟩ | ⟨g,z,_,e⟩ | ⟨g,z,e⟩ | ⟨g,v,z,_,_,e⟩ | ⟨g,v,z,_,e⟩
 ·exact awake_of (.inl e)
 ·exact awake_of (e.status.elim .inl fun x=>.inr (.inr x))
 all_goals rw[e];exact awake_of (.inr (.inl rfl))
theorem FI.woken(h:FI X wb gs w t G){k:Nat}{y:Abe}(hy:gs[k]?=some y){x x':Abe}{w':Aa4}(hL:∃s,w'.heap[X.cL]?=some (.chan 0 #[] false s s false))
 (hN:G.closed=false->∃s,w'.heap[X.cN]?=some (.chan 0 #[] false s s false)):Ad4 X.P x x' w' y=y:=by
 obtain⟨s,hL⟩:=hL;rcases h.kinds hy with e| ⟨n,e⟩ | ⟨g,z,hc,e⟩ | ⟨g,z,e⟩ | ⟨g,v,z,_,hc,e⟩ | ⟨g,v,z,_,e⟩
 ·exact woken_run e
 ·exact woken_quits e
 ·obtain⟨s',hN⟩:=hN hc
  rw[e];exact woken_recv_open _ _ hN
 ·rw[e];exact woken_recv_open _ _ hL
 ·obtain⟨s',hN⟩:=hN hc
  rw[e];exact woken_send_open _ _ hN
 ·rw[e];exact woken_send_open _ _ hL
theorem FI.alx(h:FI X wb gs w t G):∃(k:Nat) (y:Abe),gs[k]?=some y/\y.status=.running:=by
 obtain⟨x,hx,hs⟩:=h.main;unfold fM at hs;cases e:G.mp with
 |spawn=>rw[e] at hs;obtain⟨M,aL,_,hr,_⟩:=hs;exact⟨0,x,hx,hr⟩
 |walk f az=>rw[e] at hs;obtain⟨M,aL,y',_,hr,_⟩:=hs;exact⟨0,x,hx,hr.2.2.2⟩
 |db f az=>
  have eL:=h.yJ ⟨f,az,e⟩;have bj:=h.mc.1 ⟨f,az,.inr e⟩;obtain⟨y,hy,hc⟩:=h.cl bj;have de:=h.cnt;unfold CSit at hc;unfold mY at de;cases ec:G.cp with
  |no=>rw[ec] at bj;cases bj
  |quit=>unfold Gh.closed at eL;rw[ec] at eL;cases eL
  |walk r=>rw[ec] at hc;obtain⟨M,aL,_,hr,_⟩:=hc;exact⟨_,y,hy,hr⟩
  |db r=>
   rw[ec] at hc de;obtain⟨r',M,aL,y',z,DX,_⟩:=hc;simp only at de;obtain⟨i,hi,hq⟩:=al2 G.st X.n (by omega)
   have hj:=h.jc bj;obtain⟨x2,rT,dD⟩:=h.wk i (by omega)
   unfold WSit at dD;cases es:G.st i with
   |no=>rw[es] at dD;exact dD.elim
   |ku=>rw[es] at dD;obtain⟨M,aL,_,hr,_⟩:=dD;exact⟨_,x2,rT,hr⟩
   |iz=>rw[es] at dD;obtain⟨M,aL,_,hr,_⟩:=dD;exact⟨_,x2,rT,hr⟩
   |iR=>exact absurd es (h.mL ⟨f,az,e⟩ i hi)
   |iu=>exact absurd es (h.vN ⟨r,ec⟩ i hi)
   |quit=>exact absurd es hq
theorem FI.at(h:FI X wb gs w t G)(d:Nat):FI X wb gs (w.at d) t G:=
 ⟨h.size,h.n0,h.jn,h.jc,h.mc,h.uh,h.main,h.wk,h.cl,h.old,h.nN,h.mw,h.cnt,h.az,h.mL,h.vN,h.yJ,h.wt.at d,h.kU,h.kV,h.neq,⟨h.base.size,h.base.tape,h.base.os,h.base.out⟩,h.vP,h.tj,h.kq,h.yI,h.CN⟩
theorem TB(h:FI X wb gs w t G){x x':Abe}{w':Aa4}(hL:∃s,w'.heap[X.cL]?=some (.chan 0 #[] false s s false))
 (hN:G.closed=false->∃s,w'.heap[X.cN]?=some (.chan 0 #[] false s s false)){k i:Nat}(aw:i≠k):((gs.map (Ad4 X.P x x' w')).setIfInBounds k x')[i]?=gs[i]?:=by
 rw[Adc (Aei aw),Ade]
 cases e:gs[i]? with
 |none=>rfl
 |some y=>rw[Option.map_some,h.woken e hL hN]
theorem Mn{f:Abe->Abe}{k:Nat}(hk:k<gs.size)(x':Abe):((gs.map f).setIfInBounds k x')[k]?=some x':=by
 simp[hk]
def Rp(X:Pm)(G:Gh)(k:Nat)(x:Abe):Prop:=
 (k=0/\fM X G x)\/(∃i,i<G.j/\k=X.N0+i/\WSit X G i x)\/(k=X.N0+X.n/\G.cp.gC=false/\CSit X G x)
theorem FI.own(h:FI X wb gs w t G){k:Nat}{x g':Abe}{j:lH}{w':Aa4}{es:Array Aa5}(hk:gs[k]?=some x)(ot:G.act k=some j)(hd:eO j.M w w' es)(T':Tree)(fn:FuncId)(pos:String)
 (qF:Rp X {G with act:=eW G.act k (some ⟨j.M.grow w w',g',w'⟩),tr:=upd G.tr k T'} k g'):
 FI X wb ((gs.map (Ad4 X.P x g' w')).setIfInBounds k g') w' (t++Ad9 k fn pos es) {G with act:=eW G.act k (some ⟨j.M.grow w w',g',w'⟩),tr:=upd G.tr k T'}:=by
 have al:k<gs.size:=(Aaf.1 hk).1
 have Hf:∃s,w'.heap[X.cL]?=some (.chan 0 #[] false s s false):=by
  obtain⟨s,e⟩:=h.kU;exact⟨s,by rw[hd.kept X.cL h.wt.hL fun hO=>(h.wt.low k j ot _ (.inl hO)).2.1 rfl];exact e⟩
 have xJ:∃s,w'.heap[X.cN]?=some (.chan 0 #[] G.closed s s false):=by
  obtain⟨s,e⟩:=h.kV;exact⟨s,by rw[hd.kept X.cN h.wt.hN fun hO=>(h.wt.low k j ot _ (.inl hO)).2.2 rfl];exact e⟩
 have M5:G.closed=false->∃s,w'.heap[X.cN]?=some (.chan 0 #[] false s s false):=fun e=>by rw[e] at xJ;exact xJ
 have th:∀ {i},i≠k->((gs.map (Ad4 X.P x g' w')).setIfInBounds k g')[i]?=gs[i]?:=fun aw=>TB h Hf M5 aw
 have xt:((gs.map (Ad4 X.P x g' w')).setIfInBounds k g')[k]?=some g':=Mn al g';have aI:((gs.map (Ad4 X.P x g' w')).setIfInBounds k g').size=gs.size:=by simp
 have Nv:¬ (0<k/\k<X.N0):=fun⟨a,b⟩=>by rw[h.nN k a b] at ot;cases ot
 have U7:∀i,i<X.n->G.st i=.quit->X.N0+i≠k:=by
  intro i hi hq e;obtain⟨y,_,hs⟩:=h.wk i (h.V4 hi (by rw[hq];simp))
  unfold WSit at hs;rw[hq] at hs;rw[<-e,hs.1] at ot;cases ot
 have ops:∀op∈Ad9 k fn pos es,∃e∈es,op={g:=k,fn,pos,act:=.ofEvent e}:=fun op ab=>Go.Conc.mem_ofEvents ab
 have Qc:∀ {i a},Ady (t++Ad9 k fn pos es) i=some a->(i<t.size/\Ady t i=some a/\(t++Ad9 k fn pos es).g? i= t.g? i)\/((t++Ad9 k fn pos es).g? i=some k/\∃b,rh a.loc b/\(j.M.grow w w').has b/\Knows (t++Ad9 k fn pos es) k i):=by
  intro i a ha;obtain⟨op,ab,cB⟩:=Adz ha;rcases Ad0 ab with⟨hi,bG⟩ | ⟨_,dN⟩
  ·exact .inl ⟨hi,by rw[Ad1 bG];exact cB,by simp[Trace.g?,ab,bG]⟩
  ·obtain⟨e,he,rfl⟩:=ops op dN
   obtain⟨b,b1,b2,_,_⟩:=P9 (hd.ev e he) cB;exact .inr ⟨by simp[Trace.g?,ab],b,b1,b2,knows_own ab⟩
 have gN:∀b,(j.M.grow w w').has b->b≠X.cN:=by
  intro b hb;rcases hb with(hb|hb) |hb
  ·exact(h.wt.low k j ot b (.inl hb)).2.2
  ·have:=h.wt.hN;omega
  ·exact(h.wt.low k j ot b (.inr hb)).2.2
 refine⟨aI.trans h.size,h.n0,h.jn,h.jc,h.mc,h.uh,?_,fun i hi=>?_,fun hc=>?_,fun g y h1 h2 hy=>?_,fun g h1 h2=>?_,fun g hg=>?_,h.cnt,h.az,h.mL,h.vN,h.yJ,h.wt.own ot hd fn pos,Hf,xJ,h.neq,
  ⟨Ac3 h.base.size hd.size,hd.tape.trans h.base.tape,hd.os.trans h.base.os,hd.out.trans h.base.out⟩,fun i a ha hm g hg jW=>?_,fun i g hg=>?_,fun i hi hq=>?_,fun hc i a ha=>?_,fun hc=>?_⟩
 ·by_cases e:k=0
  ·subst e
   rcases qF with⟨_,hs⟩ | ⟨i,_,e,_⟩ | ⟨e,_⟩
   ·exact⟨g',xt,hs⟩
   ·have:=h.n0;omega
   ·have:=h.n0;omega
  ·obtain⟨y,hy,hs⟩:=h.main
   refine⟨y,by rw[th (Aei e)];exact hy,?_⟩
   simp only[fM,bP _ _ (Aei e),upd_ne _ _ (Aei e)];exact hs
 ·by_cases e:k=X.N0+i
  ·subst e
   rcases qF with⟨e,_⟩ | ⟨i',_,e,hs⟩ | ⟨e,hc,_⟩
   ·have:=h.n0;omega
   ·obtain rfl:i'=i:=by omega
    exact⟨g',xt,hs⟩
   ·have:=h.jn
    have vm:i<G.j:=hi;omega
  ·obtain⟨y,hy,hs⟩:=h.wk i hi
   refine⟨y,by rw[th (Aei e)];exact hy,?_⟩
   simp only[WSit,bP _ _ (Aei e),upd_ne _ _ (Aei e)];exact hs
 ·by_cases e:k=X.N0+X.n
  ·subst e
   rcases qF with⟨e,_⟩ | ⟨i',bu,e,hs⟩ | ⟨_,_,hs⟩
   ·have:=h.n0;omega
   ·have:=h.jn;simp only at bu;omega
   ·exact⟨g',xt,hs⟩
  ·obtain⟨y,hy,hs⟩:=h.cl hc
   refine⟨y,by rw[th (Aei e)];exact hy,?_⟩
   simp only[CSit,bP _ _ (Aei e),upd_ne _ _ (Aei e)];exact hs
 ·have e:g≠k:=fun e=>Nv ⟨by omega,by omega⟩
  rw[th e] at hy;exact h.old g y h1 h2 hy
 ·have e:g≠k:=fun e=>Nv ⟨by omega,by omega⟩
  simp only[bP _ _ e];exact h.nN g h1 h2
 ·rw[aI] at hg
  simp only[bP _ _ (show g≠k by omega)]
  exact h.mw g hg
 ·rcases Qc ha with⟨_,h1,h2⟩ | ⟨h1,_,_,_,h2⟩
  ·rw[h2] at hg
   exact(h.vP i a h1 hm g hg jW).app _
  ·rw[h1] at hg
   obtain rfl:=Ac5 hg;obtain rfl:k=0:=by
    apply Adh;intro h0;exact Nv ⟨by omega,jW⟩
   exact h2
 ·rw[aI]
  unfold Trace.g? at hg;obtain⟨op,ab,e⟩:=Aej.1 hg;rcases Ad0 ab with⟨_,bG⟩ | ⟨_,dN⟩
  ·exact h.tj i g (by simp[Trace.g?,bG,e])
  ·obtain⟨_,_,rfl⟩:=ops op dN
   simp only at e;omega
 ·refine(h.kq i hi hq).app fun op ab e=>?_
  obtain⟨_,_,rfl⟩:=ops op ab;exact absurd e.symm (U7 i hi hq)
 ·rcases Qc ha with⟨_,h1,_⟩ | ⟨_,b,h1,h2,_⟩
  ·exact h.yI hc i a h1
  ·intro e
   have:rh a.loc X.cN:=.inl e;obtain rfl:=OP h1 this;exact gN _ h2 rfl
 ·obtain⟨c,z,c1,c2,c3,c4⟩:=h.CN hc
  refine⟨c,z,by rw[getElem?_append_old (lt_size_of_getElem? c1)];exact c1,c2,c3,fun i a ha g hg jU=>?_⟩
  rcases Qc ha with⟨_,h1,h2⟩ | ⟨h1,_⟩
  ·rw[h2] at hg
   exact(c4 i a h1 g hg jU).app _
  ·exfalso
   rw[h1] at hg;obtain rfl:=Ac5 hg;rcases h.sI al with e|e| ⟨i',bu,e⟩ | ⟨e,hn⟩
   ·have:=h.n0;omega
   ·omega
   ·exact U7 i' (by have:=h.jn;omega) (h.Gk hc i' (by have:=h.jn;omega)) e.symm
   ·obtain⟨y,_,hs⟩:=h.cl hn
    unfold CSit at hs;unfold Gh.closed at hc;cases ec:G.cp with
    |quit=>rw[ec] at hs;rw[e,hs.1] at ot;cases ot
    |_=>rw[ec] at hc;cases hc
theorem FI.ajL(h:FI X wb gs w t G){k m:Nat}{x g':Abe}(hk:gs[k]?=some x)(qF:(0<k/\k<X.N0)\/(∃i,i<G.j/\k=X.N0+i/\G.st i=.quit)\/(k=X.N0+X.n/\G.closed=true))(hq:QuitsIn X.P m g'):
 FI X wb ((gs.map (Ad4 X.P x g' w)).setIfInBounds k g') w t {G with q:=upd G.q k m}:=by
 have al:k<gs.size:=(Aaf.1 hk).1
 have M5:G.closed=false->∃s,w.heap[X.cN]?=some (.chan 0 #[] false s s false):=fun e=>by have:=h.kV;rw[e] at this;exact this
 have th:∀ {i},i≠k->((gs.map (Ad4 X.P x g' w)).setIfInBounds k g')[i]?=gs[i]?:=fun aw=>TB h h.kU M5 aw
 have xt:((gs.map (Ad4 X.P x g' w)).setIfInBounds k g')[k]?=some g':=Mn al g';have aI:((gs.map (Ad4 X.P x g' w)).setIfInBounds k g').size=gs.size:=by simp
 have jX:=h.n0;have rG:=h.jn;have iM:k≠0:=by rcases qF with e| ⟨i,_,e,_⟩ | ⟨e,_⟩<;>omega
 refine⟨aI.trans h.size,h.n0,h.jn,h.jc,h.mc,h.uh,?_,fun i hi=>?_,fun hc=>?_,fun g y h1 h2 hy=>?_,h.nN,fun g hg=>h.mw g (by rw[aI] at hg;exact hg),h.cnt,h.az,h.mL,h.vN,h.yJ,h.wt,h.kU,h.kV,h.neq,h.base,h.vP,fun i g hg=>by rw[aI];exact h.tj i g hg,h.kq,h.yI,h.CN⟩
 ·obtain⟨y,hy,hs⟩:=h.main
  exact⟨y,by rw[th (Aei iM)];exact hy,hs⟩
 ·by_cases e:k=X.N0+i
  ·subst e
   rcases qF with e| ⟨i',_,e,aQ⟩ | ⟨e,_⟩
   ·omega
   ·obtain rfl:i'=i:=by omega
    refine⟨g',xt,?_⟩
    obtain⟨y,_,hs⟩:=h.wk i' hi;unfold WSit at hs |-
    simp only;rw[aQ] at hs |-
    exact⟨hs.1,by simp only[upd_same];exact hq⟩
   ·have vm:i<G.j:=hi
    omega
  ·obtain⟨y,hy,hs⟩:=h.wk i hi
   refine⟨y,by rw[th (Aei e)];exact hy,?_⟩
   simp only[WSit,upd_ne _ _ (Aei e)];exact hs
 ·by_cases e:k=X.N0+X.n
  ·subst e
   rcases qF with e| ⟨i',bu,e,_⟩ | ⟨_,fY⟩
   ·omega
   ·have vm:i'<G.j:=bu
    omega
   ·refine⟨g',xt,?_⟩
    obtain⟨y,_,hs⟩:=h.cl hc;unfold Gh.closed at fY;cases ec:G.cp with
    |quit=>
     unfold CSit at hs |-
     simp only;rw[ec] at hs;exact⟨hs.1,by simp only[upd_same];exact hq⟩
    |_=>rw[ec] at fY;cases fY
  ·obtain⟨y,hy,hs⟩:=h.cl hc
   refine⟨y,by rw[th (Aei e)];exact hy,?_⟩
   simp only[CSit,upd_ne _ _ (Aei e)];exact hs
 ·by_cases e:g=k
  ·subst e
   rw[xt] at hy;obtain rfl:=Ac5 hy;simp only[upd_same];exact hq
  ·rw[th e] at hy
   simp only[upd_ne _ _ e];exact h.old g y h1 h2 hy
end
end Go.Sim
