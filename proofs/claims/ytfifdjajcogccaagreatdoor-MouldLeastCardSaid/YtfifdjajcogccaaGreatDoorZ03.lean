import Derived.Test.YtfifdjajcogccaaGreatDoorZ02
import Derived.Test.YtfifdjajcogccaaGreatDoorZ01
import Derived.Orders
import Derived.Test.YtfifdjajcogccaaGreatDoorProg
import Derived.Tactics2
set_option linter.all false
set_option maxHeartbeats 64000000
set_option maxRecDepth 20000
open Array renaming getElem?_eq_some_iff -> Aaf, getElem?_eq_none -> Aan, getElem?_setIfInBounds_ne -> Adc, size_setIfInBounds -> Aek, empty_append -> Ael, append_empty -> Aag, getElem?_push -> Aah, size_push -> Aem, mem_append -> Aad, getElem?_map -> Ade, getElem?_eq_getElem -> Adb, getElem?_append_right -> Adf, getElem?_of_mem -> Aen, replicate -> Aeo, getElem?_setIfInBounds -> Aai, getElem?_mapIdx -> Aep, map_empty -> Aeq, push_eq_append -> Aae
open Bool renaming false_eq_true -> Aaw
open Classical renaming byContradiction -> Adh, choose -> Adi, choose_spec -> Adj
open Go renaming Goroutine -> Abe, CommShape -> Aer, World -> Aa4, Trace -> Adx, partners -> Aes, stepG -> Adn, runNT -> Aet, Program -> Aa6, Frame -> Abd, Deferred -> Aa3, FuncId -> Aaz, CallKind -> Aeu, Oper -> Aev, Operand -> Abc, yielded -> Aew, goexitEntry -> Aex, TypeId -> Aa1
open Go.Conc renaming parked -> Ad3, served -> Ad2, scase -> Aey, rcase -> Aez, offersAt -> Ae0, offersAt_of_not_blocked -> Ae1, offersAt_parked_recv -> Ae2, offersAt_parked_send' -> Ae3, offersAt_parked_recv' -> Ae4, offersAt_parked_send -> Ae5, touchAt -> Ady, touch_of -> Adz, getElem?_append_cases -> Ad0, touchAt_of -> Ad1, lt_size_of_getElem? -> Ae6, getElem?_stand -> Ae7, offersAt_ph -> Ae8, partners_nil -> Ae9, crowd -> Afa, recvd -> Afb, crowd_waits -> Afc, stepG_same -> Afd, runT_crowd_go -> Afe, woken -> Ad4
open Go.Frame renaming eval -> Ad5, oper? -> Aff, finish -> Afg, enter -> Afh
open Go.GStep renaming after -> Abr
open Go.Region renaming wanted -> Afi, ready -> Afj, schedule -> Afk
open Go.Region.linearise renaming go -> Afl
open Go.Sem renaming bind -> Acz, runT -> Acy, pure -> Afm, run_bind -> Afn, run_pure -> Afo
open Go.Trace renaming g? -> Afp
open Go.stepG renaming exec -> Aec, oper -> Afq, apply -> Aed
open List renaming mem_toArray -> Aee, mem_cons -> Aef, not_mem_nil -> Aeg, length_singleton -> Afr, mem_singleton -> Afs, mem_append -> Aft
open Nat renaming le_refl -> Ac2
open Ne renaming symm -> Aei
open Option renaming map_eq_some_iff -> Aej, map_some -> Afu, getD_some -> Afv, isNone_some -> Afw
open Option.some renaming inj -> Ac5
namespace Go.Sim
open Go Go.Conc
open Go.ConcN (sumTo upd sumTo_upd upd_ne upd_same sumTo_congr)
theorem Ba:∀(n:Nat) (l:List Nat),l.Nodup->(∀x∈l,x<n)->l.length<=n
 |0,l,_,h=>by
  cases l with
  |nil=>exact Ac2 _
  |cons a l=>exact absurd (h a (by simp)) (by omega)
 |n+1,l,hn,h=>by
  by_cases hm:n∈l
  ·have h1:=Ba n (l.erase n) (hn.erase n) fun x hx=>by
    have h2:=(List.Nodup.mem_erase_iff hn).1 hx;have:=h x h2.2;have:=h2.1;omega
   rw[List.length_erase_of_mem hm] at h1;omega
  ·have:=Ba n l hn fun x hx=>by
    have h2:=h x hx;have:x≠n:=fun e=>hm (e▸hx)
    omega
   omega
theorem oI{a b:Abe}{c c':Array CommCase}{s s':Aer}(h:Ad3 a c s=Ad3 b c' s'):c=c'/\s=s'/\∀v,Ad2 a v=Ad2 b v:=by
 obtain⟨f1,k1,s1,d1,o1⟩:=a;obtain⟨f2,k2,s2,d2,o2⟩:=b;simp only[Ad3,Goroutine.mk.injEq,Option.some.injEq,Prod.mk.injEq] at h;obtain⟨h1,h2,_,h4,h5,h6⟩:=h;subst h1 h2 h4;exact⟨h5,h6,fun v=>rfl⟩
theorem ll{a b:Abe}{c:Array CommCase}{s:Aer}(h:Ad3 a c s=b)(hb:b.status=.running):False:=by
 rw[<-h] at hb;cases hb
theorem I8{c c':Nat}{v v' z z':Value}(h:#[Aey c v z]=#[Aey c' v' z']):c=c'/\v=v':=by
 simp[Aey] at h;exact⟨h.1,h.2.1⟩
theorem ajN{c c':Nat}{z z':Value}(h:#[Aez c z]=#[Aez c' z']):c=c':=by
 simp[Aez] at h;exact h.1
theorem vM{c c':Nat}{v z z':Value}(h:#[Aey c v z]=#[Aez c' z']):False:=by simp[Aey,Aez] at h
section
variable {X:Pm}{wb:Aa4}{gs:Array Abe}{w:Aa4}{t:Adx}{G:Gh}
theorem FI.Lt(h:FI X wb gs w t G){k:Nat}{g:Abe}{v z:Value}{sh:Aer}(hk:gs[k]?=some (Ad3 g #[Aey X.cN v z] sh)):
 ∃i M aL y,i<G.j/\k=X.N0+i/\G.st i=.iR/\v=X.val i/\sh=.send/\X.eU i=true/\G.act k=some ⟨M,y,aL⟩/\(∀v,Ad2 g v=Ad2 y v)/\Walk X.P false (W2 X) M (Ad2 y undef) aL:=by
 have aw:=h.neq;rcases h.sI (Aaf.1 hk).1 with rfl| ⟨h1,h2⟩ | ⟨i,hi,rfl⟩ | ⟨rfl,hc⟩
 ·obtain⟨x,hx,hs⟩:=h.main
  rw[hk] at hx;have hx:=(Ac5 hx);unfold fM at hs;cases e:G.mp with
  |spawn=>rw[e] at hs;obtain⟨M,aL,_,hr,_⟩:=hs;exact(ll hx hr).elim
  |walk f az=>rw[e] at hs;obtain⟨M,aL,y',_,hr,_⟩:=hs;exact(ll hx hr.2.2.2).elim
  |db f az=>
   rw[e] at hs;obtain⟨M,aL,y',z',_,hr,_⟩:=hs;rw[hr] at hx;exact(vM (oI hx).1).elim
 ·have:=h.old k _ h1 h2 hk
  exact(this.status.elim (fun e=>by cases e) fun e=>by cases e)
 ·obtain⟨x,hx,hs⟩:=h.wk i hi
  rw[hk] at hx;have hx:=(Ac5 hx);unfold WSit at hs;cases e:G.st i with
  |no=>rw[e] at hs;exact hs.elim
  |ku=>rw[e] at hs;obtain⟨M,aL,_,hr,_⟩:=hs;exact(ll hx hr).elim
  |iz=>rw[e] at hs;obtain⟨M,aL,_,hr,_⟩:=hs;exact(ll hx hr).elim
  |iR=>
   rw[e] at hs;obtain⟨M,aL,y',z',ha,hr,hn,hw⟩:=hs;rw[hr] at hx;obtain⟨e1,e2,e3⟩:=oI hx;exact⟨i,M,aL,y',hi,rfl,e,(I8 e1).2,e2,hn,ha,e3,hw⟩
  |iu=>
   rw[e] at hs;obtain⟨M,aL,y',z',ha,hr,hw⟩:=hs;rw[hr] at hx;exact absurd (I8 (oI hx).1).1 (Aei aw)
  |quit=>
   rw[e] at hs;rw[<-hx] at hs;exact(hs.2.status.elim (fun e=>by cases e) fun e=>by cases e)
 ·obtain⟨x,hx,hs⟩:=h.cl hc
  rw[hk] at hx;have hx:=(Ac5 hx);unfold CSit at hs;cases e:G.cp with
  |no=>rw[e] at hs;exact hs.elim
  |walk r=>rw[e] at hs;obtain⟨M,aL,_,hr,_⟩:=hs;exact(ll hx hr).elim
  |db r=>
   rw[e] at hs;obtain⟨r',M,aL,y',z',_,_,hr,_⟩:=hs;rw[hr] at hx;exact(vM (oI hx).1).elim
  |quit=>
   rw[e] at hs;rw[<-hx] at hs;exact(hs.2.status.elim (fun e=>by cases e) fun e=>by cases e)
theorem FI.RD(h:FI X wb gs w t G){k:Nat}{g:Abe}{v z:Value}{sh:Aer}(hk:gs[k]?=some (Ad3 g #[Aey X.cL v z] sh)):
 ∃i M aL y,i<G.j/\k=X.N0+i/\G.st i=.iu/\v=.bool true/\sh=.send/\G.act k=some ⟨M,y,aL⟩/\(∀v,Ad2 g v=Ad2 y v)/\∃m,QuitsIn X.P m (Ad2 y undef):=by
 have aw:=h.neq;rcases h.sI (Aaf.1 hk).1 with rfl| ⟨h1,h2⟩ | ⟨i,hi,rfl⟩ | ⟨rfl,hc⟩
 ·obtain⟨x,hx,hs⟩:=h.main
  rw[hk] at hx;have hx:=(Ac5 hx);unfold fM at hs;cases e:G.mp with
  |spawn=>rw[e] at hs;obtain⟨M,aL,_,hr,_⟩:=hs;exact(ll hx hr).elim
  |walk f az=>rw[e] at hs;obtain⟨M,aL,y',_,hr,_⟩:=hs;exact(ll hx hr.2.2.2).elim
  |db f az=>
   rw[e] at hs;obtain⟨M,aL,y',z',_,hr,_⟩:=hs;rw[hr] at hx;exact(vM (oI hx).1).elim
 ·have:=h.old k _ h1 h2 hk
  exact(this.status.elim (fun e=>by cases e) fun e=>by cases e)
 ·obtain⟨x,hx,hs⟩:=h.wk i hi
  rw[hk] at hx;have hx:=(Ac5 hx);unfold WSit at hs;cases e:G.st i with
  |no=>rw[e] at hs;exact hs.elim
  |ku=>rw[e] at hs;obtain⟨M,aL,_,hr,_⟩:=hs;exact(ll hx hr).elim
  |iz=>rw[e] at hs;obtain⟨M,aL,_,hr,_⟩:=hs;exact(ll hx hr).elim
  |iR=>
   rw[e] at hs;obtain⟨M,aL,y',z',ha,hr,hn,hw⟩:=hs;rw[hr] at hx;exact absurd (I8 (oI hx).1).1 aw
  |iu=>
   rw[e] at hs;obtain⟨M,aL,y',z',ha,hr,hw⟩:=hs;rw[hr] at hx;obtain⟨e1,e2,e3⟩:=oI hx;exact⟨i,M,aL,y',hi,rfl,e,(I8 e1).2,e2,ha,e3,hw⟩
  |quit=>
   rw[e] at hs;rw[<-hx] at hs;exact(hs.2.status.elim (fun e=>by cases e) fun e=>by cases e)
 ·obtain⟨x,hx,hs⟩:=h.cl hc
  rw[hk] at hx;have hx:=(Ac5 hx);unfold CSit at hs;cases e:G.cp with
  |no=>rw[e] at hs;exact hs.elim
  |walk r=>rw[e] at hs;obtain⟨M,aL,_,hr,_⟩:=hs;exact(ll hx hr).elim
  |db r=>
   rw[e] at hs;obtain⟨r',M,aL,y',z',_,_,hr,_⟩:=hs;rw[hr] at hx;exact(vM (oI hx).1).elim
  |quit=>
   rw[e] at hs;rw[<-hx] at hs;exact(hs.2.status.elim (fun e=>by cases e) fun e=>by cases e)
theorem Wm(h:FI X wb gs w t G){k:Nat}{y:Abe}(hy:gs[k]?=some y)(aw:Ae0 y X.cN false≠ []):k=0/\∃f az,G.mp=.db f az:=by
 have qy:=h.neq;rcases h.sI (Aaf.1 hy).1 with rfl| ⟨h1,h2⟩ | ⟨i,hi,rfl⟩ | ⟨rfl,hc⟩
 ·refine⟨rfl,?_⟩
  obtain⟨x,hx,hs⟩:=h.main;rw[hy] at hx;obtain rfl:=Ac5 hx;unfold fM at hs;cases e:G.mp with
  |spawn=>rw[e] at hs;obtain⟨M,aL,_,hr,_⟩:=hs;exact absurd (Ae1 (by rw[hr];simp) _ _) aw
  |walk f az=>rw[e] at hs;obtain⟨M,aL,y',_,hr,_⟩:=hs;exact absurd (Ae1 (by rw[hr.2.2.2];simp) _ _) aw
  |db f az=>exact⟨f,az,rfl⟩
 ·have:=h.old k _ h1 h2 hy
  exact absurd (Ae1 (by rcases this.status with e|e<;>rw[e]<;>simp) _ _) aw
 ·exfalso
  rcases h.kinds hy with e| ⟨n,e⟩ | ⟨g,z,_,e⟩ | ⟨g,z,e⟩ | ⟨g,v,z,_,_,e⟩ | ⟨g,v,z,_,e⟩
  ·exact aw (Ae1 (by rw[e];simp) _ _)
  ·exact aw (Ae1 (by rcases e.status with e|e<;>rw[e]<;>simp) _ _)
  ·
   obtain⟨x,hx,hs⟩:=h.wk i hi;rw[hy] at hx;obtain rfl:=Ac5 hx;unfold WSit at hs;cases es:G.st i with
   |no=>rw[es] at hs;exact hs.elim
   |ku=>rw[es] at hs;obtain⟨M,aL,_,hr,_⟩:=hs;exact ll e.symm hr
   |iz=>rw[es] at hs;obtain⟨M,aL,_,hr,_⟩:=hs;exact ll e.symm hr
   |iR=>rw[es] at hs;obtain⟨M,aL,y',z',_,hr,_⟩:=hs;rw[hr] at e;exact vM (oI e).1
   |iu=>rw[es] at hs;obtain⟨M,aL,y',z',_,hr,_⟩:=hs;rw[hr] at e;exact vM (oI e).1
   |quit=>rw[es] at hs;rw[e] at hs;exact(hs.2.status.elim (fun e=>by cases e) fun e=>by cases e)
  ·rw[e,Ae2,if_neg qy] at aw;exact aw rfl
  ·rw[e,Ae3] at aw;exact aw rfl
  ·rw[e,Ae3] at aw;exact aw rfl
 ·exfalso
  obtain⟨x,hx,hs⟩:=h.cl hc;rw[hy] at hx;obtain rfl:=Ac5 hx;unfold CSit at hs;cases e:G.cp with
  |no=>rw[e] at hs;exact hs.elim
  |walk r=>rw[e] at hs;obtain⟨M,aL,_,hr,_⟩:=hs;exact aw (Ae1 (by rw[hr];simp) _ _)
  |db r=>
   rw[e] at hs;obtain⟨r',M,aL,y',z',_,_,hr,_⟩:=hs;rw[hr,Ae2,if_neg qy] at aw;exact aw rfl
  |quit=>rw[e] at hs;exact aw (Ae1 (by rcases hs.2.status with e|e<;>rw[e]<;>simp) _ _)
theorem Wl(h:FI X wb gs w t G){k:Nat}{y:Abe}(hy:gs[k]?=some y)(aw:Ae0 y X.cL false≠ []):k=X.N0+X.n/\∃r,G.cp=.db r:=by
 have qy:=h.neq;rcases h.kinds hy with e| ⟨n,e⟩ | ⟨g,z,_,e⟩ | ⟨g,z,e⟩ | ⟨g,v,z,_,_,e⟩ | ⟨g,v,z,_,e⟩
 ·exact absurd (Ae1 (by rw[e];simp) _ _) aw
 ·exact absurd (Ae1 (by rcases e.status with e|e<;>rw[e]<;>simp) _ _) aw
 ·rw[e,Ae2,if_neg (Aei qy)] at aw;exact absurd rfl aw
 ·rcases h.sI (Aaf.1 hy).1 with rfl| ⟨h1,h2⟩ | ⟨i,hi,rfl⟩ | ⟨rfl,hc⟩
  ·exfalso
   obtain⟨x,hx,hs⟩:=h.main;rw[hy] at hx;obtain rfl:=Ac5 hx;unfold fM at hs;cases em:G.mp with
   |spawn=>rw[em] at hs;obtain⟨M,aL,_,hr,_⟩:=hs;exact ll e.symm hr
   |walk f az=>rw[em] at hs;obtain⟨M,aL,y',_,hr,_⟩:=hs;exact ll e.symm hr.2.2.2
   |db f az=>
    rw[em] at hs;obtain⟨M,aL,y',z',_,hr,_⟩:=hs;rw[hr] at e;exact qy (ajN (oI e).1).symm
  ·exfalso
   have:=h.old k _ h1 h2 hy;rw[e] at this;exact(this.status.elim (fun e=>by cases e) fun e=>by cases e)
  ·exfalso
   obtain⟨x,hx,hs⟩:=h.wk i hi;rw[hy] at hx;obtain rfl:=Ac5 hx;unfold WSit at hs;cases es:G.st i with
   |no=>rw[es] at hs;exact hs.elim
   |ku=>rw[es] at hs;obtain⟨M,aL,_,hr,_⟩:=hs;exact ll e.symm hr
   |iz=>rw[es] at hs;obtain⟨M,aL,_,hr,_⟩:=hs;exact ll e.symm hr
   |iR=>rw[es] at hs;obtain⟨M,aL,y',z',_,hr,_⟩:=hs;rw[hr] at e;exact vM (oI e).1
   |iu=>rw[es] at hs;obtain⟨M,aL,y',z',_,hr,_⟩:=hs;rw[hr] at e;exact vM (oI e).1
   |quit=>rw[es] at hs;rw[e] at hs;exact(hs.2.status.elim (fun e=>by cases e) fun e=>by cases e)
  ·refine⟨rfl,?_⟩
   obtain⟨x,hx,hs⟩:=h.cl hc;rw[hy] at hx;obtain rfl:=Ac5 hx;unfold CSit at hs;cases ec:G.cp with
   |no=>rw[ec] at hs;exact hs.elim
   |walk r=>rw[ec] at hs;obtain⟨M,aL,_,hr,_⟩:=hs;exact(ll e.symm hr).elim
   |db r=>exact⟨r,rfl⟩
   |quit=>rw[ec] at hs;rw[e] at hs;exact(hs.2.status.elim (fun e=>by cases e) fun e=>by cases e)
 ·rw[e,Ae3] at aw;exact absurd rfl aw
 ·rw[e,Ae3] at aw;exact absurd rfl aw
theorem O6(h:FI X wb gs w t G){k m:Nat}{y:Abe}(hy:gs[k]?=some y)(aw:m∈Ae0 y X.cN true):m=0/\∃g v z,y=Ad3 g #[Aey X.cN v z] .send:=by
 have qy:=h.neq;rcases h.kinds hy with e| ⟨n,e⟩ | ⟨g,z,_,e⟩ | ⟨g,z,e⟩ | ⟨g,v,z,_,_,e⟩ | ⟨g,v,z,_,e⟩
 ·rw[Ae1 (by rw[e];simp)] at aw;cases aw
 ·rw[Ae1 (by rcases e.status with e|e<;>rw[e]<;>simp)] at aw;cases aw
 ·rw[e,Ae4] at aw;cases aw
 ·rw[e,Ae4] at aw;cases aw
 ·rw[e,Ae5,if_pos rfl] at aw
  exact⟨by simpa using aw,g,v,z,e⟩
 ·rw[e,Ae5,if_neg qy] at aw;cases aw
theorem Wn(h:FI X wb gs w t G){k m:Nat}{y:Abe}(hy:gs[k]?=some y)(aw:m∈Ae0 y X.cL true):m=0/\∃g v z,y=Ad3 g #[Aey X.cL v z] .send:=by
 have qy:=h.neq;rcases h.kinds hy with e| ⟨n,e⟩ | ⟨g,z,_,e⟩ | ⟨g,z,e⟩ | ⟨g,v,z,_,_,e⟩ | ⟨g,v,z,_,e⟩
 ·rw[Ae1 (by rw[e];simp)] at aw;cases aw
 ·rw[Ae1 (by rcases e.status with e|e<;>rw[e]<;>simp)] at aw;cases aw
 ·rw[e,Ae4] at aw;cases aw
 ·rw[e,Ae4] at aw;cases aw
 ·rw[e,Ae5,if_neg (Aei qy)] at aw;cases aw
 ·rw[e,Ae5,if_pos rfl] at aw
  exact⟨by simpa using aw,g,v,z,e⟩
theorem FI.zb(h:FI X wb gs w t G){aT:Array Abe}{w':Aa4}{u:Adx}{G':Gh}(aI:aT.size=gs.size)(hj:G'.j=G.j)(bj:G'.cp.gC=G.cp.gC)
 (rO:(∃f az,G'.mp=.walk f az\/G'.mp=.db f az)↔∃f az,G.mp=.walk f az\/G.mp=.db f az)(aQ:∀i,i<X.n->(G'.st i=.no↔G.st i=.no))
 (ND:∃x,aT[0]?=some x/\fM X G' x)(vE:∀i,i<G.j->∃x,aT[X.N0+i]?=some x/\WSit X G' i x)(fY:G.cp.gC=false->∃x,aT[X.N0+X.n]?=some x/\CSit X G' x)
 (hold:∀g,0<g->g<X.N0->aT[g]?=gs[g]?/\G'.q g=G.q g/\G'.act g=none)(Dv:∀g,gs.size<=g->G'.act g=none)(de:mY X G')(cA:nf X G')
 (xY:(∃f az,G'.mp=.db f az)->∀i,i<X.n->G'.st i≠ .iR)(afe:(∃r,G'.cp=.db r)->∀i,i<X.n->G'.st i≠ .iu)(aff:(∃f az,G'.mp=.db f az)->G'.closed=false)
 (tO:WT X.cL X.cN w' (t++u) G'.act)(Hf:∃s,w'.heap[X.cL]?=some (.chan 0 #[] false s s false))(xJ:∃s,w'.heap[X.cN]?=some (.chan 0 #[] G'.closed s s false))(hb:Base wb w')
 (hu:∀op∈u,op.act.touch? =none/\op.g<gs.size)(hkq:∀i,i<X.n->G'.st i=.quit->sU (t++u) (X.N0+i) (X.N0+X.n))(T8:G'.closed=G.closed):FI X wb aT w' (t++u) G':=by
 have old:∀ {k a},Ady (t++u) k=some a->Ady t k=some a/\(t++u).g? k= t.g? k:=by
  intro k a ha;obtain⟨op,ab,cB⟩:=Adz ha;rcases Ad0 ab with⟨_,bG⟩ | ⟨_,dN⟩
  ·exact⟨by rw[Ad1 bG];exact cB,by simp[Afp,ab,bG]⟩
  ·rw[(hu op dN).1] at cB;cases cB
 refine⟨by rw[aI,hj,bj];exact h.size,h.n0,by rw[hj];exact h.jn,by rw[bj,hj];exact h.jc,by rw[rO,bj];exact h.mc,fun i hi=>by rw[aQ i hi,hj];exact h.uh i hi,ND,by rw[hj];exact vE,by rw[bj];exact fY,
  fun g x h1 h2 hx=>?_,fun g h1 h2=>(hold g h1 h2).2.2,fun g hg=>Dv g (by rw[aI] at hg;exact hg),de,cA,xY,afe,aff,tO,Hf,xJ,h.neq,hb,fun k a ha hm g hg al=>?_,fun k g hg=>?_,hkq,fun hc k a ha=>?_,fun hc=>?_⟩
 ·obtain⟨e1,e2,_⟩:=hold g h1 h2
  rw[e2];rw[e1] at hx;exact h.old g x h1 h2 hx
 ·obtain⟨a1,a2⟩:=old ha
  rw[a2] at hg;exact(h.vP k a a1 hm g hg al).app u
 ·rw[aI]
  unfold Afp at hg;obtain⟨op,ab,e⟩:=Aej.1 hg;rcases Ad0 ab with⟨_,bG⟩ | ⟨_,dN⟩
  ·exact h.tj k g (by simp[Afp,bG,e])
  ·rw[<-e];exact(hu op dN).2
 ·rw[T8] at hc
  exact h.yI hc k a (old ha).1
 ·rw[T8] at hc
  obtain⟨c,z,c1,c2,c3,c4⟩:=h.CN hc;refine⟨c,z,by rw[getElem?_append_old (Ae6 c1)];exact c1,c2,c3,fun k a ha g hg jU=>?_⟩
  obtain⟨a1,a2⟩:=old ha;rw[a2] at hg;exact(c4 k a a1 g hg jU).app u
end
end Go.Sim
namespace Go.Sim
open Go Go.Conc
open Go.ConcN (sumTo upd sumTo_upd upd_ne upd_same sumTo_congr)
section
variable {X:Pm}{wb:Aa4}{gs:Array Abe}{w:Aa4}{t:Adx}{G:Gh}
theorem fM.congr{G':Gh}(h1:G'.mp=G.mp)(hj:G'.j=G.j)(h2:G'.act 0=G.act 0)(h3:G'.tr 0=G.tr 0){x:Abe}(h:fM X G x):fM X G' x:=by
 unfold fM at *;rw[h1,hj,h2,h3];exact h
theorem WSit.congr{G':Gh}{i:Nat}(h1:G'.st i=G.st i)(h2:G'.act (X.N0+i)=G.act (X.N0+i))(h3:G'.tr (X.N0+i)=G.tr (X.N0+i))(h4:G'.q (X.N0+i)=G.q (X.N0+i)){x:Abe}(h:WSit X G i x):WSit X G' i x:=by
 unfold WSit at *;rw[h1,h2,h3,h4];exact h
theorem CSit.congr{G':Gh}(h1:G'.cp=G.cp)(h2:G'.act (X.N0+X.n)=G.act (X.N0+X.n))(h3:G'.tr (X.N0+X.n)=G.tr (X.N0+X.n))(h4:G'.q (X.N0+X.n)=G.q (X.N0+X.n)){x:Abe}(h:CSit X G x):CSit X G' x:=by
 unfold CSit at *;rw[h1,h2,h3,h4];exact h
theorem one_set{b i:Nat}{y:Abe}:(gs.setIfInBounds b y)[i]?=if i=b/\b<gs.size then some y else gs[i]?:=by
 by_cases hb:i=b
 ·subst hb
  by_cases al:i<gs.size
  ·simp[al]
  ·rw[if_neg (fun e=>al e.2),Aan (by simpa using al),Aan (by omega)]
 ·rw[Adc (Aei hb),if_neg (fun e=>hb e.1)]
theorem me{a b i:Nat}{x y:Abe}:((gs.setIfInBounds a x).setIfInBounds b y)[i]?=if i=b/\b<gs.size then some y else if i=a/\a<gs.size then some x else gs[i]?:=by
 rw[one_set,one_set,Aek]
theorem Mj{a b c s r cap B N:Nat}{x1 x2 x3 x4:MemOp}(h1:x1.g=a/\x1.act=.send c s)(h2:x2.g=b/\x2.act=.recv c r cap)(h3:x3.g=a/\x3.act=.sendDone c s)(h4:x4.g=b/\x4.act=.recvDone c r)(hc:c<B)(ha:a<N)(hb:b<N):
 (∀op∈#[x1,x2,x3,x4],op.act.touch? =none/\op.act.low B/\op.act≠ .mark .disable/\op.act≠ .mark .enable)/\∀op∈#[x1,x2,x3,x4],op.act.touch? =none/\op.g<N:=by
 refine⟨fun op ab=>?_,fun op ab=>?_⟩<;>simp only[Aee,Aef,Aeg,or_false] at ab<;>rcases ab with rfl|rfl|rfl|rfl
 ·rw[h1.2];exact⟨rfl,hc,by simp,by simp⟩
 ·rw[h2.2];exact⟨rfl,hc,by simp,by simp⟩
 ·rw[h3.2];exact⟨rfl,hc,by simp,by simp⟩
 ·rw[h4.2];exact⟨rfl,hc,by simp,by simp⟩
 ·rw[h1.2,h1.1];exact⟨rfl,ha⟩
 ·rw[h2.2,h2.1];exact⟨rfl,hb⟩
 ·rw[h3.2,h3.1];exact⟨rfl,ha⟩
 ·rw[h4.2,h4.1];exact⟨rfl,hb⟩
theorem PL(w:Aa4)(c cap:Nat)(buf:Array Value)(closed:Bool)(s r:Nat)(tm:Bool):(w.setChan c cap buf closed s r tm).heap.size=w.heap.size/\(∀b,b≠c->(w.setChan c cap buf closed s r tm).heap[b]?=w.heap[b]?)/\(c<w.heap.size->(w.setChan c cap buf closed s r tm).heap[c]?=some (.chan cap buf closed s r tm)):=by
 refine⟨by simp[World.setChan],fun b hb=>?_,fun hc=>by simp[World.setChan,hc]⟩
 simp only[World.setChan];rw[Adc (Aei hb)]
theorem AZ(st:Nat->WS){i n:Nat}(hi:i<n)(s:WS):sumTo n (fun a=>(upd st i s a).w)+(st i).w=sumTo n (fun a=>(st a).w)+s.w:=sumTo_upd st s WS.w hi
theorem Bv(st:Nat->WS){i n:Nat}(hi:i<n)(s:WS):sumTo n (fun a=>(upd st i s a).q)+(st i).q=sumTo n (fun a=>(st a).q)+s.q:=sumTo_upd st s WS.q hi
theorem FI.sX(h:FI X wb gs w t G)(i:Nat):(X.N0+i==0)=false:=by have:=h.n0;simp;omega
theorem ajB(h:FI X wb gs w t G){k:Nat}(hk:k≠0){y:Abe}{z:Value}(h0:gs[0]?=some (Ad3 y #[Aez X.cN z] (.recv true))):Aes (gs.setIfInBounds k ph) X.cN false=[(0,0)]:=by
 rw[partners_one (j:=0) (g:=Ad3 y #[Aez X.cN z] (.recv true)) (stand_get (Aei hk) h0) fun j x hj hx=>?_]
 ·rw[Ae2,if_pos rfl];rfl
 ·rcases Ae7 gs k j x hx with⟨_,rfl⟩ | ⟨_,hx⟩
  ·exact Ae8 _ _
  ·apply Adh
   intro aw;exact hj (Wm h hx aw).1
theorem ajA(h:FI X wb gs w t G){k:Nat}(hp:¬ ∃f az,G.mp=.db f az):Aes (gs.setIfInBounds k ph) X.cN false=[]:=by
 refine Ae9 fun j x hx=>?_
 rcases Ae7 gs k j x hx with⟨_,rfl⟩ | ⟨_,hx⟩
 ·exact Ae8 _ _
 ·apply Adh
  intro aw;exact hp (Wm h hx aw).2
theorem ajz(h:FI X wb gs w t G){k:Nat}(hk:k≠X.N0+X.n){y:Abe}{z:Value}(h0:gs[X.N0+X.n]?=some (Ad3 y #[Aez X.cL z] (.recv false))):Aes (gs.setIfInBounds k ph) X.cL false=[(X.N0+X.n,0)]:=by
 rw[partners_one (j:=X.N0+X.n) (g:=Ad3 y #[Aez X.cL z] (.recv false)) (stand_get (Aei hk) h0) fun j x hj hx=>?_]
 ·rw[Ae2,if_pos rfl];rfl
 ·rcases Ae7 gs k j x hx with⟨_,rfl⟩ | ⟨_,hx⟩
  ·exact Ae8 _ _
  ·apply Adh
   intro aw;exact hj (Wl h hx aw).1
theorem ajy(h:FI X wb gs w t G){k:Nat}(hp:¬ ∃r,G.cp=.db r):Aes (gs.setIfInBounds k ph) X.cL false=[]:=by
 refine Ae9 fun j x hx=>?_
 rcases Ae7 gs k j x hx with⟨_,rfl⟩ | ⟨_,hx⟩
 ·exact Ae8 _ _
 ·apply Adh
  intro aw;exact hp (Wl h hx aw).2
def od(X:Pm)(wb:Aa4)(gs:Array Abe)(w:Aa4)(sl:Option (Nat×Nat))(t:Adx)(G:Gh)(k:Nat):Prop:=
 ∃aT w' u G',runT X.P (Afa gs w sl) k=(.next (Afa aT w' sl),u)/\FI X wb aT w' (t++u) G'/\G'.mu X<G.mu X
theorem Xi(g:Abe)(v:Value):(Ad2 g v).status=.running:=rfl
theorem pV.refl{x:Abe}(h:x.status=.running):pV x x:=⟨rfl,rfl,rfl,h⟩
theorem alh(h:FI X wb gs w t G)(sl:Option (Nat×Nat)){i:Nat}(hi:i<G.j)(aQ:G.st i=.ku){M:aaa}{aL:Aa4}{x:Abe}(hx:gs[X.N0+i]?=some x)(ha:G.act (X.N0+i)=some ⟨M,x,aL⟩)
 (hn:X.eU i=true)(hS:FW X X.cN (X.val i) (fun M g w=>Walk X.P false (W2 X) M g w) M x w){f:Nat}{az:List Nat}(hp:G.mp=.db f az):od X wb gs w sl t G (X.N0+i):=by
 obtain⟨_,_,⟨z,dq⟩,xV⟩:=hS;have jX:=h.n0;have rG:=h.jn;obtain⟨y0,h0,dY⟩:=h.main;unfold fM at dY;rw[hp] at dY;obtain⟨M0,v0,y,z0,qf,rfl,hR⟩:=dY;have cA:=h.az;unfold nf at cA;rw[hp] at cA;obtain⟨g1,g2,g3⟩:=cA;have xW:i ∉ az:=fun e=>by have:=((g3 i).1 e).2.2;rw[aQ] at this;cases this
 obtain⟨f',rfl⟩:∃f',f=f'+1:=by
  have h1:=Ba X.n (i::az) (List.nodup_cons.2 ⟨xW,g1⟩) fun a ha=>by
   rcases Aef.1 ha with rfl|ha
   ·omega
   ·exact((g3 a).1 ha).1
  simp only[List.length_cons] at h1;exact⟨f - 1,by omega⟩
 obtain⟨s,hc⟩:=h.kV;have eL:=h.yJ ⟨_,_,hp⟩;rw[eL] at hc;have bz:=crowd_send_meets (P:=X.P) (sl:=sl) hx (by rw[h.sX];exact dq) hc (show 0≠X.N0+i by omega) h0 (ajB h (by omega) h0)
 rw[nM,Ael] at bz;have jW:0<gs.size:=(Aaf.1 h0).1
 have mA:X.N0+i<gs.size:=(Aaf.1 hx).1
 obtain⟨rM,qv⟩:=Mj (a:=X.N0+i) (b:=0) (c:=X.cN) (s:=s) (r:=s) (cap:=0) (B:=w.heap.size) (N:=gs.size)
  (x1:={g:=X.N0+i,fn:=x.frame.fn,pos:=x.frame.place,act:=.send X.cN s}) (x2:={g:=0,fn:=y.frame.fn,pos:=y.frame.place,act:=.recv X.cN s 0})
  (x3:={g:=X.N0+i,fn:=x.frame.fn,pos:=x.frame.place,act:=.sendDone X.cN s}) (x4:={g:=0,fn:=y.frame.fn,pos:=y.frame.place,act:=.recvDone X.cN s}) ⟨rfl,rfl⟩ ⟨rfl,rfl⟩ ⟨rfl,rfl⟩ ⟨rfl,rfl⟩ h.wt.hN mA jW
 obtain⟨c1,c2,c3⟩:=PL w X.cN 0 #[] false (s+1) (s+1) false;have iM:=h.wt.keep 0 _ qf;have qu:=h.wt.keep _ _ ha;obtain⟨_,_,z1,_,_,eA⟩:=hR w iM;have AP:=h.wt.mute (w':=w.setChan X.cN 0 #[] false (s+1) (s+1) false) rM c1 (fun b _ hb=>c2 b hb) rfl rfl rfl
 have hw0:=eA i (by omega) hn xW
 obtain⟨T0,tt⟩:=(hw0.rely (AP.keep 0 _ qf|>fun k=>(⟨by rw[c1];exact Ac2 _,fun b hb=>c2 b (h.wt.low 0 _ qf b hb).2.2,rfl,rfl,rfl⟩:bN M0 w (w.setChan X.cN 0 #[] false (s+1) (s+1) false)))).tree
 obtain⟨Ti,G4⟩:=(xV.rely (⟨by rw[c1];exact Ac2 _,fun b hb=>c2 b (h.wt.low _ _ ha b hb).2.2,rfl,rfl,rfl⟩:bN M w (w.setChan X.cN 0 #[] false (s+1) (s+1) false))).tree
 have Ed:=(AP.again qf (Ad2 y (Afb true (X.val i) true))).again (g:=X.N0+i) (j:=⟨M,x,aL⟩) (by rw[bP _ _ (by omega)];exact ha) (Ad2 x undef)
 refine⟨_,_,_,{G with st:=upd G.st i .iz,mp:=.walk f' (az++ [i]),act:=eW (eW G.act 0 (some ⟨M0,Ad2 y (Afb true (X.val i) true),w.setChan X.cN 0 #[] false (s+1) (s+1) false⟩)) (X.N0+i) (some ⟨M,Ad2 x undef,w.setChan X.cN 0 #[] false (s+1) (s+1) false⟩),tr:=upd (upd G.tr 0 T0) (X.N0+i) Ti},bz,?_,?_⟩
 ·refine h.zb (by simp) rfl rfl ?_ (fun i' bu=>?_) ?_ (fun i' bu=>?_) (fun hc=>?_) (fun g h1 h2=>⟨?_,rfl,?_⟩) (fun g hg=>?_) ?_ ?_ (fun⟨_,_,e⟩=>by cases e) (fun hr i' bu=>?_) (fun⟨_,_,e⟩=>by cases e) Ed ?_ ?_ ⟨by rw[c1];exact h.base.size,h.base.tape,h.base.os,h.base.out⟩ qv (fun i' bu hq=>?_) rfl
  ·exact⟨fun _=>⟨_,_,.inr hp⟩,fun _=>⟨_,_,.inl rfl⟩⟩
  ·by_cases e:i'=i
   ·subst e;simp only[upd_same];rw[aQ];simp
   ·simp only[upd_ne _ _ e]
  ·refine⟨Ad2 y (Afb true (X.val i) true),?_,?_⟩
   ·rw[me,if_neg (by omega),if_pos ⟨rfl,jW⟩];rfl
   ·exact⟨M0,w.setChan X.cN 0 #[] false (s+1) (s+1) false,Ad2 y (Afb true (X.val i) true),by simp only[bP _ _ (show 0≠X.N0+i by omega),fE],pV.refl rfl,by simp only[upd_ne _ _ (show 0≠X.N0+i by omega),upd_same];exact tt⟩
  ·by_cases e:i'=i
   ·subst e
    refine⟨Ad2 x undef,?_,?_⟩
    ·rw[me,if_pos ⟨rfl,mA⟩];rfl
    ·unfold WSit
     simp only[upd_same,fE];exact⟨M,_,rfl,rfl,G4⟩
   ·obtain⟨y',dZ,cD⟩:=h.wk i' bu
    refine⟨y',by rw[me,if_neg (by omega),if_neg (by omega)];exact dZ,?_⟩
    refine WSit.congr (G:=G) (by exact upd_ne _ _ e) ?_ ?_ (by exact rfl) cD
    ·simp only[bP _ _ (show X.N0+i'≠X.N0+i by omega),bP _ _ (show X.N0+i'≠0 by omega)]
    ·simp only[upd_ne _ _ (show X.N0+i'≠X.N0+i by omega),upd_ne _ _ (show X.N0+i'≠0 by omega)]
  ·obtain⟨y',dZ,cD⟩:=h.cl hc
   refine⟨y',by rw[me,if_neg (by omega),if_neg (by omega)];exact dZ,?_⟩
   refine CSit.congr (G:=G) (by exact rfl) ?_ ?_ (by exact rfl) cD
   ·simp only[bP _ _ (show X.N0+X.n≠X.N0+i by omega),bP _ _ (show X.N0+X.n≠0 by omega)]
   ·simp only[upd_ne _ _ (show X.N0+X.n≠X.N0+i by omega),upd_ne _ _ (show X.N0+X.n≠0 by omega)]
  ·rw[me,if_neg (by omega),if_neg (by omega)]
  ·simp only[bP _ _ (show g≠X.N0+i by omega),bP _ _ (show g≠0 by omega)]
   exact h.nN g h1 h2
  ·simp only[bP _ _ (show g≠X.N0+i by omega),bP _ _ (show g≠0 by omega)]
   exact h.mw g hg
  ·have hq:=Bv G.st (show i<X.n by omega) .iz
   have e1:(G.st i).q=0:=by rw[aQ];rfl
   have e2:WS.q .iz=0:=rfl;have de:=h.cnt;unfold mY at de |-
   simp only;rw[show sumTo X.n (fun a=>(upd G.st i .iz a).q)=sumTo X.n (fun a=>(G.st a).q) by omega]
   exact de
  ·refine⟨List.nodup_append.2 ⟨g1,by simp,fun a Hj b hb=>?_⟩,by simp only[List.length_append,Afr];omega,fun a=>?_⟩
   ·simp only[Afs] at hb
    subst hb;exact fun e=>xW (e▸Hj)
   ·by_cases e:a=i
    ·subst e
     simp only[Aft,Afs,or_true,upd_same,true_iff];exact⟨by omega,hn,rfl⟩
    ·simp only[Aft,Afs,e,or_false,upd_ne _ _ e]
     exact g3 a
  ·by_cases e:i'=i
   ·subst e;simp only[upd_same];simp
   ·simp only[upd_ne _ _ e];exact h.vN hr i' bu
  ·obtain⟨s',e'⟩:=h.kU
   exact⟨s',by rw[c2 _ h.neq];exact e'⟩
  ·exact⟨s+1,by rw[c3 h.wt.hN];unfold Gh.closed at eL |-;simp only;rw[eL]⟩
  ·have mD:G.st i'=.quit:=by
    by_cases e:i'=i
    ·subst e;simp only[upd_same] at hq;cases hq
    ·simp only[upd_ne _ _ e] at hq;exact hq
   exact(h.kq i' bu mD).app fun op ab _=>(qv op ab).1
 ·have hm:=AZ G.st (show i<X.n by omega) .iz
  have e1:(G.st i).w=5:=by rw[aQ];rfl
  have e2:WS.w .iz=3:=rfl;unfold Gh.mu;simp only[hp,MP.w];omega
theorem FI.O5(h:FI X wb gs w t G){i:Nat}(hi:i<X.n)(hs:G.st i≠ .quit):G.closed=false:=by
 apply Adh;intro hc;exact hs (h.Gk (by simpa using hc) i hi)
theorem OG{c:Nat}{M:aaa}{w w':Aa4}(c1:w'.heap.size=w.heap.size)(c2:∀b,b≠c->w'.heap[b]?=w.heap[b]?)(hM:∀b,M.has b->b≠c)(ht:w'.tape=w.tape)(ho:w'.os=w.os)(hp:w'.output=w.output):bN M w w':=
 ⟨by rw[c1];exact Ac2 _,fun b hb=>c2 b (hM b hb),ht,ho,hp⟩
theorem ali(h:FI X wb gs w t G)(sl:Option (Nat×Nat)){i:Nat}(hi:i<G.j)(aQ:G.st i=.ku){M:aaa}{aL:Aa4}{x:Abe}(hx:gs[X.N0+i]?=some x)(ha:G.act (X.N0+i)=some ⟨M,x,aL⟩)
 (hn:X.eU i=true)(hS:FW X X.cN (X.val i) (fun M g w=>Walk X.P false (W2 X) M g w) M x w)(hp:¬ ∃f az,G.mp=.db f az):od X wb gs w sl t G (X.N0+i):=by
 obtain⟨_,_,⟨z,dq⟩,xV⟩:=hS;have jX:=h.n0;have rG:=h.jn;have eL:=h.O5 (show i<X.n by omega) (by rw[aQ];simp)
 obtain⟨s,hc⟩:=h.kV;rw[eL] at hc;have mA:X.N0+i<gs.size:=(Aaf.1 hx).1
 have bz:=Afc (P:=X.P) (sl:=sl) hx (by rw[h.sX];exact dq) (fun cc cX=>by
  simp only[Aee,Afs] at cX;subst cX;exact ways_send_none hc (Ac2 _) (ajA h hp))
 rw[nM] at bz;refine⟨_,_,_,{G with st:=upd G.st i .iR,act:=eW G.act (X.N0+i) (some ⟨M,x,w⟩)},bz,?_,?_⟩
 ·refine h.zb (by simp) rfl rfl Iff.rfl (fun i' bu=>?_) ?_ (fun i' bu=>?_) (fun hc=>?_) (fun g h1 h2=>⟨?_,rfl,?_⟩) (fun g hg=>?_) ?_ ?_ (fun e=>absurd e hp) (fun hr i' bu=>?_) (fun e=>absurd e hp) (by simp only[Aag];exact h.wt.again ha x) h.kU h.kV h.base (by simp) (fun i' bu hq=>?_) rfl
  ·by_cases e:i'=i
   ·subst e;simp only[upd_same];rw[aQ];simp
   ·simp only[upd_ne _ _ e]
  ·obtain⟨y,hy,hs⟩:=h.main
   refine⟨y,by rw[one_set,if_neg (by omega)];exact hy,?_⟩
   exact fM.congr (G:=G) (by exact rfl) (by exact rfl) (by simp only[bP _ _ (show 0≠X.N0+i by omega)]) (by exact rfl) hs
  ·by_cases e:i'=i
   ·subst e
    refine⟨Ad3 x #[Aey X.cN (X.val i') z] .send,by rw[one_set,if_pos ⟨rfl,mA⟩],?_⟩
    unfold WSit;simp only[upd_same,fE];exact⟨M,w,x,z,rfl,rfl,hn,xV⟩
   ·obtain⟨y',dZ,cD⟩:=h.wk i' bu
    refine⟨y',by rw[one_set,if_neg (by omega)];exact dZ,?_⟩
    exact WSit.congr (G:=G) (by exact upd_ne _ _ e) (by simp only[bP _ _ (show X.N0+i'≠X.N0+i by omega)]) (by exact rfl) (by exact rfl) cD
  ·obtain⟨y',dZ,cD⟩:=h.cl hc
   refine⟨y',by rw[one_set,if_neg (by omega)];exact dZ,?_⟩
   exact CSit.congr (G:=G) (by exact rfl) (by simp only[bP _ _ (show X.N0+X.n≠X.N0+i by omega)]) (by exact rfl) (by exact rfl) cD
  ·rw[one_set,if_neg (by omega)]
  ·simp only[bP _ _ (show g≠X.N0+i by omega)]
   exact h.nN g h1 h2
  ·simp only[bP _ _ (show g≠X.N0+i by omega)]
   exact h.mw g hg
  ·have hq:=Bv G.st (show i<X.n by omega) .iR
   have e1:(G.st i).q=0:=by rw[aQ];rfl
   have e2:WS.q .iR=0:=rfl;have de:=h.cnt;unfold mY at de |-
   simp only;rw[show sumTo X.n (fun a=>(upd G.st i .iR a).q)=sumTo X.n (fun a=>(G.st a).q) by omega]
   exact de
  ·have cA:=h.az
   unfold nf at cA |-
   simp only;have Hu:∀a,(upd G.st i .iR a).gD=(G.st a).gD:=by
    intro a;by_cases e:a=i
    ·subst e;rw[upd_same,aQ];rfl
    ·rw[upd_ne _ _ e]
   simp only[Hu];exact cA
  ·by_cases e:i'=i
   ·subst e;simp only[upd_same];simp
   ·simp only[upd_ne _ _ e];exact h.vN hr i' bu
  ·rw[Aag]
   by_cases e:i'=i
   ·subst e;simp only[upd_same] at hq;cases hq
   ·simp only[upd_ne _ _ e] at hq;exact h.kq i' bu hq
 ·have hm:=AZ G.st (show i<X.n by omega) .iR
  have e1:(G.st i).w=5:=by rw[aQ];rfl
  have e2:WS.w .iR=4:=rfl;unfold Gh.mu;simp only;omega
def wI(X:Pm)(G:Gh)(i:Nat):Prop:=G.st i=.iz\/(G.st i=.ku/\X.eU i=false)
theorem wI.facts{i:Nat}(h:wI X G i):(G.st i).q=0/\3<=(G.st i).w/\G.st i≠ .no/\G.st i≠ .quit/\∀s:WS,s.gD=true->(X.eU i=true/\(G.st i).gD=true↔X.eU i=true/\s.gD=true):=by
 rcases h with h| ⟨h,hn⟩<;>rw[h]
 ·exact⟨rfl,Ac2 _,by simp,by simp,fun s hs=>by rw[hs];exact Iff.rfl⟩
 ·refine⟨rfl,by decide,by simp,by simp,fun s hs=>by simp[hn]⟩
theorem adg(h:FI X wb gs w t G){i:Nat}(hd:wI X G i){s:WS}(hs:s.gD=true):nf X {G with st:=upd G.st i s}:=by
 have cA:=h.az;obtain⟨_,_,_,_,hf⟩:=hd.facts;have key:∀a,(X.eU a=true/\(upd G.st i s a).gD=true)↔(X.eU a=true/\(G.st a).gD=true):=by
  intro a;by_cases e:a=i
  ·subst e;rw[upd_same];exact(hf s hs).symm
  ·rw[upd_ne _ _ e]
 unfold nf at cA |-
 simp only;cases hm:G.mp with
 |spawn=>
  rw[hm] at cA;intro a ha vr;have h1:=cA a ha vr;cases hp:(upd G.st i s a).gD with
  |false=>rfl
  |true=>have:=(key a).1 ⟨vr,hp⟩;rw[h1] at this;exact absurd this.2 (by simp)
 |walk f az=>
  rw[hm] at cA;exact⟨cA.1,cA.2.1,fun a=>by rw[cA.2.2 a];exact and_congr_right fun _=>(key a).symm⟩
 |db f az=>
  rw[hm] at cA;exact⟨cA.1,cA.2.1,fun a=>by rw[cA.2.2 a];exact and_congr_right fun _=>(key a).symm⟩
theorem alg(h:FI X wb gs w t G)(sl:Option (Nat×Nat)){i:Nat}(hi:i<G.j)(aQ:wI X G i){M:aaa}{aL:Aa4}{x:Abe}(hx:gs[X.N0+i]?=some x)(ha:G.act (X.N0+i)=some ⟨M,x,aL⟩)
 (hS:W2 X M x w)(hp:¬ ∃r,G.cp=.db r):od X wb gs w sl t G (X.N0+i):=by
 obtain⟨_,_,⟨z,dq⟩,xV⟩:=hS;have jX:=h.n0;have rG:=h.jn;obtain⟨f1,f2,f3,f4,f5⟩:=aQ.facts;obtain⟨s,hc⟩:=h.kU;have mA:X.N0+i<gs.size:=(Aaf.1 hx).1
 have bz:=Afc (P:=X.P) (sl:=sl) hx (by rw[h.sX];exact dq) (fun cc cX=>by
  simp only[Aee,Afs] at cX;subst cX;exact ways_send_none hc (Ac2 _) (ajy h hp))
 rw[nM] at bz;refine⟨_,_,_,{G with st:=upd G.st i .iu,act:=eW G.act (X.N0+i) (some ⟨M,x,w⟩)},bz,?_,?_⟩
 ·refine h.zb (by simp) rfl rfl Iff.rfl (fun i' bu=>?_) ?_ (fun i' bu=>?_) (fun hc=>?_) (fun g h1 h2=>⟨?_,rfl,?_⟩) (fun g hg=>?_) ?_ (adg h aQ rfl) (fun e i' bu=>?_) (fun hr i' bu=>absurd hr hp) (fun e=>h.yJ e) (by simp only[Aag];exact h.wt.again ha x) h.kU h.kV h.base (by simp) (fun i' bu hq=>?_) rfl
  ·by_cases e:i'=i
   ·subst e;simp only[upd_same];simp[f3]
   ·simp only[upd_ne _ _ e]
  ·obtain⟨y,hy,hs⟩:=h.main
   refine⟨y,by rw[one_set,if_neg (by omega)];exact hy,?_⟩
   exact fM.congr (G:=G) (by exact rfl) (by exact rfl) (by simp only[bP _ _ (show 0≠X.N0+i by omega)]) (by exact rfl) hs
  ·by_cases e:i'=i
   ·subst e
    refine⟨Ad3 x #[Aey X.cL (.bool true) z] .send,by rw[one_set,if_pos ⟨rfl,mA⟩],?_⟩
    unfold WSit;simp only[upd_same,fE];exact⟨M,w,x,z,rfl,rfl,xV⟩
   ·obtain⟨y',dZ,cD⟩:=h.wk i' bu
    refine⟨y',by rw[one_set,if_neg (by omega)];exact dZ,?_⟩
    exact WSit.congr (G:=G) (by exact upd_ne _ _ e) (by simp only[bP _ _ (show X.N0+i'≠X.N0+i by omega)]) (by exact rfl) (by exact rfl) cD
  ·obtain⟨y',dZ,cD⟩:=h.cl hc
   refine⟨y',by rw[one_set,if_neg (by omega)];exact dZ,?_⟩
   exact CSit.congr (G:=G) (by exact rfl) (by simp only[bP _ _ (show X.N0+X.n≠X.N0+i by omega)]) (by exact rfl) (by exact rfl) cD
  ·rw[one_set,if_neg (by omega)]
  ·simp only[bP _ _ (show g≠X.N0+i by omega)]
   exact h.nN g h1 h2
  ·simp only[bP _ _ (show g≠X.N0+i by omega)]
   exact h.mw g hg
  ·have hq:=Bv G.st (show i<X.n by omega) .iu
   have e2:WS.q .iu=0:=rfl;have de:=h.cnt;unfold mY at de |-
   simp only;rw[show sumTo X.n (fun a=>(upd G.st i .iu a).q)=sumTo X.n (fun a=>(G.st a).q) by omega]
   exact de
  ·by_cases e2:i'=i
   ·subst e2;simp only[upd_same];simp
   ·simp only[upd_ne _ _ e2];exact h.mL e i' bu
  ·rw[Aag]
   by_cases e:i'=i
   ·subst e;simp only[upd_same] at hq;cases hq
   ·simp only[upd_ne _ _ e] at hq;exact h.kq i' bu hq
 ·have hm:=AZ G.st (show i<X.n by omega) .iu
  have e2:WS.w .iu=2:=rfl;unfold Gh.mu;simp only;omega
theorem heard(h:FI X wb gs w t G)(d:Nat){i:Nat}(hi:i<G.j)(DR:G.st i≠ .quit)(hnn:G.st i≠ .no)(Hu:∀a,(X.eU a=true/\(upd G.st i .quit a).gD=true)↔(X.eU a=true/\(G.st a).gD=true))
 {r:Nat}(o4:G.cp=.db (r+1)\/G.cp=.walk (r+1)){x y:Abe}{M Mc:aaa}{xg yg:Abe}{xw yw:Aa4}(ha:G.act (X.N0+i)=some ⟨M,xg,xw⟩)(Dj:G.act (X.N0+X.n)=some ⟨Mc,yg,yw⟩)
 {m:Nat}(hq:QuitsIn X.P m x)(hy:y.status=.running)(hw:Walk X.P false (pW X r) Mc y w){s:Nat}(hs:w.heap[X.cL]?=some (.chan 0 #[] false s s false))
 {x1 x2 x3 x4:MemOp}(h1:x1.g=X.N0+i/\x1.act=.send X.cL s)(h2:x2.g=X.N0+X.n/\x2.act=.recv X.cL s 0)(h3:x3.g=X.N0+i/\x3.act=.sendDone X.cL s)(h4:x4.g=X.N0+X.n/\x4.act=.recvDone X.cL s)
 {aT:Array Abe}(aI:aT.size=gs.size)(Dx:aT[X.N0+i]?=some x)(Dy:aT[X.N0+X.n]?=some y)(hgo:∀k,k≠X.N0+i->k≠X.N0+X.n->aT[k]?=gs[k]?):
 ∃G',FI X wb aT ((w.at d).setChan X.cL 0 #[] false (s+1) (s+1) false) (t++#[x1,x2,x3,x4]) G'/\G'.mu X<G.mu X:=by
 have jX:=h.n0;have rG:=h.jn;have bj:G.cp.gC=false:=by rcases o4 with e|e<;>rw[e]<;>rfl
 have o8:=h.jc bj;have eL:=h.O5 (show i<X.n by omega) DR
 have mA:X.N0+i<gs.size:=by rw[<-aI];exact(Aaf.1 Dx).1
 have tF:X.N0+X.n<gs.size:=by rw[<-aI];exact(Aaf.1 Dy).1
 obtain⟨rM,qv⟩:=Mj (a:=X.N0+i) (b:=X.N0+X.n) (c:=X.cL) (s:=s) (r:=s) (cap:=0) (B:=w.heap.size) (N:=gs.size) h1 h2 h3 h4 h.wt.hL mA tF;obtain⟨c1,c2,c3⟩:=PL (w.at d) X.cL 0 #[] false (s+1) (s+1) false;have AP:=h.wt.mute (w':=(w.at d).setChan X.cL 0 #[] false (s+1) (s+1) false) rM c1 (fun b hb _=>c2 b hb) rfl rfl rfl
 obtain⟨Tc,Dh⟩:=(hw.rely (OG (w':=(w.at d).setChan X.cL 0 #[] false (s+1) (s+1) false) c1 c2 (fun b hb=>(h.wt.low _ _ Dj b hb).2.1) rfl rfl rfl)).tree
 have aw:X.N0+X.n≠X.N0+i:=by omega
 have Ed:=(AP.again Dj y).drop (X.N0+i);refine⟨{G with st:=upd G.st i .quit,cp:=.walk r,act:=eW (eW G.act (X.N0+X.n) (some ⟨Mc,y,(w.at d).setChan X.cL 0 #[] false (s+1) (s+1) false⟩)) (X.N0+i) none,q:=upd G.q (X.N0+i) m,tr:=upd G.tr (X.N0+X.n) Tc},?_,?_⟩
 ·refine h.zb aI rfl bj.symm Iff.rfl (fun i' bu=>?_) ?_ (fun i' bu=>?_) (fun hc=>?_) (fun g h1 h2=>⟨hgo g (by omega) (by omega),upd_ne _ _ (by omega),?_⟩) (fun g hg=>?_) ?_ ?_ (fun e i' bu=>?_) (fun⟨_,e⟩=>by cases e) (fun _=>rfl) Ed ?_ ?_ ⟨by rw[c1];exact h.base.size,h.base.tape,h.base.os,h.base.out⟩ qv (fun i' bu hq=>?_) ?_
  ·by_cases e:i'=i
   ·subst e;simp only[upd_same];simp[hnn]
   ·simp only[upd_ne _ _ e]
  ·obtain⟨z,hz,aI⟩:=h.main
   refine⟨z,by rw[hgo 0 (by omega) (by omega)];exact hz,?_⟩
   exact fM.congr (G:=G) (by exact rfl) (by exact rfl) (by simp only[bP _ _ (show 0≠X.N0+i by omega),bP _ _ (show 0≠X.N0+X.n by omega)]) (by simp only[upd_ne _ _ (show 0≠X.N0+X.n by omega)]) aI
  ·by_cases e:i'=i
   ·subst e
    refine⟨x,Dx,?_⟩
    unfold WSit;simp only[upd_same,fE];exact⟨trivial,hq⟩
   ·obtain⟨y',dZ,cD⟩:=h.wk i' bu
    refine⟨y',by rw[hgo _ (by omega) (by omega)];exact dZ,?_⟩
    exact WSit.congr (G:=G) (by exact upd_ne _ _ e) (by simp only[bP _ _ (show X.N0+i'≠X.N0+i by omega),bP _ _ (show X.N0+i'≠X.N0+X.n by omega)]) (by simp only[upd_ne _ _ (show X.N0+i'≠X.N0+X.n by omega)]) (by simp only[upd_ne _ _ (show X.N0+i'≠X.N0+i by omega)]) cD
  ·refine⟨y,Dy,?_⟩
   unfold CSit;simp only[bP _ _ aw,fE,upd_same];exact⟨Mc,_,rfl,hy,Dh⟩
  ·simp only[bP _ _ (show g≠X.N0+i by omega),bP _ _ (show g≠X.N0+X.n by omega)]
   exact h.nN g h1 h2
  ·simp only[bP _ _ (show g≠X.N0+i by omega),bP _ _ (show g≠X.N0+X.n by omega)]
   exact h.mw g hg
  ·have hqs:=Bv G.st (show i<X.n by omega) .quit
   have e1:(G.st i).q=0:=by unfold WS.q;rw[if_neg DR]
   have e2:WS.q .quit=1:=rfl;have de:=h.cnt;have an8:(r+1)+sumTo X.n (fun a=>(G.st a).q)=X.n:=by
    unfold mY at de;rcases o4 with e|e<;>rw[e] at de<;>exact de
   show r+sumTo X.n (fun a=>(upd G.st i .quit a).q)=X.n
   omega
  ·have cA:=h.az
   unfold nf at cA |-
   simp only;cases hmm:G.mp with
   |spawn=>exact absurd (h.mc.2 bj) (by rw[hmm];rintro⟨_,_,e|e⟩<;>cases e)
   |walk f az=>
    rw[hmm] at cA;exact⟨cA.1,cA.2.1,fun a=>by rw[cA.2.2 a];exact and_congr_right fun _=>(Hu a).symm⟩
   |db f az=>
    rw[hmm] at cA;exact⟨cA.1,cA.2.1,fun a=>by rw[cA.2.2 a];exact and_congr_right fun _=>(Hu a).symm⟩
  ·by_cases e2:i'=i
   ·subst e2;simp only[upd_same];simp
   ·simp only[upd_ne _ _ e2];exact h.mL e i' bu
  ·exact⟨s+1,c3 h.wt.hL⟩
  ·obtain⟨s',e'⟩:=h.kV
   rw[eL] at e';exact⟨s',by rw[c2 _ (Aei h.neq)];exact e'⟩
  ·by_cases e:i'=i
   ·subst e
    intro k a vp hg;obtain⟨op,ab,cB⟩:=Adz vp;rcases Ad0 ab with⟨_,bG⟩ | ⟨_,dN⟩
    ·have hk:Knows t (X.N0+i') k:=sU.self t (X.N0+i') k a (by rw[Ad1 bG];exact cB) (by simpa [Afp,ab,bG] using hg)
     exact adX h.wt.nd h1 h2 h3 h4 hk
    ·rw[(qv op dN).1] at cB;cases cB
   ·simp only[upd_ne _ _ e] at hq
    exact(h.kq i' bu hq).app fun op ab _=>(qv op ab).1
  ·rw[eL];rfl
 ·have hm:=AZ G.st (show i<X.n by omega) .quit
  have e2:WS.w .quit=0:=rfl;unfold Gh.mu;simp only;rcases o4 with e|e<;>rw[e]<;>simp only[CP.w]<;>omega
theorem Wx{i:Nat}(h:wI X G i\/G.st i=.iu):∀a,(X.eU a=true/\(upd G.st i .quit a).gD=true)↔(X.eU a=true/\(G.st a).gD=true):=by
 intro a;by_cases e:a=i
 ·subst e
  rw[upd_same];rcases h with h|h
  ·exact(h.facts.2.2.2.2 .quit rfl).symm
  ·rw[h];exact Iff.rfl
 ·rw[upd_ne _ _ e]
theorem alf(h:FI X wb gs w t G)(sl:Option (Nat×Nat)){i:Nat}(hi:i<G.j)(aQ:wI X G i){M:aaa}{aL:Aa4}{x:Abe}(hx:gs[X.N0+i]?=some x)(ha:G.act (X.N0+i)=some ⟨M,x,aL⟩)
 (hS:W2 X M x w){r:Nat}(hp:G.cp=.db r):od X wb gs w sl t G (X.N0+i):=by
 obtain⟨_,_,⟨z,dq⟩,m,hq⟩:=hS;have jX:=h.n0;have rG:=h.jn;have bj:G.cp.gC=false:=by rw[hp];rfl
 have o8:=h.jc bj;obtain⟨f1,f2,f3,f4,f5⟩:=aQ.facts;obtain⟨y0,h0,dY⟩:=h.cl bj;unfold CSit at dY;rw[hp] at dY;obtain⟨r',Mc,v0,y,z0,rfl,Dj,rfl,hW⟩:=dY;obtain⟨s,hc⟩:=h.kU;have bz:=crowd_send_meets (P:=X.P) (sl:=sl) hx (by rw[h.sX];exact dq) hc (show X.N0+X.n≠X.N0+i by omega) h0 (ajz h (by omega) h0)
 rw[nM,Ael] at bz;have tF:X.N0+X.n<gs.size:=(Aaf.1 h0).1
 have mA:X.N0+i<gs.size:=(Aaf.1 hx).1
 obtain⟨G',hF,mC⟩:=heard h w.drawn hi f4 f3 (Wx (.inl aQ)) (.inl hp) ha Dj hq (Xi y (Afb false (.bool true) true)) (hW.rely (h.wt.keep _ _ Dj)) hc
  (x1:={g:=X.N0+i,fn:=x.frame.fn,pos:=x.frame.place,act:=.send X.cL s}) (x2:={g:=X.N0+X.n,fn:=y.frame.fn,pos:=y.frame.place,act:=.recv X.cL s 0})
  (x3:={g:=X.N0+i,fn:=x.frame.fn,pos:=x.frame.place,act:=.sendDone X.cL s}) (x4:={g:=X.N0+X.n,fn:=y.frame.fn,pos:=y.frame.place,act:=.recvDone X.cL s}) ⟨rfl,rfl⟩ ⟨rfl,rfl⟩ ⟨rfl,rfl⟩ ⟨rfl,rfl⟩
  (aT:=(gs.setIfInBounds (X.N0+X.n) (Ad2 y (Afb false (.bool true) true))).setIfInBounds (X.N0+i) (Ad2 x undef)) (by simp) (by rw[me,if_pos ⟨rfl,mA⟩]) (by rw[me,if_neg (by omega),if_pos ⟨rfl,tF⟩]) (fun k h1 h2=>by rw[me,if_neg (fun e=>h1 e.1),if_neg (fun e=>h2 e.1)])
 exact⟨_,_,_,G',bz,hF,mC⟩
theorem ajT(h:FI X wb gs w t G)(sl:Option (Nat×Nat)){r:Nat}(hp:G.cp=.walk (r+1)){M:aaa}{aL:Aa4}{x:Abe}(hx:gs[X.N0+X.n]?=some x)(ha:G.act (X.N0+X.n)=some ⟨M,x,aL⟩)
 (hS:pW X (r+1) M x w)(hex:∃i,i<X.n/\G.st i=.iu):od X wb gs w sl t G (X.N0+X.n):=by
 obtain⟨_,_,⟨z,dq⟩,hW⟩:=hS;have jX:=h.n0;have bj:G.cp.gC=false:=by rw[hp];rfl
 have o8:=h.jc bj;obtain⟨s,hc⟩:=h.kU;have MS:(X.N0+X.n==0)=false:=h.sX X.n;have aw:Aes (gs.setIfInBounds (X.N0+X.n) ph) X.cL true≠ []:=by
  obtain⟨i,hi,aQ⟩:=hex;obtain⟨y,hy,hs⟩:=h.wk i (by omega)
  unfold WSit at hs;rw[aQ] at hs;obtain⟨Mi,wi,y',z',_,hyp,_⟩:=hs;have:(X.N0+i,0)∈Aes (gs.setIfInBounds (X.N0+X.n) ph) X.cL true:=mem_partners.2 ⟨y,stand_get (by omega) hy,by rw[hyp,Ae5,if_pos rfl];simp⟩
  exact List.ne_nil_of_mem this
 have eA:∀j k,(j,k)∈Aes (gs.setIfInBounds (X.N0+X.n) ph) X.cL true->k=0/\j≠X.N0+X.n/\∃gj vj zj Fx,gs[j]?=some (Ad3 gj #[Aey X.cL vj zj] Fx):=by
  intro j k hm;obtain⟨y,hy,hk⟩:=mem_partners.1 hm;rcases Ae7 gs _ j y hy with⟨_,rfl⟩ | ⟨hj,hy⟩
  ·rw[Ae8] at hk;cases hk
  ·obtain⟨e,g,v,z,hyp⟩:=Wn h hy hk
   exact⟨e,hj,g,v,z,.send,by rw[hy,hyp]⟩
 obtain⟨j,gj,vj,zj,Fx,d,hj,Dw,bz⟩:=crowd_recv_meets_some (P:=X.P) (sl:=sl) hx (by rw[MS];exact dq) hc aw eA
 rw[nM,Ael] at bz;obtain⟨i,Mi,wi,yi,hi,rfl,aQ,rfl,rfl,G6,oD,m,hq⟩:=h.RD Dw;have tF:X.N0+X.n<gs.size:=(Aaf.1 hx).1
 have mA:X.N0+i<gs.size:=(Aaf.1 Dw).1
 obtain⟨G',hF,mC⟩:=heard h d hi (by rw[aQ];simp) (by rw[aQ];simp) (Wx (.inr aQ)) (.inr hp) G6 ha (x:=Ad2 gj undef) (by rw[oD];exact hq) (Xi x (Afb false (.bool true) true)) hW hc
  (x1:={g:=X.N0+i,fn:=gj.frame.fn,pos:=gj.frame.place,act:=.send X.cL s}) (x2:={g:=X.N0+X.n,fn:=x.frame.fn,pos:=x.frame.place,act:=.recv X.cL s 0})
  (x3:={g:=X.N0+i,fn:=gj.frame.fn,pos:=gj.frame.place,act:=.sendDone X.cL s}) (x4:={g:=X.N0+X.n,fn:=x.frame.fn,pos:=x.frame.place,act:=.recvDone X.cL s}) ⟨rfl,rfl⟩ ⟨rfl,rfl⟩ ⟨rfl,rfl⟩ ⟨rfl,rfl⟩
  (aT:=(gs.setIfInBounds (X.N0+i) (Ad2 gj undef)).setIfInBounds (X.N0+X.n) (Ad2 x (Afb false (.bool true) true))) (by simp) (by rw[me,if_neg (by omega),if_pos ⟨rfl,mA⟩]) (by rw[me,if_pos ⟨rfl,tF⟩]) (fun k h1 h2=>by rw[me,if_neg (fun e=>h2 e.1),if_neg (fun e=>h1 e.1)])
 exact⟨_,_,_,G',bz,hF,mC⟩
theorem ajU(h:FI X wb gs w t G)(sl:Option (Nat×Nat)){r:Nat}(hp:G.cp=.walk (r+1)){M:aaa}{aL:Aa4}{x:Abe}(hx:gs[X.N0+X.n]?=some x)(ha:G.act (X.N0+X.n)=some ⟨M,x,aL⟩)
 (hS:pW X (r+1) M x w)(hex:¬ ∃i,i<X.n/\G.st i=.iu):od X wb gs w sl t G (X.N0+X.n):=by
 obtain⟨_,_,⟨z,dq⟩,hW⟩:=hS;have jX:=h.n0;have bj:G.cp.gC=false:=by rw[hp];rfl
 have o8:=h.jc bj;obtain⟨s,hc⟩:=h.kU;have MS:(X.N0+X.n==0)=false:=h.sX X.n;have eL:G.closed=false:=by unfold Gh.closed;rw[hp]
 have xX:Aes (gs.setIfInBounds (X.N0+X.n) ph) X.cL true=[]:=by
  refine Ae9 fun j y hy=>?_
  rcases Ae7 gs _ j y hy with⟨_,rfl⟩ | ⟨hj,hy⟩
  ·exact Ae8 _ _
  ·cases hl:Ae0 y X.cL true with
   |nil=>rfl
   |cons a l=>
    exfalso;obtain⟨e,g,v,z',hyp⟩:=Wn h (m:=a) hy (by rw[hl];simp)
    rw[hyp] at hy;obtain⟨i,_,_,_,hi,_,aQ,_⟩:=h.RD hy;exact hex ⟨i,by omega,aQ⟩
 have bz:=Afc (P:=X.P) (sl:=sl) hx (by rw[MS];exact dq) (fun cc cX=>by
  simp only[Aee,Afs] at cX;subst cX;exact ways_recv_none hc xX)
 rw[nM] at bz;have tF:X.N0+X.n<gs.size:=(Aaf.1 hx).1
 refine⟨_,_,_,{G with cp:=.db (r+1),act:=eW G.act (X.N0+X.n) (some ⟨M,x,w⟩)},bz,?_,?_⟩
 ·refine h.zb (by simp) rfl bj.symm Iff.rfl (fun i' bu=>Iff.rfl) ?_ (fun i' bu=>?_) (fun hc=>?_) (fun g h1 h2=>⟨?_,rfl,?_⟩) (fun g hg=>?_) ?_ h.az (fun e=>h.mL e) (fun _ i' bu aQ=>hex ⟨i',bu,aQ⟩) (fun _=>rfl) (by simp only[Aag];exact h.wt.again ha x) h.kU (by obtain⟨s',e⟩:=h.kV;rw[eL] at e;exact⟨s',e⟩) h.base (by simp) (fun i' bu hq=>by rw[Aag];exact h.kq i' bu hq) (by rw[eL];rfl)
  ·obtain⟨y,hy,hs⟩:=h.main
   refine⟨y,by rw[one_set,if_neg (by omega)];exact hy,?_⟩
   exact fM.congr (G:=G) (by exact rfl) (by exact rfl) (by simp only[bP _ _ (show 0≠X.N0+X.n by omega)]) (by exact rfl) hs
  ·obtain⟨y',dZ,cD⟩:=h.wk i' bu
   refine⟨y',by rw[one_set,if_neg (by omega)];exact dZ,?_⟩
   exact WSit.congr (G:=G) (by exact rfl) (by simp only[bP _ _ (show X.N0+i'≠X.N0+X.n by omega)]) (by exact rfl) (by exact rfl) cD
  ·refine⟨Ad3 x #[Aez X.cL z] (.recv false),by rw[one_set,if_pos ⟨rfl,tF⟩],?_⟩
   unfold CSit;simp only[fE];exact⟨r,M,w,x,z,rfl,rfl,rfl,hW⟩
  ·rw[one_set,if_neg (by omega)]
  ·simp only[bP _ _ (show g≠X.N0+X.n by omega)]
   exact h.nN g h1 h2
  ·simp only[bP _ _ (show g≠X.N0+X.n by omega)]
   exact h.mw g hg
  ·have de:=h.cnt
   unfold mY at de |-
   rw[hp] at de;exact de
 ·unfold Gh.mu
  simp only[hp,CP.w];omega
theorem ajW(h:FI X wb gs w t G)(sl:Option (Nat×Nat)){f:Nat}{az:List Nat}(hp:G.mp=.walk f az){M:aaa}{aL:Aa4}{x y:Abe}(hx:gs[0]?=some x)(ha:G.act 0=some ⟨M,y,aL⟩)(ik:pV x y)
 (hS:∀aa,bN M aL aa->nj X f az M y aa)(eL:G.closed=false)(hex:¬ ∃i,i<X.n/\G.st i=.iR):od X wb gs w sl t G 0:=by
 obtain⟨_,_,z,dq,_⟩:=(hS w (h.wt.keep _ _ ha)).at;have jX:=h.n0;have rG:=h.jn;obtain⟨s,hc⟩:=h.kV;rw[eL] at hc;have xX:Aes (gs.setIfInBounds 0 ph) X.cN true=[]:=by
  refine Ae9 fun j y hy=>?_
  rcases Ae7 gs _ j y hy with⟨_,rfl⟩ | ⟨hj,hy⟩
  ·exact Ae8 _ _
  ·cases hl:Ae0 y X.cN true with
   |nil=>rfl
   |cons a l=>
    exfalso;obtain⟨e,g,v,z',hyp⟩:=O6 h (m:=a) hy (by rw[hl];simp)
    rw[hyp] at hy;obtain⟨i,_,_,_,hi,_,aQ,_⟩:=h.Lt hy;exact hex ⟨i,by omega,aQ⟩
 have pf:Adn X.P (0==0) x w=.comm y #[Aez X.cN z] true (.recv true) w #[]:=by
  rw[Afd ik.1 ik.2.1 ik.2.2.1];exact dq
 have bz:=Afc (P:=X.P) (sl:=sl) hx pf (fun cc cX=>by
  simp only[Aee,Afs] at cX;subst cX;exact ways_recv_none hc xX)
 rw[nM] at bz;have jW:0<gs.size:=(Aaf.1 hx).1
 refine⟨_,_,_,{G with mp:=.db f az},bz,?_,?_⟩
 ·refine h.zb (by simp) rfl rfl ⟨fun _=>⟨_,_,.inl hp⟩,fun _=>⟨_,_,.inr rfl⟩⟩ (fun i' bu=>Iff.rfl) ?_ (fun i' bu=>?_) (fun hc=>?_) (fun g h1 h2=>⟨?_,rfl,h.nN g h1 h2⟩) h.mw h.cnt ?_ (fun _ i' bu e=>hex ⟨i',bu,e⟩) (fun e=>h.vN e) (fun _=>eL) (by simp only[Aag];exact h.wt) h.kU h.kV h.base (by simp) (fun i' bu hq=>by rw[Aag];exact h.kq i' bu hq) rfl
  ·refine⟨Ad3 y #[Aez X.cN z] (.recv true),by rw[one_set,if_pos ⟨rfl,jW⟩],?_⟩
   unfold fM;exact⟨M,aL,y,z,ha,rfl,hS⟩
  ·obtain⟨y',dZ,cD⟩:=h.wk i' bu
   exact⟨y',by rw[one_set,if_neg (by omega)];exact dZ,WSit.congr (G:=G) (by exact rfl) (by exact rfl) (by exact rfl) (by exact rfl) cD⟩
  ·obtain⟨y',dZ,cD⟩:=h.cl hc
   exact⟨y',by rw[one_set,if_neg (by omega)];exact dZ,CSit.congr (G:=G) (by exact rfl) (by exact rfl) (by exact rfl) (by exact rfl) cD⟩
  ·rw[one_set,if_neg (by omega)]
  ·have cA:=h.az
   unfold nf at cA |-
   rw[hp] at cA;exact cA
 ·unfold Gh.mu
  simp only[hp,MP.w];omega
theorem ajV(h:FI X wb gs w t G)(sl:Option (Nat×Nat)){f:Nat}{az:List Nat}(hp:G.mp=.walk f az){M0:aaa}{v0:Aa4}{x y:Abe}(h0:gs[0]?=some x)(qf:G.act 0=some ⟨M0,y,v0⟩)(ik:pV x y)
 (hR:∀aa,bN M0 v0 aa->nj X f az M0 y aa)(hex:∃i,i<X.n/\G.st i=.iR):od X wb gs w sl t G 0:=by
 have jX:=h.n0;have rG:=h.jn;have cA:=h.az;unfold nf at cA;rw[hp] at cA;obtain⟨g1,g2,g3⟩:=cA;have eL:G.closed=false:=by
  obtain⟨i,hi,aQ⟩:=hex;exact h.O5 hi (by rw[aQ];simp)
 obtain⟨s,hc⟩:=h.kV;rw[eL] at hc;have aw:Aes (gs.setIfInBounds 0 ph) X.cN true≠ []:=by
  obtain⟨i,hi,aQ⟩:=hex;obtain⟨y,hy,hs⟩:=h.wk i (h.V4 hi (by rw[aQ];simp))
  unfold WSit at hs;rw[aQ] at hs;obtain⟨Mi,wi,y',z',_,hyp,_⟩:=hs;have:(X.N0+i,0)∈Aes (gs.setIfInBounds 0 ph) X.cN true:=mem_partners.2 ⟨y,stand_get (by omega) hy,by rw[hyp,Ae5,if_pos rfl];simp⟩
  exact List.ne_nil_of_mem this
 have eA:∀j k,(j,k)∈Aes (gs.setIfInBounds 0 ph) X.cN true->k=0/\j≠0/\∃gj vj zj Fx,gs[j]?=some (Ad3 gj #[Aey X.cN vj zj] Fx):=by
  intro j k hm;obtain⟨y,hy,hk⟩:=mem_partners.1 hm;rcases Ae7 gs _ j y hy with⟨_,rfl⟩ | ⟨hj,hy⟩
  ·rw[Ae8] at hk;cases hk
  ·obtain⟨e,g,v,z,hyp⟩:=O6 h hy hk
   exact⟨e,hj,g,v,z,.send,by rw[hy,hyp]⟩
 obtain⟨_,_,z,dq,_⟩:=(hR w (h.wt.keep _ _ qf)).at;have pf:Adn X.P (0==0) x w=.comm y #[Aez X.cN z] true (.recv true) w #[]:=by
  rw[Afd ik.1 ik.2.1 ik.2.2.1];exact dq
 obtain⟨j,gj,vj,zj,Fx,d,hj,Dw,bz⟩:=crowd_recv_meets_some (P:=X.P) (sl:=sl) h0 pf hc aw eA;rw[nM,Ael] at bz;obtain⟨i,M,aL,yi,hi,rfl,aQ,rfl,rfl,hn,ha,oD,xV⟩:=h.Lt Dw;have xW:i ∉ az:=fun e=>by have:=((g3 i).1 e).2.2;rw[aQ] at this;cases this
 obtain⟨f',rfl⟩:∃f',f=f'+1:=by
  have h1:=Ba X.n (i::az) (List.nodup_cons.2 ⟨xW,g1⟩) fun a ha=>by
   rcases Aef.1 ha with rfl|ha
   ·omega
   ·exact((g3 a).1 ha).1
  simp only[List.length_cons] at h1;exact⟨f - 1,by omega⟩
 have jW:0<gs.size:=(Aaf.1 h0).1
 have mA:X.N0+i<gs.size:=(Aaf.1 Dw).1
 obtain⟨rM,qv⟩:=Mj (a:=X.N0+i) (b:=0) (c:=X.cN) (s:=s) (r:=s) (cap:=0) (B:=w.heap.size) (N:=gs.size)
  (x1:={g:=X.N0+i,fn:=gj.frame.fn,pos:=gj.frame.place,act:=.send X.cN s}) (x2:={g:=0,fn:=y.frame.fn,pos:=y.frame.place,act:=.recv X.cN s 0})
  (x3:={g:=X.N0+i,fn:=gj.frame.fn,pos:=gj.frame.place,act:=.sendDone X.cN s}) (x4:={g:=0,fn:=y.frame.fn,pos:=y.frame.place,act:=.recvDone X.cN s}) ⟨rfl,rfl⟩ ⟨rfl,rfl⟩ ⟨rfl,rfl⟩ ⟨rfl,rfl⟩ h.wt.hN mA jW
 obtain⟨c1,c2,c3⟩:=PL (w.at d) X.cN 0 #[] false (s+1) (s+1) false;obtain⟨_,_,z1,_,_,adW⟩:=hR w (h.wt.keep _ _ qf);have AP:=h.wt.mute (w':=(w.at d).setChan X.cN 0 #[] false (s+1) (s+1) false) rM c1 (fun b _ hb=>c2 b hb) rfl rfl rfl
 obtain⟨T0,tt⟩:=((adW i (by omega) hn xW).rely (OG (w':=(w.at d).setChan X.cN 0 #[] false (s+1) (s+1) false) c1 c2 (fun b hb=>(h.wt.low 0 _ qf b hb).2.2) rfl rfl rfl)).tree
 obtain⟨Ti,G4⟩:=((xV.rely (h.wt.keep _ _ ha)).rely (OG (w':=(w.at d).setChan X.cN 0 #[] false (s+1) (s+1) false) c1 c2 (fun b hb=>(h.wt.low _ _ ha b hb).2.2) rfl rfl rfl)).tree
 rw[<-oD] at G4;have Ed:=(AP.again qf (Ad2 y (Afb true (X.val i) true))).again (g:=X.N0+i) (j:=⟨M,yi,aL⟩) (by rw[bP _ _ (by omega)];exact ha) (Ad2 gj undef)
 refine⟨_,_,_,{G with st:=upd G.st i .iz,mp:=.walk f' (az++ [i]),act:=eW (eW G.act 0 (some ⟨M0,Ad2 y (Afb true (X.val i) true),(w.at d).setChan X.cN 0 #[] false (s+1) (s+1) false⟩)) (X.N0+i) (some ⟨M,Ad2 gj undef,(w.at d).setChan X.cN 0 #[] false (s+1) (s+1) false⟩),tr:=upd (upd G.tr 0 T0) (X.N0+i) Ti},bz,?_,?_⟩
 ·refine h.zb (by simp) rfl rfl ?_ (fun i' bu=>?_) ?_ (fun i' bu=>?_) (fun hc=>?_) (fun g h1 h2=>⟨?_,rfl,?_⟩) (fun g hg=>?_) ?_ ?_ (fun⟨_,_,e⟩=>by cases e) (fun hr i' bu=>?_) (fun⟨_,_,e⟩=>by cases e) Ed ?_ ?_ ⟨by rw[c1];exact h.base.size,h.base.tape,h.base.os,h.base.out⟩ qv (fun i' bu hq=>?_) rfl
  ·exact⟨fun _=>⟨_,_,.inl hp⟩,fun _=>⟨_,_,.inl rfl⟩⟩
  ·by_cases e:i'=i
   ·subst e;simp only[upd_same];rw[aQ];simp
   ·simp only[upd_ne _ _ e]
  ·refine⟨Ad2 y (Afb true (X.val i) true),?_,?_⟩
   ·rw[me,if_pos ⟨rfl,jW⟩];rfl
   ·exact⟨M0,(w.at d).setChan X.cN 0 #[] false (s+1) (s+1) false,Ad2 y (Afb true (X.val i) true),by simp only[bP _ _ (show 0≠X.N0+i by omega),fE],pV.refl rfl,by simp only[upd_ne _ _ (show 0≠X.N0+i by omega),upd_same];exact tt⟩
  ·by_cases e:i'=i
   ·subst e
    refine⟨Ad2 gj undef,?_,?_⟩
    ·rw[me,if_neg (by omega),if_pos ⟨rfl,mA⟩];rfl
    ·unfold WSit
     simp only[upd_same,fE];exact⟨M,_,rfl,rfl,G4⟩
   ·obtain⟨y',dZ,cD⟩:=h.wk i' bu
    refine⟨y',by rw[me,if_neg (by omega),if_neg (by omega)];exact dZ,?_⟩
    refine WSit.congr (G:=G) (by exact upd_ne _ _ e) ?_ ?_ (by exact rfl) cD
    ·simp only[bP _ _ (show X.N0+i'≠X.N0+i by omega),bP _ _ (show X.N0+i'≠0 by omega)]
    ·simp only[upd_ne _ _ (show X.N0+i'≠X.N0+i by omega),upd_ne _ _ (show X.N0+i'≠0 by omega)]
  ·obtain⟨y',dZ,cD⟩:=h.cl hc
   refine⟨y',by rw[me,if_neg (by omega),if_neg (by omega)];exact dZ,?_⟩
   refine CSit.congr (G:=G) (by exact rfl) ?_ ?_ (by exact rfl) cD
   ·simp only[bP _ _ (show X.N0+X.n≠X.N0+i by omega),bP _ _ (show X.N0+X.n≠0 by omega)]
   ·simp only[upd_ne _ _ (show X.N0+X.n≠X.N0+i by omega),upd_ne _ _ (show X.N0+X.n≠0 by omega)]
  ·rw[me,if_neg (by omega),if_neg (by omega)]
  ·simp only[bP _ _ (show g≠X.N0+i by omega),bP _ _ (show g≠0 by omega)]
   exact h.nN g h1 h2
  ·simp only[bP _ _ (show g≠X.N0+i by omega),bP _ _ (show g≠0 by omega)]
   exact h.mw g hg
  ·have hq:=Bv G.st (show i<X.n by omega) .iz
   have e1:(G.st i).q=0:=by rw[aQ];rfl
   have e2:WS.q .iz=0:=rfl;have de:=h.cnt;unfold mY at de |-
   simp only;rw[show sumTo X.n (fun a=>(upd G.st i .iz a).q)=sumTo X.n (fun a=>(G.st a).q) by omega]
   exact de
  ·refine⟨List.nodup_append.2 ⟨g1,by simp,fun a Hj b hb=>?_⟩,by simp only[List.length_append,Afr];omega,fun a=>?_⟩
   ·simp only[Afs] at hb
    subst hb;exact fun e=>xW (e▸Hj)
   ·by_cases e:a=i
    ·subst e
     simp only[Aft,Afs,or_true,upd_same,true_iff];exact⟨by omega,hn,rfl⟩
    ·simp only[Aft,Afs,e,or_false,upd_ne _ _ e]
     exact g3 a
  ·by_cases e:i'=i
   ·subst e;simp only[upd_same];simp
   ·simp only[upd_ne _ _ e];exact h.vN hr i' bu
  ·obtain⟨s',e'⟩:=h.kU
   exact⟨s',by rw[c2 _ h.neq];exact e'⟩
  ·exact⟨s+1,by rw[c3 h.wt.hN];unfold Gh.closed at eL |-;simp only;rw[eL]⟩
  ·have mD:G.st i'=.quit:=by
    by_cases e:i'=i
    ·subst e;simp only[upd_same] at hq;cases hq
    ·simp only[upd_ne _ _ e] at hq;exact hq
   exact(h.kq i' bu mD).app fun op ab _=>(qv op ab).1
 ·have hm:=AZ G.st (show i<X.n by omega) .iz
  have e1:(G.st i).w=4:=by rw[aQ];rfl
  have e2:WS.w .iz=3:=rfl;unfold Gh.mu;simp only[hp,MP.w];omega
theorem uT{i:Nat}{x y:Abe}:((gs.setIfInBounds 0 x).push y)[i]?=if i=gs.size then some y else if i=0/\0<gs.size then some x else gs[i]?:=by
 rw[Aah,Aek]
 by_cases h:i=gs.size
 ·rw[if_pos h,if_pos h]
 ·rw[if_neg h,if_neg h,one_set]
theorem Xu{N:Nat}{x1 x2:MemOp}(h1:x1.act=.go N)(h2:x2.act=.start):∀op∈#[x1,x2],op.act.touch? =none:=by
 intro op ab;simp only[Aee,Aef,Aeg,or_false] at ab;rcases ab with rfl|rfl
 ·rw[h1];rfl
 ·rw[h2];rfl
theorem alN(h:FI X wb gs w t G)(sl:Option (Nat×Nat))(hp:G.mp=.spawn){r:Nat}(hr:X.n - G.j=r+1){M:aaa}{aL:Aa4}{x:Abe}(hx:gs[0]?=some x)(ha:G.act 0=some ⟨M,x,aL⟩)
 (hS:StopA X (r+1) M x w):od X wb gs w sl t G 0:=by
 obtain⟨_,cg,child,dq,kG,xK,ZZ,eC⟩:=hS;have jX:=h.n0;have bj:G.cp.gC=true:=by
  cases e:G.cp.gC with
  |true=>rfl
  |false=>exact absurd (h.mc.2 e) (by rw[hp];rintro⟨_,_,e|e⟩<;>cases e)
 have yk:gs.size=X.N0+G.j:=by have:=h.size;rw[bj] at this;simpa using this
 have hi:X.n - (r+1)=G.j:=by omega
 rw[hi] at ZZ;have jZ:X.n - (G.j+1)=r:=by omega
 have jW:0<gs.size:=(Aaf.1 hx).1
 have bz:=runT_crowd_spawn (P:=X.P) (sl:=sl) (i:=0) hx (show Adn X.P (0==0) x w=_ from dq)
 rw[nM] at bz;have ya:(#[].push ({g:=0,fn:=x.frame.fn,pos:=x.frame.place,act:=.go gs.size}:MemOp) |>.push {g:=gs.size,fn:=child.frame.fn,pos:=x.frame.place,act:=.start})=#[{g:=0,fn:=x.frame.fn,pos:=x.frame.place,act:=.go gs.size},{g:=gs.size,fn:=child.frame.fn,pos:=x.frame.place,act:=.start}]:=rfl
 rw[ya] at bz;obtain⟨T0,tt⟩:=eC.tree;obtain⟨Tc,Dh⟩:=ZZ.tree;have Dv:=h.mw gs.size (Ac2 _);have tO:=h.wt.spawn ha Dv (by omega) (x:={g:=0,fn:=x.frame.fn,pos:=x.frame.place,act:=.go gs.size}) (y:={g:=gs.size,fn:=child.frame.fn,pos:=x.frame.place,act:=.start}) ⟨rfl,rfl⟩ ⟨rfl,rfl⟩ cg child
 have mC:=Xu (N:=gs.size) (x1:={g:=0,fn:=x.frame.fn,pos:=x.frame.place,act:=.go gs.size}) (x2:={g:=gs.size,fn:=child.frame.fn,pos:=x.frame.place,act:=.start}) rfl rfl;generalize hu:(#[{g:=0,fn:=x.frame.fn,pos:=x.frame.place,act:=.go gs.size},{g:=gs.size,fn:=child.frame.fn,pos:=x.frame.place,act:=.start}]:Adx)=u at bz tO mC;have Oe:∀op∈u,op.g<gs.size+1:=by
  rw[<-hu];intro op ab;simp only[Aee,Aef,Aeg,or_false] at ab;rcases ab with rfl|rfl
  ·exact Nat.succ_pos _
  ·exact Nat.lt_succ_self _
 have eL:G.closed=false:=by
  unfold Gh.closed;cases e:G.cp with
  |quit=>rw[e] at bj;cases bj
  |_=>rfl
 have old:∀ {k a},Ady (t++u) k=some a->Ady t k=some a/\(t++u).g? k= t.g? k:=by
  intro k a ha;obtain⟨op,ab,cB⟩:=Adz ha;rcases Ad0 ab with⟨_,bG⟩ | ⟨_,dN⟩
  ·exact⟨by rw[Ad1 bG];exact cB,by simp[Afp,ab,bG]⟩
  ·rw[mC op dN] at cB;cases cB
 have Nt:G.j<X.n:=by omega
 have Vi:G.st G.j=.no:=(h.uh G.j Nt).2 (Ac2 _);refine⟨_,_,_,{G with j:=G.j+1,st:=upd G.st G.j .ku,act:=eW (eW G.act 0 (some ⟨M.shared,cg,w⟩)) gs.size (some ⟨M.shared,child,w⟩),tr:=upd (upd G.tr 0 T0) gs.size Tc},bz,?_,?_⟩
 ·refine⟨?_,jX,by simp only;omega,fun hc=>(by have hc:G.cp.gC=false:=hc;rw[bj] at hc;cases hc),h.mc,fun i hi=>?_,?_,fun i hi=>?_,fun hc=>(by have hc:G.cp.gC=false:=hc;rw[bj] at hc;cases hc),fun g y h1 h2 hy=>?_,fun g h1 h2=>?_,fun g hg=>?_,?_,?_,fun⟨_,_,e⟩=>(by have e:G.mp=_:=e;rw[hp] at e;cases e),fun⟨r,e⟩=>?_,fun⟨_,_,e⟩=>(by have e:G.mp=_:=e;rw[hp] at e;cases e),tO,h.kU,h.kV,h.neq,h.base,fun k a ha hm g hg al=>?_,fun k g hg=>?_,fun i hi hq=>?_,fun hc k a ha=>?_,fun hc=>(by rw[show Gh.closed {G with j:=G.j+1,st:=upd G.st G.j .ku,act:=eW (eW G.act 0 (some ⟨M.shared,cg,w⟩)) gs.size (some ⟨M.shared,child,w⟩),tr:=upd (upd G.tr 0 T0) gs.size Tc}=G.closed from rfl,eL] at hc;cases hc)⟩
  ·simp only[Aem,Aek,bj,if_true];omega
  ·by_cases e:i=G.j
   ·subst e;simp only[upd_same];simp
   ·simp only[upd_ne _ _ e]
    rw[h.uh i hi];omega
  ·refine⟨cg,by rw[uT,if_neg (by omega),if_pos ⟨rfl,jW⟩],?_⟩
   unfold fM;simp only[hp,bP _ _ (show 0≠gs.size by omega),fE,upd_ne _ _ (show 0≠gs.size by omega),upd_same]
   exact⟨_,_,rfl,kG,by rw[jZ];exact tt⟩
  ·by_cases e:i=G.j
   ·subst e
    refine⟨child,by rw[uT,if_pos yk.symm],?_⟩
    unfold WSit;simp only[upd_same,<-yk,fE];exact⟨_,_,rfl,xK,Dh⟩
   ·have vm:i<G.j+1:=hi
    obtain⟨y',dZ,cD⟩:=h.wk i (by omega)
    refine⟨y',by rw[uT,if_neg (by omega),if_neg (by omega)];exact dZ,?_⟩
    exact WSit.congr (G:=G) (by exact upd_ne _ _ e) (by simp only[bP _ _ (show X.N0+i≠gs.size by omega),bP _ _ (show X.N0+i≠0 by omega)]) (by simp only[upd_ne _ _ (show X.N0+i≠gs.size by omega),upd_ne _ _ (show X.N0+i≠0 by omega)]) (by exact rfl) cD
  ·rw[uT,if_neg (by omega),if_neg (by omega)] at hy
   exact h.old g y h1 h2 hy
  ·simp only[bP _ _ (show g≠gs.size by omega),bP _ _ (show g≠0 by omega)]
   exact h.nN g h1 h2
  ·simp only[Aem,Aek] at hg
   simp only[bP _ _ (show g≠gs.size by omega),bP _ _ (show g≠0 by omega)]
   exact h.mw g (by omega)
  ·have hq:=Bv G.st Nt .ku
   have e1:(G.st G.j).q=0:=by rw[Vi];rfl
   have e2:WS.q .ku=0:=rfl;have de:=h.cnt;unfold mY at de |-
   simp only;rw[show sumTo X.n (fun a=>(upd G.st G.j .ku a).q)=sumTo X.n (fun a=>(G.st a).q) by omega]
   exact de
  ·have cA:=h.az
   unfold nf at cA |-
   simp only;rw[hp] at cA |-
   intro i hi hn;by_cases e:i=G.j
   ·subst e;rw[upd_same];rfl
   ·rw[upd_ne _ _ e];exact cA i hi hn
  ·simp only at e
   rw[e] at bj;cases bj
  ·obtain⟨a1,a2⟩:=old ha
   rw[a2] at hg;exact(h.vP k a a1 hm g hg al).app u
  ·simp only[Aem,Aek]
   unfold Afp at hg;obtain⟨op,ab,e⟩:=Aej.1 hg;rcases Ad0 ab with⟨_,bG⟩ | ⟨_,dN⟩
   ·have:=h.tj k g (by simp[Afp,bG,e]);omega
   ·rw[<-e];exact Oe op dN
  ·by_cases e:i=G.j
   ·subst e;simp only[upd_same] at hq;cases hq
   ·simp only[upd_ne _ _ e] at hq
    exact(h.kq i hi hq).app fun op ab _=>mC op ab
  ·exact h.yI eL k a (old ha).1
 ·have hm:=AZ G.st Nt .ku
  have e1:(G.st G.j).w=6:=by rw[Vi];rfl
  have e2:WS.w .ku=5:=rfl;unfold Gh.mu;simp only;omega
theorem alM(h:FI X wb gs w t G)(sl:Option (Nat×Nat))(hp:G.mp=.spawn)(hr:X.n - G.j=0){M:aaa}{aL:Aa4}{x:Abe}(hx:gs[0]?=some x)(ha:G.act 0=some ⟨M,x,aL⟩)
 (hS:StopA X 0 M x w):od X wb gs w sl t G 0:=by
 obtain⟨_,cg,child,dq,kG,xK,ZZ,eC⟩:=hS;have jX:=h.n0;have rG:=h.jn;have hj:G.j=X.n:=by omega
 have bj:G.cp.gC=true:=by
  cases e:G.cp.gC with
  |true=>rfl
  |false=>exact absurd (h.mc.2 e) (by rw[hp];rintro⟨_,_,e|e⟩<;>cases e)
 have o4:G.cp=.no:=by
  cases e:G.cp with
  |no=>rfl
  |_=>rw[e] at bj;cases bj
 have yk:gs.size=X.N0+X.n:=by have:=h.size;rw[bj] at this;simp at this;omega
 have jW:0<gs.size:=(Aaf.1 hx).1
 have bz:=runT_crowd_spawn (P:=X.P) (sl:=sl) (i:=0) hx (show Adn X.P (0==0) x w=_ from dq)
 rw[nM] at bz;have ya:(#[].push ({g:=0,fn:=x.frame.fn,pos:=x.frame.place,act:=.go gs.size}:MemOp) |>.push {g:=gs.size,fn:=child.frame.fn,pos:=x.frame.place,act:=.start})=#[{g:=0,fn:=x.frame.fn,pos:=x.frame.place,act:=.go gs.size},{g:=gs.size,fn:=child.frame.fn,pos:=x.frame.place,act:=.start}]:=rfl
 rw[ya] at bz;obtain⟨T0,tt⟩:=eC.tree;obtain⟨Tc,Dh⟩:=ZZ.tree;have Dv:=h.mw gs.size (Ac2 _);have tO:=h.wt.spawn ha Dv (by omega) (x:={g:=0,fn:=x.frame.fn,pos:=x.frame.place,act:=.go gs.size}) (y:={g:=gs.size,fn:=child.frame.fn,pos:=x.frame.place,act:=.start}) ⟨rfl,rfl⟩ ⟨rfl,rfl⟩ cg child
 have mC:=Xu (N:=gs.size) (x1:={g:=0,fn:=x.frame.fn,pos:=x.frame.place,act:=.go gs.size}) (x2:={g:=gs.size,fn:=child.frame.fn,pos:=x.frame.place,act:=.start}) rfl rfl;generalize hu:(#[{g:=0,fn:=x.frame.fn,pos:=x.frame.place,act:=.go gs.size},{g:=gs.size,fn:=child.frame.fn,pos:=x.frame.place,act:=.start}]:Adx)=u at bz tO mC;have Oe:∀op∈u,op.g<gs.size+1:=by
  rw[<-hu];intro op ab;simp only[Aee,Aef,Aeg,or_false] at ab;rcases ab with rfl|rfl
  ·exact Nat.succ_pos _
  ·exact Nat.lt_succ_self _
 have eL:G.closed=false:=by unfold Gh.closed;rw[o4]
 have old:∀ {k a},Ady (t++u) k=some a->Ady t k=some a/\(t++u).g? k= t.g? k:=by
  intro k a ha;obtain⟨op,ab,cB⟩:=Adz ha;rcases Ad0 ab with⟨_,bG⟩ | ⟨_,dN⟩
  ·exact⟨by rw[Ad1 bG];exact cB,by simp[Afp,ab,bG]⟩
  ·rw[mC op dN] at cB;cases cB
 refine⟨_,_,_,{G with mp:=.walk X.n [],cp:=.walk X.n,act:=eW (eW G.act 0 (some ⟨M.shared,cg,w⟩)) gs.size (some ⟨M.shared,child,w⟩),tr:=upd (upd G.tr 0 T0) gs.size Tc},bz,?_,?_⟩
 ·refine⟨?_,jX,rG,fun _=>hj,⟨fun _=>rfl,fun _=>⟨_,_,.inl rfl⟩⟩,h.uh,?_,fun i hi=>?_,fun _=>?_,fun g y h1 h2 hy=>?_,fun g h1 h2=>?_,fun g hg=>?_,?_,?_,fun⟨_,_,e⟩=>(by cases e),fun⟨r,e⟩=>(by cases e),fun⟨_,_,e⟩=>(by cases e),tO,h.kU,?_,h.neq,h.base,fun k a ha hm g hg al=>?_,fun k g hg=>?_,fun i hi hq=>(h.kq i hi hq).app fun op ab _=>mC op ab,fun hc k a ha=>h.yI eL k a (old ha).1,fun hc=>(by cases hc)⟩
  ·simp only[Aem,Aek,CP.gC];simp;omega
  ·refine⟨cg,by rw[uT,if_neg (by omega),if_pos ⟨rfl,jW⟩],?_⟩
   unfold fM;simp only[bP _ _ (show 0≠gs.size by omega),fE,upd_ne _ _ (show 0≠gs.size by omega),upd_same]
   exact⟨_,_,_,rfl,pV.refl kG,tt⟩
  ·have vm:i<G.j:=hi
   obtain⟨y',dZ,cD⟩:=h.wk i hi;refine⟨y',by rw[uT,if_neg (by omega),if_neg (by omega)];exact dZ,?_⟩
   exact WSit.congr (G:=G) (by exact rfl) (by simp only[bP _ _ (show X.N0+i≠gs.size by omega),bP _ _ (show X.N0+i≠0 by omega)]) (by simp only[upd_ne _ _ (show X.N0+i≠gs.size by omega),upd_ne _ _ (show X.N0+i≠0 by omega)]) (by exact rfl) cD
  ·refine⟨child,by rw[uT,if_pos yk.symm],?_⟩
   unfold CSit;simp only[<-yk,fE,upd_same];exact⟨_,_,rfl,xK,Dh⟩
  ·rw[uT,if_neg (by omega),if_neg (by omega)] at hy
   exact h.old g y h1 h2 hy
  ·simp only[bP _ _ (show g≠gs.size by omega),bP _ _ (show g≠0 by omega)]
   exact h.nN g h1 h2
  ·simp only[Aem,Aek] at hg
   simp only[bP _ _ (show g≠gs.size by omega),bP _ _ (show g≠0 by omega)]
   exact h.mw g (by omega)
  ·have de:=h.cnt
   unfold mY at de |-
   rw[o4] at de;simp only at de |-
   omega
  ·have cA:=h.az
   unfold nf at cA |-
   rw[hp] at cA;refine⟨List.nodup_nil,rfl,fun i=>⟨fun e=>(by cases e),fun⟨h1,h2,h3⟩=>?_⟩⟩
   rw[cA i h1 h2] at h3;cases h3
  ·obtain⟨s,e⟩:=h.kV
   rw[eL] at e;exact⟨s,e⟩
  ·obtain⟨a1,a2⟩:=old ha
   rw[a2] at hg;exact(h.vP k a a1 hm g hg al).app u
  ·simp only[Aem,Aek]
   unfold Afp at hg;obtain⟨op,ab,e⟩:=Aej.1 hg;rcases Ad0 ab with⟨_,bG⟩ | ⟨_,dN⟩
   ·have:=h.tj k g (by simp[Afp,bG,e]);omega
   ·rw[<-e];exact Oe op dN
 ·unfold Gh.mu
  simp only[hp,o4,MP.w,CP.w];omega
theorem WT.close{cL cN:Nat}{act:Nat->Option lH}(h:WT cL cN w t act)(dX:∀k a,Ady t k=some a->a.loc≠ .obj cN){x1 x2:MemOp}(hg:x1.g=x2.g)(h1:x1.act=.access ⟨.obj cN,false,true⟩)(h2:x2.act=.close cN){w':Aa4}
 (hs:w'.heap.size=w.heap.size)(hk:∀b,b≠cN->w'.heap[b]?=w.heap[b]?)(ht:w'.tape=w.tape)(ho:w'.os=w.os)(hp:w'.output=w.output):WT cL cN w' (t++#[x1,x2]) act:=by
 have mem:∀op∈#[x1,x2],op=x1\/op=x2:=fun op ab=>by simpa using ab
 have sp:∀ {k a},Ady (t++#[x1,x2]) k=some a->Ady t k=some a\/a.loc=.obj cN:=by
  intro k a ha;obtain⟨op,ab,cB⟩:=Adz ha;rcases Ad0 ab with⟨_,bG⟩ | ⟨_,dN⟩
  ·exact .inl (by rw[Ad1 bG];exact cB)
  ·rcases mem op dN with rfl|rfl
   ·rw[h1] at cB;simp[MemAct.touch?] at cB;subst cB;exact .inr rfl
   ·rw[h2] at cB;cases cB
 refine⟨fun g j e=>(h.keep g j e).trans ⟨by rw[hs];exact Ac2 _,fun b hb=>hk b (h.low g j e b hb).2.2,ht,ho,hp⟩,h.mq,fun g j e b hb=>by rw[hs];exact h.low g j e b hb,fun op ab=>?_,h.nd.app fun op ab=>?_,fun said=>?_,fun g j e k a ha b hb hc=>?_,by rw[hs];exact h.hL,by rw[hs];exact h.hN⟩
 ·rw[hs]
  rcases Aad.1 ab with ab|ab
  ·exact h.tl op ab
  ·rcases mem op ab with rfl|rfl
   ·rw[h1];exact h.hN
   ·rw[h2];exact h.hN
 ·rcases mem op ab with rfl|rfl
  ·rw[h1];simp
  ·rw[h2];simp
 ·refine noRace_append (g:=x1.g) (h.clean said) (fun op ab=>by rcases mem op ab with rfl|rfl;rfl;exact hg.symm) fun k a ha op ab b hb hc=>?_
  rcases mem op ab with rfl|rfl
  ·rw[h1] at hb
   simp[MemAct.touch?] at hb;subst hb;exact absurd hc.1 (dX k a ha)
  ·rw[h2] at hb;cases hb
 ·rcases sp ha with ha|ha
  ·exact(h.perm g j e k a ha b hb hc).app _
  ·exfalso
   have:rh a.loc cN:=.inl ha;obtain rfl:=OP hb this;exact(h.low g j e b (hc.imp id (·.1))).2.2 rfl
theorem closes(h:FI X wb gs w t G)(sl:Option (Nat×Nat))(hp:G.cp=.walk 0){M:aaa}{aL:Aa4}{x:Abe}(hx:gs[X.N0+X.n]?=some x)(ha:G.act (X.N0+X.n)=some ⟨M,x,aL⟩)
 (hS:AtClose X M x w):od X wb gs w sl t G (X.N0+X.n):=by
 obtain⟨hrx,afR,fY⟩:=hS;have jX:=h.n0;have bj:G.cp.gC=false:=by rw[hp];rfl
 have o8:=h.jc bj;have eL:G.closed=false:=by unfold Gh.closed;rw[hp]
 obtain⟨s,hc⟩:=h.kV;rw[eL] at hc;obtain⟨cg,k,dq,hq⟩:=fY s s hc;have eA:∀i,i<X.n->G.st i=.quit:=by
  have de:=h.cnt;unfold mY at de;rw[hp] at de;exact P6 _ _ (by simpa using de)
 have tF:X.N0+X.n<gs.size:=(Aaf.1 hx).1
 have bz:=Afe (P:=X.P) (sl:=sl) (i:=X.N0+X.n) hx (by rw[h.sX];exact dq)
 have rF:MemOp.ofEvents (X.N0+X.n) x.frame.fn x.frame.place #[⟨.obj X.cN,false,true⟩,⟨.obj X.cN,true,true⟩]=#[{g:=X.N0+X.n,fn:=x.frame.fn,pos:=x.frame.place,act:=.access ⟨.obj X.cN,false,true⟩},{g:=X.N0+X.n,fn:=x.frame.fn,pos:=x.frame.place,act:=.close X.cN}]:=by
  rw[ofEvents_eq];simp[MemAct.ofEvent]
 rw[rF] at bz;have Vc:(w.shut X.cN s s false).heap.size=w.heap.size:=by simp[World.shut]
 have Vd:∀b,b≠X.cN->(w.shut X.cN s s false).heap[b]?=w.heap[b]?:=fun b hb=>by simp only[World.shut];rw[Adc (Aei hb)]
 have Ve:(w.shut X.cN s s false).heap[X.cN]?=some (.chan 0 #[] true s s false):=by simp[World.shut,h.wt.hN]
 have tO:=h.wt.close (h.yI eL) (x1:={g:=X.N0+X.n,fn:=x.frame.fn,pos:=x.frame.place,act:=.access ⟨.obj X.cN,false,true⟩}) (x2:={g:=X.N0+X.n,fn:=x.frame.fn,pos:=x.frame.place,act:=.close X.cN}) rfl rfl rfl (w':=w.shut X.cN s s false) Vc Vd rfl rfl rfl;have aeb:∃s',(w.shut X.cN s s false).heap[X.cL]?=some (.chan 0 #[] false s' s' false):=by
  obtain⟨s',e⟩:=h.kU;exact⟨s',by rw[Vd _ h.neq];exact e⟩
 have aez:cg.status=.running\/cg.status=.finished:=hq.status;have vE:∀y,Ad4 X.P x cg (w.shut X.cN s s false) y=y.again (w.shut X.cN s s false):=by
  intro y;unfold Ad4;rw[afR];rcases aez with e|e<;>rw[e]<;>rfl
 have gq:∀ {i:Nat} {y:Abe},i≠0->i≠X.N0+X.n->gs[i]?=some y->((gs.map (Ad4 X.P x cg (w.shut X.cN s s false))).setIfInBounds (X.N0+X.n) cg)[i]?=some y:=by
  intro i y cR DD hy;rw[Adc (Aei DD),Ade,hy,Afu]
  have:∃n,QuitsIn X.P n y:=by
   rcases h.sI (Aaf.1 hy).1 with e| ⟨h1,h2⟩ | ⟨i',bu,rfl⟩ | ⟨e,_⟩
   ·exact absurd e cR
   ·exact⟨_,h.old i y h1 h2 hy⟩
   ·obtain⟨y',dZ,cD⟩:=h.wk i' bu
    rw[hy] at dZ;obtain rfl:=Ac5 dZ;unfold WSit at cD;rw[eA i' (by omega)] at cD
    exact⟨_,cD.2⟩
   ·exact absurd e DD
  obtain⟨n,hn⟩:=this;rw[woken_quits hn]
 have gc:((gs.map (Ad4 X.P x cg (w.shut X.cN s s false))).setIfInBounds (X.N0+X.n) cg)[X.N0+X.n]?=some cg:=Mn tF cg;have aI:((gs.map (Ad4 X.P x cg (w.shut X.cN s s false))).setIfInBounds (X.N0+X.n) cg).size=gs.size:=by simp
 have ND:∃y f az,(G.mp=.walk f az\/G.mp=.db f az)/\((gs.map (Ad4 X.P x cg (w.shut X.cN s s false))).setIfInBounds (X.N0+X.n) cg)[0]?=some y/\∃M aL y',G.act 0=some ⟨M,y',aL⟩/\pV y y'/\sZ X.P true (nj X f az) (G.tr 0) M y' aL:=by
  obtain⟨y,hy,hs⟩:=h.main;have Tz:((gs.map (Ad4 X.P x cg (w.shut X.cN s s false))).setIfInBounds (X.N0+X.n) cg)[0]?=some (Ad4 X.P x cg (w.shut X.cN s s false) y):=by
   rw[Adc (by omega),Ade,hy,Afu]
  unfold fM at hs;cases e:G.mp with
  |spawn=>exact absurd (h.mc.2 bj) (by rw[e];rintro⟨_,_,e|e⟩<;>cases e)
  |walk f az=>
   rw[e] at hs;obtain⟨M,aL,y',h1,h2,h3⟩:=hs;exact⟨y,f,az,.inl rfl,by rw[Tz,woken_run h2.2.2.2],M,aL,y',h1,h2,h3⟩
  |db f az=>
   rw[e] at hs;obtain⟨M,aL,y',z,h1,h2,h3⟩:=hs;refine⟨{Ad3 y' #[Aez X.cN z] (.recv true) with status:=.running},f,az,.inr rfl,?_,M,aL,y',h1,⟨rfl,rfl,rfl,rfl⟩,.stop h3⟩
   rw[Tz,vE,h2,again_recv_closed Ve]
 obtain⟨y0,f,az,rO,hy0,M0,v0,y0',qf,ik,tt⟩:=ND;refine⟨_,_,_,{G with mp:=.walk f az,cp:=.quit,act:=eW G.act (X.N0+X.n) none,q:=upd G.q (X.N0+X.n) k},bz,?_,?_⟩
 ·refine⟨aI.trans ?_,jX,h.jn,fun _=>o8,⟨fun _=>rfl,fun _=>⟨_,_,.inl rfl⟩⟩,h.uh,⟨y0,hy0,?_⟩,fun i hi=>?_,fun _=>⟨cg,gc,?_⟩,fun g y h1 h2 hy=>?_,fun g h1 h2=>?_,fun g hg=>?_,?_,?_,fun⟨_,_,e⟩=>(by cases e),fun⟨r,e⟩=>(by cases e),fun⟨_,_,e⟩=>(by cases e),tO.drop _,aeb,⟨s,Ve⟩,h.neq,⟨by rw[Vc];exact h.base.size,h.base.tape,h.base.os,h.base.out⟩,fun i a Nr hm g hg al=>?_,fun i g hg=>?_,fun i hi pe=>?_,(fun hc=>by cases hc),fun _=>?_⟩
  ·rw[h.size,bj];rfl
  ·unfold fM
   simp only[bP _ _ (show 0≠X.N0+X.n by omega)]
   exact⟨M0,v0,y0',qf,ik,tt⟩
  ·have vm:i<G.j:=hi
   obtain⟨y',dZ,cD⟩:=h.wk i hi;refine⟨y',gq (by omega) (by omega) dZ,?_⟩
   exact WSit.congr (G:=G) (by exact rfl) (by simp only[bP _ _ (show X.N0+i≠X.N0+X.n by omega)]) (by exact rfl) (by simp only[upd_ne _ _ (show X.N0+i≠X.N0+X.n by omega)]) cD
  ·unfold CSit
   simp only[fE,upd_same];exact⟨trivial,hq⟩
  ·have qH:gs[g]?=some y:=by
    have al:g<gs.size:=by rw[<-aI];exact(Aaf.1 hy).1
    have e1:=gq (i:=g) (y:=gs[g]) (by omega) (by omega) (Adb al)
    rw[hy] at e1;rw[Adb al]
    exact e1.symm
   simp only[upd_ne _ _ (show g≠X.N0+X.n by omega)]
   exact h.old g y h1 h2 qH
  ·simp only[bP _ _ (show g≠X.N0+X.n by omega)]
   exact h.nN g h1 h2
  ·rw[aI] at hg
   simp only[bP _ _ (show g≠X.N0+X.n by omega)]
   exact h.mw g hg
  ·have de:=h.cnt
   unfold mY at de |-
   rw[hp] at de;simpa using de
  ·have cA:=h.az
   unfold nf at cA |-
   rcases rO with e|e<;>rw[e] at cA<;>exact cA
  ·obtain⟨op,ab,cB⟩:=Adz Nr
   rcases Ad0 ab with⟨_,bG⟩ | ⟨_,dN⟩
   ·exact(h.vP i a (by rw[Ad1 bG];exact cB) hm g (by simpa [Afp,ab,bG] using hg) al).app _
   ·exfalso
    have e:op.g=g:=by simpa [Afp,ab] using hg
    simp only[Aee,Aef,Aeg,or_false] at dN;rcases dN with rfl|rfl<;>(simp only at e;omega)
  ·rw[aI]
   unfold Afp at hg;obtain⟨op,ab,e⟩:=Aej.1 hg;rcases Ad0 ab with⟨_,bG⟩ | ⟨_,dN⟩
   ·exact h.tj i g (by simp[Afp,bG,e])
   ·simp only[Aee,Aef,Aeg,or_false] at dN
    rcases dN with rfl|rfl<;>(simp only at e;omega)
  ·refine(h.kq i hi pe).app fun op ab e=>?_
   exfalso;simp only[Aee,Aef,Aeg,or_false] at ab;rcases ab with rfl|rfl<;>(simp only at e;omega)
  ·have e1:(t++#[({g:=X.N0+X.n,fn:=x.frame.fn,pos:=x.frame.place,act:=.access ⟨.obj X.cN,false,true⟩}:MemOp),{g:=X.N0+X.n,fn:=x.frame.fn,pos:=x.frame.place,act:=.close X.cN}])[t.size+1]?=some {g:=X.N0+X.n,fn:=x.frame.fn,pos:=x.frame.place,act:=.close X.cN}:=by
    rw[Adf (by omega)];simp
   refine⟨t.size+1,_,e1,rfl,rfl,fun i a Nr g hg jU=>?_⟩
   obtain⟨op,ab,cB⟩:=Adz Nr;rcases Ad0 ab with⟨_,bG⟩ | ⟨aoj,dN⟩
   ·have D5:Ady t i=some a:=by rw[Ad1 bG];exact cB
    have As: t.g? i=some g:=by simpa [Afp,ab,bG] using hg
    have al:=h.tj i g As;have da:Knows t (X.N0+X.n) i:=by
     rcases h.sI al with e| ⟨_,e⟩ | ⟨i',bu,e⟩ | ⟨e,_⟩
     ·omega
     ·omega
     ·subst e;exact h.kq i' (by omega) (eA i' (by omega)) i a D5 As
     ·subst e;exact sU.self t _ i a D5 As
    exact .inr (da.hb_new (by omega) e1 rfl)
   ·have Dz:i=t.size:=by
     have:= Ae6 ab;simp at this;by_cases e:i=t.size
     ·exact e
     ·have e3:i=t.size+1:=by omega
      subst e3;rw[e1] at ab;obtain rfl:=Ac5 ab;cases cB
    subst Dz;exact .inr (hb_po (by omega) ab e1 (by simp only[Aee,Aef,Aeg,or_false] at dN;rcases dN with rfl|rfl<;>rfl))
 ·unfold Gh.mu
  simp only[hp,CP.w,MP.w];rcases rO with e|e<;>rw[e]<;>simp only[MP.w]<;>omega
def Ends(X:Pm)(wb:Aa4)(aT:Array Abe)(w':Aa4)(t':Adx):Prop:=
 ∃q' g' M az,Fr X.P aT w' t' q' g'/\X.End az M g' w'/\az.Nodup/\(∀i,i∈az↔i<X.n/\X.eU i=true)/\Base wb w'/\∀b,M.has b->b<w'.heap.size
theorem ends(h:FI X wb gs w t G)(sl:Option (Nat×Nat))(fY:G.closed=true){f:Nat}{az:List Nat}(hp:G.mp=.walk f az){M:aaa}{v0:Aa4}{x y:Abe}(h0:gs[0]?=some x)(ha:G.act 0=some ⟨M,y,v0⟩)(ik:pV x y)
 (hR:nj X f az M y w):∃aT u,runT X.P (Afa gs w sl) 0=(.next (Afa aT w sl),u)/\Ends X wb aT w (t++u):=by
 obtain⟨_,_,z,dq,qk⟩:=hR.at;have jX:=h.n0;have bj:=CP.aaP fY;have o8:=h.jc bj;have eA:=h.Gk fY;obtain⟨s,hc⟩:=h.kV;rw[fY] at hc;have xX:Aes (gs.setIfInBounds 0 ph) X.cN true=[]:=by
  refine Ae9 fun j y hy=>?_
  rcases Ae7 gs _ j y hy with⟨_,rfl⟩ | ⟨hj,hy⟩
  ·exact Ae8 _ _
  ·cases hl:Ae0 y X.cN true with
   |nil=>rfl
   |cons a l=>
    exfalso;obtain⟨e,g,v,z',hyp⟩:=O6 h (m:=a) hy (by rw[hl];simp)
    rw[hyp] at hy;obtain⟨i,_,_,_,hi,_,aQ,_⟩:=h.Lt hy;rw[eA i (by omega)] at aQ
    cases aQ
 have pf:Adn X.P (0==0) x w=.comm y #[Aez X.cN z] true (.recv true) w #[]:=by
  rw[Afd ik.1 ik.2.1 ik.2.2.1];exact dq
 have bz:=crowd_recv_closed (P:=X.P) (sl:=sl) h0 pf hc xX;rw[nM,Ael] at bz;have jW:0<gs.size:=(Aaf.1 h0).1
 let y1:MemOp:={g:=0,fn:=y.frame.fn,pos:=y.frame.place,act:=.recvClosed X.cN}
 have hm:=h.wt.mute (u:=#[y1]) (w':=w) (fun op ab=>by
  simp only[Aee,Afs] at ab;subst ab;exact⟨rfl,h.wt.hN,by simp[y1],by simp[y1]⟩) rfl (fun _ _ _=>rfl) rfl rfl rfl
 have e1:(t++#[y1])[t.size]?=some y1:=by rw[Adf (Ac2 _)];simp
 obtain⟨c,zc,c1,c2,c3,c4⟩:=h.CN fY;have ec:(t++#[y1])[c]?=some zc:=by rw[getElem?_append_old (Ae6 c1)];exact c1
 have Uy:∀k a,Ady (t++#[y1]) k=some a->a.loc.isMemory=true->Knows (t++#[y1]) 0 k:=by
  intro k a vp hmm;obtain⟨op,ab,cB⟩:=Adz vp;rcases Ad0 ab with⟨hk,bG⟩ | ⟨_,dN⟩
  ·have D5:Ady t k=some a:=by rw[Ad1 bG];exact cB
   by_cases hg:op.g<X.N0
   ·exact(h.vP k a D5 hmm op.g (by simp[Afp,bG]) hg).app _
   ·have hb:=c4 k a D5 op.g (by simp[Afp,bG]) (by omega)
    have abI:HappensBefore (t++#[y1]) c t.size:=.single (.inr ⟨.closed (c:=X.cN) (by rw[act?_of ec,c2]) (by rw[act?_of e1]),IA hm.nd ec,IA hm.nd e1⟩)
    exact⟨t.size,y1,e1,rfl,.inr ((hb.app #[y1]).hb abI)⟩
  ·simp only[Aee,Afs] at dN
   subst dN;cases cB
 have Aq:∀op∈t++#[y1],op.g<(gs.setIfInBounds 0 (Ad2 y (Afb true z false))).size:=by
  intro op ab;rw[Aek];obtain⟨k,hk⟩:=Aen ab
  rcases Ad0 hk with⟨_,rH⟩ | ⟨_,rH⟩
  ·exact h.tj k op.g (by simp[Afp,rH])
  ·simp only[Aee,Afs] at rH
   subst rH;exact jW
 refine⟨_,_,bz,G.q,Ad2 y (Afb true z false),M,az,⟨by rw[one_set,if_pos ⟨rfl,jW⟩];rfl,fun i xi hi Ee=>?_,⟨hm.clean,fun k a vp hmm=>.inl (Uy k a vp hmm),fun k g hg aw de=>?_,EG hm.nd 0,hm.tl⟩,hm.nd,Aq⟩,qk,?_,?_,h.base,fun b hb=>(h.wt.low 0 _ ha b hb).1⟩
 ·rw[one_set,if_neg (by omega)] at Ee
  rcases h.sI (Aaf.1 Ee).1 with e| ⟨h1,h2⟩ | ⟨i',bu,rfl⟩ | ⟨rfl,_⟩
  ·omega
  ·exact h.old i xi h1 h2 Ee
  ·obtain⟨y',dZ,cD⟩:=h.wk i' bu
   rw[Ee] at dZ;obtain rfl:=Ac5 dZ;unfold WSit at cD;rw[eA i' (by omega)] at cD
   exact cD.2
  ·obtain⟨y',dZ,cD⟩:=h.cl bj
   rw[Ee] at dZ;obtain rfl:=Ac5 dZ;unfold CSit at cD;unfold Gh.closed at fY;cases e:G.cp with
   |quit=>rw[e] at cD;exact cD.2
   |_=>rw[e] at fY;cases fY
 ·obtain⟨a,ha,hmm,_⟩:=de
  obtain⟨q,z',tH,tI,NW⟩:=Uy k a ha hmm;rcases NW with rfl|NW
  ·exfalso
   apply aw;have:(t++#[y1]).g? k=some z'.g:=by unfold Afp;rw[tH];rfl
   have e:some z'.g=some g:=this.symm.trans hg;rw[tI] at e;exact(Ac5 e).symm
  ·exact⟨q,by unfold Afp;rw[tH,Afu,tI],NW⟩
 ·have cA:=h.az
  unfold nf at cA;rw[hp] at cA;exact cA.1
 ·have cA:=h.az
  unfold nf at cA;rw[hp] at cA;intro i;rw[cA.2.2 i];exact⟨fun⟨a,b,_⟩=>⟨a,b⟩,fun⟨a,b⟩=>⟨a,b,by rw[eA i a];rfl⟩⟩
def Gc(X:Pm)(G' G:Gh):Prop:=
 G'.mu X<G.mu X\/(G'.mu X=G.mu X/\(zy (X.N0+X.n+1) G'.tr G.tr\/(G'.tr=G.tr/\sumTo (X.N0+X.n+1) G'.q<sumTo (X.N0+X.n+1) G.q)))
theorem acy(h:FI X wb gs w t G)(sl:Option (Nat×Nat)):
 (∃aT w' bm u,stepT X.P (Afa gs w sl)=(.next (Afa aT w' bm),u)/\Ends X wb aT w' (t++u))\/
 ∃aT w' bm u G',stepT X.P (Afa gs w sl)=(.next (Afa aT w' bm),u)/\FI X wb aT w' (t++u) G'/\Gc X G' G:=by
 obtain⟨k,x,d,bm,hx,bz,aQ⟩:=crowd_pick (P:=X.P) (w:=w) (sl:=sl) h.awake h.alx;have h1:=h.at d;have jX:=h.n0;have rG:=h.jn;have pX:od X wb gs (w.at d) bm t G k->∃aT w' bm u G',stepT X.P (Afa gs w sl)=(.next (Afa aT w' bm),u)/\FI X wb aT w' (t++u) G'/\Gc X G' G:=by
  rintro⟨aT,w',u,G',r1,r2,r3⟩;exact⟨aT,w',bm,u,G',aQ.trans r1,r2,.inl r3⟩
 have Cz:∀ {j:lH} {T':Tree} {g':Abe} {w':Aa4} {es:Array Event},G.act k=some j->Adn X.P (k==0) x (w.at d)=.go g' w' es->eO j.M (w.at d) w' es->Tree.lt T' (G.tr k)->k<X.N0+X.n+1->
  Rp X {G with act:=eW G.act k (some ⟨j.M.grow (w.at d) w',g',w'⟩),tr:=upd G.tr k T'} k g'->∃aT w' bm u G',stepT X.P (Afa gs w sl)=(.next (Afa aT w' bm),u)/\FI X wb aT w' (t++u) G'/\Gc X G' G:=by
  intro j T' g' w' es ot dq hd hT hk qF;refine⟨_,w',bm,_,_,aQ.trans (Afe hx dq),h1.own hx ot hd T' _ _ qF,.inr ⟨rfl,.inl ⟨k,hk,?_,fun i hi=>?_⟩⟩⟩
  ·show Tree.lt (upd G.tr k T' k) _
   rw[upd_same];exact hT
  ·exact upd_ne _ _ hi
 have LB:QuitsIn X.P (G.q k) x->k<X.N0+X.n+1->k≠0->((0<k/\k<X.N0)\/(∃i,i<G.j/\k=X.N0+i/\G.st i=.quit)\/(k=X.N0+X.n/\G.closed=true))->∃aT w' bm u G',stepT X.P (Afa gs w sl)=(.next (Afa aT w' bm),u)/\FI X wb aT w' (t++u) G'/\Gc X G' G:=by
  intro hq hk iM qF;have aeI:(k==0)=false:=by simpa using iM
  cases NY:G.q k with
  |zero=>rw[NY] at hq;rw[show x.status=.finished from hq] at bz;cases bz
  |succ m=>
   rw[NY] at hq;rcases hq with hf| ⟨_,g',D3,mD⟩
   ·rw[hf] at bz;cases bz
   have hr:=Afe (P:=X.P) (sl:=bm) (i:=k) hx (by rw[aeI];exact D3 (w.at d))
   rw[nM] at hr;refine⟨_,w.at d,bm,#[],{G with q:=upd G.q k m},aQ.trans hr,by rw[Aag];exact h1.ajL hx qF mD,.inr ⟨rfl,.inr ⟨rfl,?_⟩⟩⟩
   have Zb:sumTo (X.N0+X.n+1) (upd G.q k m)+(m+1)=sumTo (X.N0+X.n+1) G.q+m:=by
    have:=sumTo_upd G.q m id hk;simpa [NY] using this
   show sumTo (X.N0+X.n+1) (upd G.q k m)<_;omega
 rcases h.sI (Aaf.1 hx).1 with rfl| ⟨k1,k2⟩ | ⟨i,hi,rfl⟩ | ⟨rfl,bj⟩
 ·
  obtain⟨x',jz,hs⟩:=h.main;rw[hx] at jz;obtain rfl:=Ac5 jz;unfold fM at hs;cases e:G.mp with
  |spawn=>
   rw[e] at hs;obtain⟨M,aL,ha,hr,hT⟩:=hs;have hk:=h1.wt.keep 0 _ ha;rcases hT.rv with lS| ⟨_,hgo⟩
   ·right
    cases jZ:X.n - G.j with
    |zero=>exact pX (alM h1 bm e jZ hx ha (by rw[jZ] at lS;exact lS _ hk))
    |succ r=>exact pX (alN h1 bm e jZ hx ha (by rw[jZ] at lS;exact lS _ hk))
   ·right
    obtain⟨T',g',w',es,al,dq,hd,lO⟩:=hgo _ hk;refine Cz ha dq hd al (by omega) (.inl ⟨rfl,?_⟩)
    unfold fM;simp only[e,fE,upd_same];refine⟨_,_,rfl,?_,lO⟩
    rcases lO.rv with dD| ⟨jZ,_⟩
    ·have:=dD _ (bN.refl _ _)
     revert this
     cases X.n - G.j with
     |zero=>exact fun h=>h.1
     |succ r=>exact fun h=>h.1
    ·exact jZ
  |walk f az=>
   rw[e] at hs;obtain⟨M,aL,y,ha,ik,hT⟩:=hs;have hk:=h1.wt.keep 0 _ ha;rcases hT.rv with lS| ⟨_,hgo⟩
   ·by_cases fY:G.closed=true
    ·left
     obtain⟨aT,u,r1,r2⟩:=ends h1 bm fY e hx ha ik (lS _ hk);exact⟨aT,_,bm,u,aQ.trans r1,r2⟩
    ·right
     by_cases hex:∃i,i<X.n/\G.st i=.iR
     ·exact pX (ajV h1 bm e hx ha ik lS hex)
     ·exact pX (ajW h1 bm e hx ha ik lS (by simpa using fY) hex)
   ·right
    obtain⟨T',g',w',es,al,dq,hd,lO⟩:=hgo _ hk;have afB:Adn X.P (0==0) x (w.at d)=.go g' w' es:=by rw[Afd ik.1 ik.2.1 ik.2.2.1];exact dq
    refine Cz ha afB hd al (by omega) (.inl ⟨rfl,?_⟩)
    unfold fM;simp only[e,fE,upd_same];refine⟨_,_,_,rfl,pV.refl ?_,lO⟩
    rcases lO.rv with dD| ⟨jZ,_⟩
    ·exact(dD _ (bN.refl _ _)).at.1
    ·exact jZ
  |db f az=>
   rw[e] at hs;obtain⟨M,aL,y,z,ha,hr,hT⟩:=hs;rw[hr] at bz;cases bz
 ·right;exact LB (h.old k x k1 k2 hx) (by omega) (by omega) (.inl ⟨k1,k2⟩)
 ·
  right;obtain⟨x',jz,hs⟩:=h.wk i hi;rw[hx] at jz;obtain rfl:=Ac5 jz;have qh:(X.N0+i==0)=false:=h.sX i;have XI:∀ {M:aaa} {aL:Aa4},wI X G i->G.act (X.N0+i)=some ⟨M,x,aL⟩->W2 X M x (w.at d)->od X wb gs (w.at d) bm t G (X.N0+i):=by
   intro M aL hd ha hW;by_cases hp:∃r,G.cp=.db r
   ·obtain⟨r,hp⟩:=hp
    exact alf h1 bm hi hd hx ha hW hp
   ·exact alg h1 bm hi hd hx ha hW hp
  unfold WSit at hs;cases e:G.st i with
  |no=>rw[e] at hs;exact hs.elim
  |ku=>
   rw[e] at hs;obtain⟨M,aL,ha,hr,hT⟩:=hs;have hk:=h1.wt.keep _ _ ha;rcases hT.rv with lS| ⟨_,hgo⟩
   ·rcases lS _ hk with⟨hn,hS⟩ | ⟨hn,hS⟩
    ·by_cases hp:∃f az,G.mp=.db f az
     ·obtain⟨f,az,hp⟩:=hp
      exact pX (alh h1 bm hi e hx ha hn hS hp)
     ·exact pX (ali h1 bm hi e hx ha hn hS hp)
    ·exact pX (XI (.inr ⟨e,hn⟩) ha hS)
   ·obtain⟨T',g',w',es,al,dq,hd,lO⟩:=hgo _ hk
    refine Cz ha (by rw[qh];exact dq) hd al (by omega) (.inr (.inl ⟨i,hi,rfl,?_⟩))
    unfold WSit;simp only[e,fE,upd_same];refine⟨_,_,rfl,?_,lO⟩
    rcases lO.rv with dD| ⟨jZ,_⟩
    ·rcases dD _ (bN.refl _ _) with⟨_,hS⟩ | ⟨_,hS⟩
     ·exact hS.1
     ·exact hS.1
    ·exact jZ
  |iR=>
   rw[e] at hs;obtain⟨M,aL,y,z,ha,hr,_⟩:=hs;rw[hr] at bz;cases bz
  |iz=>
   rw[e] at hs;obtain⟨M,aL,ha,hr,hT⟩:=hs;have hk:=h1.wt.keep _ _ ha;rcases hT.rv with lS| ⟨_,hgo⟩
   ·exact pX (XI (.inl e) ha (lS _ hk))
   ·obtain⟨T',g',w',es,al,dq,hd,lO⟩:=hgo _ hk
    refine Cz ha (by rw[qh];exact dq) hd al (by omega) (.inr (.inl ⟨i,hi,rfl,?_⟩))
    unfold WSit;simp only[e,fE,upd_same];refine⟨_,_,rfl,?_,lO⟩
    rcases lO.rv with dD| ⟨jZ,_⟩
    ·exact(dD _ (bN.refl _ _)).1
    ·exact jZ
  |iu=>
   rw[e] at hs;obtain⟨M,aL,y,z,ha,hr,_⟩:=hs;rw[hr] at bz;cases bz
  |quit=>
   rw[e] at hs;exact LB hs.2 (by omega) (by omega) (.inr (.inl ⟨i,hi,rfl,e⟩))
 ·
  right;obtain⟨x',jz,hs⟩:=h.cl bj;rw[hx] at jz;obtain rfl:=Ac5 jz;have qh:(X.N0+X.n==0)=false:=h.sX X.n;unfold CSit at hs;cases e:G.cp with
  |no=>rw[e] at hs;exact hs.elim
  |walk r=>
   rw[e] at hs;obtain⟨M,aL,ha,hr,hT⟩:=hs;have hk:=h1.wt.keep _ _ ha;rcases hT.rv with lS| ⟨_,hgo⟩
   ·cases r with
    |zero=>exact pX (closes h1 bm e hx ha (lS _ hk))
    |succ r=>
     by_cases hex:∃i,i<X.n/\G.st i=.iu
     ·exact pX (ajT h1 bm e hx ha (lS _ hk) hex)
     ·exact pX (ajU h1 bm e hx ha (lS _ hk) hex)
   ·obtain⟨T',g',w',es,al,dq,hd,lO⟩:=hgo _ hk
    refine Cz ha (by rw[qh];exact dq) hd al (by omega) (.inr (.inr ⟨rfl,bj,?_⟩))
    unfold CSit;simp only[e,fE,upd_same];refine⟨_,_,rfl,?_,lO⟩
    rcases lO.rv with dD| ⟨jZ,_⟩
    ·have:=dD _ (bN.refl _ _)
     revert this
     cases r with
     |zero=>exact fun h=>h.1
     |succ r=>exact fun h=>h.1
    ·exact jZ
  |db r=>
   rw[e] at hs;obtain⟨r',M,aL,y,z,_,ha,hr,_⟩:=hs;rw[hr] at bz;cases bz
  |quit=>
   rw[e] at hs;exact LB hs.2 (by omega) (by omega) (.inr (.inr ⟨rfl,by unfold Gh.closed;rw[e]⟩))
theorem acx:∀ {gs:Array Abe} {w:Aa4} {t:Adx} {G:Gh} (sl:Option (Nat×Nat)),FI X wb gs w t G->
 ∃N aT w' bm t',Aet X.P N (Afa gs w sl) t=(.next (Afa aT w' bm),t')/\Ends X wb aT w' t':=by
 have key:∀(m:Nat) (tr:Nat->Tree),Acc (zy (X.N0+X.n+1)) tr->∀(s:Nat) {gs:Array Abe} {w:Aa4} {t:Adx} {G:Gh} (sl:Option (Nat×Nat)),G.mu X=m->G.tr=tr->sumTo (X.N0+X.n+1) G.q=s->FI X wb gs w t G->
  ∃N aT w' bm t',Aet X.P N (Afa gs w sl) t=(.next (Afa aT w' bm),t')/\Ends X wb aT w' t':=by
  intro m;induction m using Nat.strongRecOn with
  |_ m ihm=>
   intro tr Dk;induction Dk with
   |intro tr _ af6=>
    intro s;induction s using Nat.strongRecOn with
    |_ s ihs=>
     intro gs w t G sl mC pg Zb hF;rcases acy hF sl with⟨aT,w',bm,u,r1,r2⟩ | ⟨aT,w',bm,u,G',r1,r2,r3⟩
     ·exact⟨1,aT,w',bm,t++u,by simp only[Aet,r1],r2⟩
     ·have fin:(∃N GS bq mQ t',Aet X.P N (Afa aT w' bm) (t++u)=(.next (Afa GS bq mQ),t')/\Ends X wb GS bq t')->∃N aT w' bm t',Aet X.P N (Afa gs w sl) t=(.next (Afa aT w' bm),t')/\Ends X wb aT w' t':=by
       rintro⟨N,GS,bq,mQ,t',q1,q2⟩;exact⟨N+1,GS,bq,mQ,t',by simp only[Aet,r1];exact q1,q2⟩
      apply fin;rcases r3 with al| ⟨he,dq| ⟨afJ,al⟩⟩
      ·exact ihm _ (by rw[<-mC];exact al) G'.tr (Xv _ _) _ bm rfl rfl rfl r2
      ·exact af6 G'.tr (by rw[<-pg];exact dq) _ bm (he.trans mC) rfl rfl r2
      ·exact ihs _ (by rw[<-Zb];exact al) bm (he.trans mC) (afJ.trans pg) rfl r2
 exact fun {gs w t G} sl hF=>key _ _ (Xv _ _) _ sl rfl rfl rfl hF
end
end Go.Sim
namespace Go.Jn
open Go Go.Sim
theorem WY{P:Aa6}{F:Array Func}{C:bQ}{S:Tl}{G:Nat->Bool}(E:Env P F C G)(hh:∀f,C.hole f=false){Q:Abe->Aa4->Prop}{g:Abe}{w:Aa4}
 (h:Sim.Safe (tw P F) Q g w)(hi:Inv C S G g w):Sim.Safe (tw P F) (fun g w=>Q g w/\bJ w.heap) g w:=by
 induction h with
 |stop hq=>exact .stop ⟨hq,hi.1⟩
 |step nx h _ ih=>
  refine .step nx h fun T=>ih T ?_
  obtain⟨⟨es,h1⟩,h2⟩:=h T;exact(hi.aZ T).step E hh h1 h2
section
variable {P:Aa6}{F:Array Func}{C:bQ}{G:Nat->Bool}
theorem Lu{S:Tl}{ρ:Ren}{b:Bool}{bh:List Abd}(h:Below C S ρ b [] bh):b=true/\bh=S.callers:=by
 cases h;exact⟨rfl,rfl⟩
theorem VR{S:Tl}{ρ:Ren}{k':List Item}(h:oc C S ρ true [.code di] k'):k'=S.items:=by
 cases h with
 |stop=>rfl
 |cons _ t=>cases t
theorem xf{S:Tl}{ρ:Ren}{k':List Aa3}(h:jJ S ρ true [cQ] k'):k'=S.defers:=by
 cases h with
 |stop=>rfl
 |cons _ t=>cases t
theorem amT(E:Env P F C G)(hh:∀f,C.hole f=false){main:Bool}(S:Tl){M:aaa}{ρ:Ren}{f:Aaz}{c:Code}(hc:C.clean c){a:Act}{t':Array Value}{w w':Aa4}(hk:(S.kind==.early)=false)
 (hd:a.defers=[cQ]){QL:Exit->Act->Aa4->Prop}
 (hl:∀T,c.wp (tw P F) (fun e bB aa=>(e=.normal/\bB.defers=[cQ]\/e=.ret)/\QL e bB aa) a (aZ w T))
 (hw:bV C ρ w w')(hg:∀g,G g=true->ρ g g)(hf:Fits M ρ w)(gN:∀b,M.has b->b<w'.heap.size)(hn:bJ w.heap)(ht:aP ρ a.tmps t')
 {Stop:aaa->Abe->Aa4->Prop}
 (post:∀e bB aa bS aE eV aA,QL e bB aa->gX M ρ w w' bS aE aa aA->bV C aE aa aA->Fits bS aE aa->(∀b,bS.has b->b<aA.heap.size)->(∀g,G g=true->aE g g)->bJ aa.heap->aP aE bB.tmps eV->
   (e=.normal->bB.defers=[cQ]->Stop bS (aO ⟨f,eV,S.items,S.defers,.run,S.kind,none⟩ S.callers) aA)/\
   (e=.ret->∀sH D',jJ S aE true bB.defers D'->Stop bS (aO ⟨f,eV,sH,D',.returning,S.kind,none⟩ S.callers) aA)):
 Walk P main Stop M (aO ⟨f,t',.code c::S.items,S.defers,.run,S.kind,none⟩ S.callers) w':=by
 let b:Abd:={ (default:Abd) with fn:=f,kind:=.normal}
 let Q:Abe->Aa4->Prop:=fun g w=>∃T e bB todo m,QL e bB (aZ w T)/\g=aO ⟨f,bB.tmps,todo,bB.defers,m,.normal,none⟩ []/\
  (e=.normal/\todo=[.code di]/\m=.run/\bB.defers=[cQ]\/e=.ret/\m=.returning)
 have b7:ea C S ρ true (b.at a [.code c,.code di]) ⟨f,t',.code c::S.items,S.defers,.run,S.kind,none⟩:=
  .mk f ht (.cons (.code c hc) .stop) (by rw[hd];exact .stop) .run .none ⟨fun h=>by simp at h,fun _=>rfl,fun h=>absurd rfl h,fun h=>by simp at h,hk,fun _=>rfl⟩
 have eh:sP P (tw P F) C S ρ (aO (b.at a [.code c,.code di]) []) (aO ⟨f,t',.code c::S.items,S.defers,.run,S.kind,none⟩ S.callers):=.inside b7 .base;have hi:Inv C S G (aO (b.at a [.code c,.code di]) []) w:=⟨hn,ρ,true,_,_,_,_,w',rfl,hg,b7,.base,hw⟩;have N8:Sim.Safe (tw P F) Q (aO (b.at a [.code c,.code di]) []) w:=by
  refine PD (S:=S) E hh ?_ ?_ hi ?_
  ·rintro g w T ⟨T',e,bB,todo,m,h1,h2,h3⟩
   exact⟨T',e,bB,todo,m,h1,h2,h3⟩
  ·rintro g w ⟨T',e,bB,todo,m,h1,rfl,h3⟩ ch
   rcases h3 with⟨_,_,rfl,_⟩ | ⟨_,rfl⟩<;>simp
  ·intro T
   obtain⟨e,bB,aa,⟨h1,h2⟩,h3⟩:=hl T b [.code di] [];rcases h1 with⟨rfl,jT⟩ |rfl
   ·obtain⟨n,hr⟩:=h3
    exact⟨n,_,_,aa,hr,aa.tape,.normal,bB,[.code di],.run,h2,rfl,.inl ⟨rfl,rfl,rfl,jT⟩⟩
   ·obtain⟨todo,n,hr⟩:=h3
    exact⟨n,_,_,aa,hr,aa.tape,.ret,bB,todo,.returning,h2,rfl,.inr ⟨rfl,rfl⟩⟩
 refine X7 E main (WY E hh N8 hi) ⟨eh,hw,hg,hf,gN⟩ ?_
 intro bS aE dG aa en aA hR bY _ _ hq;obtain⟨gr,core,gL,fits,low⟩:=hR;cases gr with
 |hole f hf=>rw[hh] at hf;simp at hf
 |inside vg Dc=>
  obtain⟨⟨T,e,bB,todo,m,h1,h2,h3⟩,qx⟩:=hq.resolve_right fun h=>h ⟨_,_,_,_,_,rfl,rfl,vg,Dc⟩
  have e1:=congrArg Goroutine.frame h2;have e2:=congrArg Goroutine.callers h2;simp only at e1 e2;subst e1 e2;obtain⟨rfl,rfl⟩:=Lu Dc;have LU:bV C aE (aZ aa T) aA:=core.left rfl;cases vg with
  |mk _ ym dg jT rM ye gM=>
   cases ye;have PK:gX M ρ w w' bS aE (aZ aa T) aA:=⟨bY.le,bY.new,bY.mP,bY.fQ,bY.kE,bY.im,bY.R,bY.O,bY.On,bY.tape,bY.os,bY.out⟩;have qt:=gM.Cv rfl;subst qt;have:=post e bB (aZ aa T) bS aE _ aA h1 PK LU fits low gL qx ym;rcases h3 with⟨rfl,rfl,rfl,Ue⟩ | ⟨rfl,rfl⟩
   ·have hD:=jT
    rw[Ue] at hD;rw[VR dg,xf hD];exact this.1 rfl Ue
   ·exact this.2 rfl _ _ jT
end
end Go.Jn
namespace Go.Jn
open Go Go.Sim
abbrev rg(f:Aaz)(t:Array Value)(k:List Item)(D:List Aa3)(kd:Aeu)(cs:List Abd):Abe:=aO ⟨f,t,k,D,.run,kd,none⟩ cs
theorem zV(M:aaa)(w:Aa4):M.grow w w=M:=by
 unfold aaa.grow;have:(fun b=>M.O b\/(w.heap.size<=b/\b<w.heap.size))=M.O:=funext fun b=>propext ⟨fun h=>h.elim id fun h=>absurd h.1 (by omega),.inl⟩
 rw[this]
section
variable {P:Aa6}{main:Bool}{Stop:aaa->Abe->Aa4->Prop}{M:aaa}{w:Aa4}
theorem kM{g g':Abe}(hr:g.status=.running)(h:∀aa,Adn P main g aa=.go g' aa #[])(k:Walk P main Stop M g' w):Walk P main Stop M g w:=
 .step hr (fun aa=>(g',aa,#[])) (fun aa _=>⟨h aa,eO.idle M aa⟩) fun aa hk=>by
  show Walk P main Stop (M.grow aa aa) g' aa;rw[zV];exact k.rely hk
variable {f:Aaz}{t:Array Value}{k:List Item}{D:List Aa3}{kd:Aeu}{cs:List Abd}
theorem fF{x y:Code}(h:Walk P main Stop M (rg f t (.code x:: .code y::k) D kd cs) w):Walk P main Stop M (rg f t (.code (.seq x y)::k) D kd cs) w:=
 kM rfl (fun aa=>by simp[Adn,Aec]) h
theorem Qq(h:Walk P main Stop M (rg f t k D kd cs) w):Walk P main Stop M (rg f t (.code .skip::k) D kd cs) w:=
 kM rfl (fun aa=>by simp[Adn,Aec]) h
theorem BL{id:Nat}{c:Code}(h:Walk P main Stop M (rg f t (.code c:: .inBlock id::k) D kd cs) w):Walk P main Stop M (rg f t (.code (.block id c)::k) D kd cs) w:=
 kM rfl (fun aa=>by simp[Adn,Aec]) h
theorem Qn{id:Nat}(h:Walk P main Stop M (rg f t k D kd cs) w):Walk P main Stop M (rg f t (.inBlock id::k) D kd cs) w:=
 kM rfl (fun aa=>by simp[Adn,Aec]) h
theorem Qp{c:Code}(h:Walk P main Stop M (rg f t (.code c:: .inLoop c::k) D kd cs) w):Walk P main Stop M (rg f t (.code (.loop c)::k) D kd cs) w:=
 kM rfl (fun aa=>by simp[Adn,Aec]) h
theorem Qo{c:Code}(h:Walk P main Stop M (rg f t (.code c:: .inLoop c::k) D kd cs) w):Walk P main Stop M (rg f t (.inLoop c::k) D kd cs) w:=
 kM rfl (fun aa=>by simp[Adn,Aec]) h
theorem Qm{id:Nat}{k':List Item}(hk:exitTo id k=some k')(h:Walk P main Stop M (rg f t k' D kd cs) w):Walk P main Stop M (rg f t (.code (.exit id)::k) D kd cs) w:=
 kM rfl (fun aa=>by simp[Adn,Aec,hk]) h
theorem BM{n:Nat}{x y:Code}{q:Bool}(hq:t.getD n undef=.bool q)(h:Walk P main Stop M (rg f t (.code (if q then x else y)::k) D kd cs) w):Walk P main Stop M (rg f t (.code (.cond (.tmp n) x y)::k) D kd cs) w:=
 kM rfl (fun aa=>by
  have:Ad5 ⟨f,t,.code (.cond (.tmp n) x y)::k,D,.run,kd,none⟩ (.tmp n)=.bool q:=hq;simp[Adn,Aec,this]) h
theorem am2(h:Walk P main Stop M (aO ⟨f,t,.code .ret::k,D,.returning,kd,none⟩ cs) w):Walk P main Stop M (rg f t (.code .ret::k) D kd cs) w:=
 kM rfl (fun aa=>by simp[Adn,Aec]) h
theorem am0(h:Walk P main Stop M (aO ⟨f,t,[],D,.returning,kd,none⟩ cs) w):Walk P main Stop M (rg f t [] D kd cs) w:=
 kM rfl (fun aa=>by simp[Adn,Aec]) h
theorem gH{id:Nat}{ops:Array Aev}(h:Walk P main Stop M (rg f t (.inRegion ops (List.range ops.size)::k) D kd cs) w):Walk P main Stop M (rg f t (.code (.region id ops false)::k) D kd cs) w:=
 kM rfl (fun aa=>by simp[Adn,Aec]) h
theorem iA{ops:Array Aev}(h:Walk P main Stop M (rg f t k D kd cs) w):Walk P main Stop M (rg f t (.inRegion ops []::k) D kd cs) w:=
 kM rfl (fun aa=>by simp[Adn,Aec]) h
end
end Go.Jn
namespace Go.Jn
open Go Go.Sim
def aS(t:Array Value):Abc->Value:=(Act.mk t []).eval
theorem tf{f:Aaz}{t:Array Value}{k:List Item}{D:List Aa3}{kd:Aeu}:Ad5 ⟨f,t,k,D,.run,kd,none⟩=aS t:=by
 funext x;cases x<;>rfl
def ay(t:Array Value)(d:Option Tmp)(v:Value):Array Value:=match d with
 |some d=>t.setIfInBounds d v
 |none=>t
section
variable {P:Aa6}{main:Bool}{Stop:aaa->Abe->Aa4->Prop}{M:aaa}{w:Aa4}
variable {f:Aaz}{t:Array Value}{k:List Item}{D:List Aa3}{kd:Aeu}{cs:List Abd}
theorem Jd{ops:Array Aev}{i:Nat}{rest:List Nat}{o:Aev}(ho:ops[i]?=some o)(hg:Afi o (Aew ops t)=true)(hk:(kd==.early)=false)
 {aa aq:Aa4}{v:Value}{es:Array Event}(hr:(execOp (aS t) o).runT P aa #[]=(.ok (.value v) aq,es)):
 Adn P main (rg f t (.inRegion ops (i::rest)::k) D kd cs) aa=.go (rg f (ay t o.dst v) (.inRegion ops rest::k) D kd cs) aq (seen P f es):=by
 have e1:Ad5 ⟨f,t,.inRegion ops (i::rest)::k,D,.run,kd,none⟩=aS t:=tf;simp only[Adn,Aec,ho,Afu,hg,Afv,if_true,Afq,Aff,Aed,e1,hr];cases hd:o.dst<;>simp[Afg,ho,hd,ay,hk,Abr]
theorem Xy{ops:Array Aev}{i:Nat}{rest:List Nat}{o:Aev}(ho:ops[i]?=some o)(hg:Afi o (Aew ops t)=true)(hk:(kd==.early)=false)
 {aa aq:Aa4}{es:Array Event}(hr:(execOp (aS t) o).runT P aa #[]=(.ok .skip aq,es)):
 Adn P main (rg f t (.inRegion ops (i::rest)::k) D kd cs) aa=.go (rg f (ay t o.dst undef) (.inRegion ops rest::k) D kd cs) aq (seen P f es):=by
 have e1:Ad5 ⟨f,t,.inRegion ops (i::rest)::k,D,.run,kd,none⟩=aS t:=tf;simp only[Adn,Aec,ho,Afu,hg,Afv,if_true,Afq,Aff,Aed,e1,hr];cases hd:o.dst<;>simp[Afg,ho,hd,ay,hk,Abr]
theorem alR{ops:Array Aev}{i:Nat}{rest:List Nat}{o:Aev}(ho:ops[i]?=some o)(hg:Afi o (Aew ops t)=true)(hk:(kd==.early)=false)
 {aa:Aa4}{d:Aa3}(hr:(execOp (aS t) o).runT P aa #[]=(.ok (.defer d) aa,#[])):
 Adn P main (rg f t (.inRegion ops (i::rest)::k) D kd cs) aa=.go (rg f (ay t o.dst undef) (.inRegion ops rest::k) (d::D) kd cs) aa #[]:=by
 have e1:Ad5 ⟨f,t,.inRegion ops (i::rest)::k,D,.run,kd,none⟩=aS t:=tf;simp only[Adn,Aec,ho,Afu,hg,Afv,if_true,Afq,Aff,Aed,e1,hr];cases hd:o.dst<;>simp[Afg,ho,hd,ay,hk,Abr,seen]
theorem Xz{ops:Array Aev}{i:Nat}{rest:List Nat}{o:Aev}(ho:ops[i]?=some o)(hg:Afi o (Aew ops t)=true)(hk:(kd==.early)=false)
 {aa:Aa4}{d:Aa3}(hn:d.target≠ .nil)(hr:(execOp (aS t) o).runT P aa #[]=(.ok (.spawn d) aa,#[])):
 Adn P main (rg f t (.inRegion ops (i::rest)::k) D kd cs) aa=.spawn (rg f (ay t o.dst undef) (.inRegion ops rest::k) D kd cs)
  {frame:={ (default:Abd) with fn:=P.funcs.size,defers:=[d],mode:=.panicking [Aex]},callers:=[],status:=.running,dying:=none} aa #[]:=by
 have e1:Ad5 ⟨f,t,.inRegion ops (i::rest)::k,D,.run,kd,none⟩=aS t:=tf;simp only[Adn,Aec,ho,Afu,hg,Afv,if_true,Afq,Aff,Aed,e1,hr];obtain⟨tg,ar⟩:=d;cases tg<;>first|exact absurd rfl hn| (cases hd:o.dst<;>simp[Afg,ho,hd,ay,hk,Abr,seen])
theorem FG{ops:Array Aev}{i:Nat}{rest:List Nat}{o:Aev}(ho:ops[i]?=some o)(hg:Afi o (Aew ops t)=true)(hk:(kd==.early)=false)
 {aa:Aa4}{cases:Array CommCase}{bl:Bool}{sh:Aer}(hr:(execOp (aS t) o).runT P aa #[]=(.ok (.comm cases bl sh) aa,#[])):
 Adn P main (rg f t (.inRegion ops (i::rest)::k) D kd cs) aa=.comm (rg f t (.inRegion ops (i::rest)::k) D kd cs) cases bl sh aa #[]:=by
 have e1:Ad5 ⟨f,t,.inRegion ops (i::rest)::k,D,.run,kd,none⟩=aS t:=tf;simp only[Adn,Aec,ho,Afu,hg,Afv,if_true,Afq,Aff,Aed,e1,hr];simp[hk,Abr,seen]
theorem BN{ops:Array Aev}{i:Nat}{rest:List Nat}{o:Aev}(ho:ops[i]?=some o)(hg:Afi o (Aew ops t)=true)(hk:(kd==.early)=false)
 (h:∀aa,bN M w aa->∃v aq es,((execOp (aS t) o).runT P aa #[]=(.ok (.value v) aq,es)\/v=undef/\(execOp (aS t) o).runT P aa #[]=(.ok .skip aq,es))/\eO M aa aq es/\
   Walk P main Stop (M.grow aa aq) (rg f (ay t o.dst v) (.inRegion ops rest::k) D kd cs) aq):
 Walk P main Stop M (rg f t (.inRegion ops (i::rest)::k) D kd cs) w:=by
 have key:∀aa,∃y:Abe×Aa4×Array Event,bN M w aa->Adn P main (rg f t (.inRegion ops (i::rest)::k) D kd cs) aa=.go y.1 y.2.1 y.2.2/\eO M aa y.2.1 y.2.2/\Walk P main Stop (M.grow aa y.2.1) y.1 y.2.1:=by
  intro aa;by_cases hw:bN M w aa
  ·obtain⟨v,aq,es,hr,hd,hW⟩:=h aa hw
   have fJ:eO M aa aq (seen P f es):=⟨hd.size,hd.kept,hd.tape,hd.os,hd.out,fun e he=>hd.ev e (mem_seen he)⟩
   rcases hr with hr| ⟨rfl,hr⟩
   ·exact⟨(_,aq,seen P f es),fun _=>⟨Jd ho hg hk hr,fJ,hW⟩⟩
   ·exact⟨(_,aq,seen P f es),fun _=>⟨Xy ho hg hk hr,fJ,hW⟩⟩
  ·exact⟨(rg f t k D kd cs,w,#[]),fun h=>absurd h hw⟩
 refine .step rfl (fun aa=>Adi (key aa)) (fun aa hw=>?_) fun aa hw=>?_
 ·exact⟨(Adj (key aa) hw).1,(Adj (key aa) hw).2.1⟩
 ·exact(Adj (key aa) hw).2.2
theorem du{ops:Array Aev}{i:Nat}{rest:List Nat}{o:Aev}{v:Value}(ho:ops[i]?=some o)(hg:Afi o (Aew ops t)=true)(hk:(kd==.early)=false)
 (hr:∀aa,bN M w aa->∃es,(execOp (aS t) o).runT P aa #[]=(.ok (.value v) aa,es)/\∀e∈es,wK M e)
 (h:Walk P main Stop M (rg f (ay t o.dst v) (.inRegion ops rest::k) D kd cs) w):Walk P main Stop M (rg f t (.inRegion ops (i::rest)::k) D kd cs) w:=
 BN ho hg hk fun aa hw=>by
  obtain⟨es,h1,h2⟩:=hr aa hw;refine⟨v,aa,es,.inl h1,⟨Ac2 _,fun _ _ _=>rfl,rfl,rfl,rfl,fun e he=>by rw[zV];exact h2 e he⟩,?_⟩
  rw[zV];exact h.rely hw
theorem amZ{ops:Array Aev}{i:Nat}{rest:List Nat}{o:Aev}{d:Aa3}(ho:ops[i]?=some o)(hg:Afi o (Aew ops t)=true)(hk:(kd==.early)=false)
 (hr:∀aa,(execOp (aS t) o).runT P aa #[]=(.ok (.defer d) aa,#[]))
 (h:Walk P main Stop M (rg f (ay t o.dst undef) (.inRegion ops rest::k) (d::D) kd cs) w):Walk P main Stop M (rg f t (.inRegion ops (i::rest)::k) D kd cs) w:=
 kM rfl (fun aa=>alR ho hg hk (hr aa)) h
end
end Go.Jn
namespace Go.Jn
open Go Go.Sim
section
variable {P:Aa6}{main:Bool}{Stop:aaa->Abe->Aa4->Prop}
variable {f:Aaz}{k:List Item}{D:List Aa3}{kd:Aeu}{cs:List Abd}
end
end Go.Jn
namespace Go.Jn
open Go Go.Sim Go.Conc
open Go.ConcN (sumTo upd sumTo_upd upd_ne upd_same)
def Cp(N:Nat)(es:Array Event):Prop:=∀e∈es,∀b,N<=b->e.loc≠ .obj b
inductive WalkE(P:Aa6)(main:Bool)(N:Nat)(Stop:aaa->Abe->Aa4->Prop):aaa->Abe->Aa4->Prop
 |stop {M:aaa} {g:Abe} {w:Aa4} (h:∀aa,bN M w aa->Stop M g aa):WalkE P main N Stop M g w
 |step {M:aaa} {g:Abe} {w:Aa4} (run:g.status=.running) (nx:Aa4->Abe×Aa4×Array Event)
   (h:∀aa,bN M w aa->Adn P main g aa=.go (nx aa).1 (nx aa).2.1 (nx aa).2.2/\eO M aa (nx aa).2.1 (nx aa).2.2/\Cp N (nx aa).2.2)
   (hs:∀aa,bN M w aa->WalkE P main N Stop (M.grow aa (nx aa).2.1) (nx aa).1 (nx aa).2.1):WalkE P main N Stop M g w
section
variable {P:Aa6}{main:Bool}{N:Nat}{Stop:aaa->Abe->Aa4->Prop}
theorem WalkE.rely{M:aaa}{g:Abe}{w aa:Aa4}(h:WalkE P main N Stop M g w)(k:bN M w aa):WalkE P main N Stop M g aa:=by
 cases h with
 |stop h=>exact .stop fun aq k2=>h aq (k.trans k2)
 |step run nx h hs=>exact .step run nx (fun aq k2=>h aq (k.trans k2)) fun aq k2=>hs aq (k.trans k2)
theorem X8{M:aaa}{w:Aa4}{g g':Abe}(hr:g.status=.running)(h:∀aa,Adn P main g aa=.go g' aa #[])(k:WalkE P main N Stop M g' w):WalkE P main N Stop M g w:=
 .step hr (fun aa=>(g',aa,#[])) (fun aa _=>⟨h aa,eO.idle M aa,fun e he=>absurd he (by simp)⟩) fun aa hk=>by
  show WalkE P main N Stop (M.grow aa aa) g' aa;rw[zV];exact k.rely hk
variable {f:Aaz}{k:List Item}{D:List Aa3}{kd:Aeu}{cs:List Abd}
theorem X9{M:aaa}{w:Aa4}{t:Array Value}{ops:Array Aev}(h:WalkE P main N Stop M (rg f t k D kd cs) w):WalkE P main N Stop M (rg f t (.inRegion ops []::k) D kd cs) w:=
 X8 rfl (fun aa=>by simp[Adn,Aec]) h
theorem amW{M:aaa}{w:Aa4}{t:Array Value}{ops:Array Aev}{i:Nat}{rest:List Nat}{o:Aev}(ho:ops[i]?=some o)(hg:Afi o (Aew ops t)=true)(hk:(kd==.early)=false)
 (h:∀aa,bN M w aa->∃v aq es,((execOp (aS t) o).runT P aa #[]=(.ok (.value v) aq,es)\/v=undef/\(execOp (aS t) o).runT P aa #[]=(.ok .skip aq,es))/\eO M aa aq es/\(∀e∈es,∀b,e.loc≠ .obj b)/\
   WalkE P main N Stop (M.grow aa aq) (rg f (ay t o.dst v) (.inRegion ops rest::k) D kd cs) aq):
 WalkE P main N Stop M (rg f t (.inRegion ops (i::rest)::k) D kd cs) w:=by
 have key:∀aa,∃y:Abe×Aa4×Array Event,bN M w aa->(Adn P main (rg f t (.inRegion ops (i::rest)::k) D kd cs) aa=.go y.1 y.2.1 y.2.2/\eO M aa y.2.1 y.2.2/\Cp N y.2.2)/\WalkE P main N Stop (M.grow aa y.2.1) y.1 y.2.1:=by
  intro aa;by_cases hw:bN M w aa
  ·obtain⟨v,aq,es,hr,hd,aw,hW⟩:=h aa hw
   have fJ:eO M aa aq (seen P f es):=⟨hd.size,hd.kept,hd.tape,hd.os,hd.out,fun e he=>hd.ev e (Sim.mem_seen he)⟩
   have dM:Cp N (seen P f es):=fun e he b _=>aw e (Sim.mem_seen he) b
   rcases hr with hr| ⟨rfl,hr⟩
   ·exact⟨(_,aq,seen P f es),fun _=>⟨⟨Jd ho hg hk hr,fJ,dM⟩,hW⟩⟩
   ·exact⟨(_,aq,seen P f es),fun _=>⟨⟨Xy ho hg hk hr,fJ,dM⟩,hW⟩⟩
  ·exact⟨(rg f t k D kd cs,w,#[]),fun h=>absurd h hw⟩
 refine .step rfl (fun aa=>Adi (key aa)) (fun aa hw=>?_) fun aa hw=>?_
 ·exact(Adj (key aa) hw).1
 ·exact(Adj (key aa) hw).2
theorem amV{ops:Array Aev}(hk:(kd==.early)=false)(I:Nat->Array Bool->Array Value->aaa->Aa4->Prop)
 (Nu:∀n l t M w aa,I n l t M w->bN M w aa->I n l t M aa)
 (dq:∀n l t M w i,I n l t M w->i∈Afj .any ops l->∃o v aq es,ops[i]?=some o/\Afi o (Aew ops t)=true/\
   ((execOp (aS t) o).runT P w #[]=(.ok (.value v) aq,es)\/v=undef/\(execOp (aS t) o).runT P w #[]=(.ok .skip aq,es))/\eO M w aq es/\(∀e∈es,∀b,e.loc≠ .obj b)/\I (n+1) (l.setIfInBounds i true) (ay t o.dst v) (M.grow w aq) aq)
 (qk:∀n l t M w,I n l t M w->(Afj .any ops l=[]\/n=ops.size)->WalkE P main N Stop M (rg f t k D kd cs) w):
 ∀(fuel n s:Nat) (l:Array Bool) (t:Array Value) (M:aaa) (w:Aa4),n+fuel=ops.size->I n l t M w->
  WalkE P main N Stop M (rg f t (.inRegion ops (Afl .any ops fuel s l [])::k) D kd cs) w:=by
 intro fuel;induction fuel with
 |zero=>
  intro n s l t M w hn hI;have:Afl .any ops 0 s l []=[]:=by simp[Afl]
  rw[this];exact X9 (qk n l t M w hI (.inr (by omega)))
 |succ fuel ih=>
  intro n s l t M w hn hI;simp only[Afl];change WalkE P main N Stop M (rg f t (.inRegion ops (match(Afj .any ops l)[s % (Afj .any ops l).length]? with
   |some i=>Afl .any ops fuel (s / (Afj .any ops l).length) (l.setIfInBounds i true) [i]
   |none=> [].reverse)::k) D kd cs) w
  cases hi:(Afj .any ops l)[s % (Afj .any ops l).length]? with
  |none=>
   have NJ:Afj .any ops l=[]:=by
    cases hr:Afj .any ops l with
    |nil=>rfl
    |cons x xs=>
     rw[hr] at hi;have al:s % (x::xs).length<(x::xs).length:=Nat.mod_lt _ (by simp)
     simp at hi;simp at al;omega
   exact X9 (qk n l t M w hI (.inl NJ))
  |some i=>
   simp only[];rw[linearise_go_acc,List.reverse_singleton,List.singleton_append];have mB:= List.mem_of_getElem? hi;obtain⟨o0,-,-,-,UZ,Hi,-,-,-,-⟩:=dq n l t M w i hI mB;refine amW UZ Hi hk fun aa hw=>?_
   obtain⟨o,v,aq,es,ho,hg,hr,hd,aw,xz⟩:=dq n l t M aa i (Nu _ _ _ _ _ _ hI hw) mB;rw[UZ] at ho;cases ho
   exact⟨v,aq,es,hr,hd,aw,ih (n+1) _ _ _ _ _ (by omega) xz⟩
theorem amU(hm:P.follows .mixedOrders=true){id:Nat}{ops:Array Aev}(hk:(kd==.early)=false)(I:Nat->Array Bool->Array Value->aaa->Aa4->Prop)
 (Nu:∀n l t M w aa,I n l t M w->bN M w aa->I n l t M aa)
 (dq:∀n l t M w i,I n l t M w->i∈Afj .any ops l->∃o v aq es,ops[i]?=some o/\Afi o (Aew ops t)=true/\
   ((execOp (aS t) o).runT P w #[]=(.ok (.value v) aq,es)\/v=undef/\(execOp (aS t) o).runT P w #[]=(.ok .skip aq,es))/\eO M w aq es/\(∀e∈es,∀b,e.loc≠ .obj b)/\I (n+1) (l.setIfInBounds i true) (ay t o.dst v) (M.grow w aq) aq)
 (qk:∀n l t M w,I n l t M w->(Afj .any ops l=[]\/n=ops.size)->WalkE P main N Stop M (rg f t k D kd cs) w)
 {t:Array Value}{M:aaa}{w:Aa4}(h0:I 0 (Aeo ops.size false) t M w):
 WalkE P main N Stop M (rg f t (.code (.region id ops true)::k) D kd cs) w:=by
 have key:=amV (P:=P) (main:=main) (N:=N) (Stop:=Stop) (f:=f) (k:=k) (D:=D) (cs:=cs) hk I Nu dq qk;refine .step rfl (fun aa=>(rg f t (.inRegion ops (Afk true ops ((Question.order f id).cut (aa.tape aa.drawn (.order f id))))::k) D kd cs,aa.at (aa.drawn+1),#[])) (fun aa hw=>⟨?_,?_,fun e he=>absurd he (by simp)⟩) fun aa hw=>?_
 ·simp[Adn,Aec,choose,Sem.run,Question.forced,hm]
  rfl
 ·exact⟨Ac2 _,fun _ _ _=>rfl,rfl,rfl,rfl,fun e he=>absurd he (by simp)⟩
 ·have hg:M.grow aa (aa.at (aa.drawn+1))=M:=zV M aa
  show WalkE P main N Stop (M.grow aa (aa.at (aa.drawn+1))) _ _;rw[hg];have:WalkE P main N Stop M (rg f t (.inRegion ops (Afk true ops ((Question.order f id).cut (aa.tape aa.drawn (.order f id))))::k) D kd cs) w:=by
   simp only[Afk,Bool.true_or,if_true];exact key ops.size 0 _ _ _ _ _ (by simp) h0
  exact this.rely (hw.trans (bN.of_heap rfl rfl rfl rfl))
def lK(N:Nat)(t:Adx):Prop:=∀op∈t,∀a,op.act.touch? =some a->∀b,N<=b->a.loc≠ .obj b
theorem lK.app{t u:Adx}(h:lK N t)(k:lK N u):lK N (t++u):=fun op ab=>(Aad.1 ab).elim (h op) (k op)
theorem lK.events{g:Nat}{fn:Aaz}{pos:String}{es:Array Event}(h:Cp N es):lK N (MemOp.ofEvents g fn pos es):=by
 intro op ab a ha b hb;obtain⟨e,he,rfl⟩:=Go.Conc.mem_ofEvents ab;have:=h e he b hb;simp only at ha;obtain⟨loc,wr,sy⟩:=e;cases loc with
 |mark m=>cases m<;>cases wr<;>cases sy<;>simp[MemAct.ofEvent,MemAct.touch?] at ha<;>(subst ha;intro hx;cases hx)
 |_=>cases wr<;>cases sy<;>simp[MemAct.ofEvent,MemAct.touch?] at ha<;>subst ha<;>first|exact this| (intro hx;cases hx)
theorem lK.of_low{t:Adx}(h:∀op∈t,op.act.low N):lK N t:=by
 intro op ab a ha b hb e;obtain⟨k,hk⟩:=Aen ab
 have:Ady t k=some a:=by rw[Ad1 hk];exact ha
 have:=Qa h this (.inl e);omega
theorem Tn{gs:Array Abe}{w aa:Aa4}{sl:Option (Nat×Nat)}{t:Adx}{q:Nat->Nat}{g dG:Abe}{es:Array Event}{M:aaa}(h:Fr P gs w t q g)(hs:Adn P true g w=.go dG aa es)(hd:eO M w aa es)(hM:∀b,M.has b->b<w.heap.size)
 (aw:Cp N es)(ht:lK N t):∃aT ops,runT P (Afa gs w sl) 0=(.next (Afa aT aa sl),ops)/\aT.size=gs.size/\Fr P aT aa (t++ops) q dG/\lK N (t++ops):=by
 obtain⟨h0,hL,hP,hN,hG⟩:=h;have tJ:=Afe (P:=P) (sl:=sl) (i:=0) h0 (show Adn P (0==0) g w=_ from hs)
 have al:0<gs.size:=(Aaf.1 h0).1
 refine⟨_,_,tJ,by simp,⟨by simp[al],fun j x hj hx=>?_,(hP.mono hd.size).own fun e he=>L9 (hd.ev e he) fun b hb=>?_,hN.app (O4 hd.ev),fun op ab=>?_⟩,ht.app (.events aw)⟩
 ·have aw:0≠j:=by omega
  rw[Adc aw,Ade] at hx
  obtain⟨y,hy,rfl⟩:=Aej.1 hx;have hq:=hL j y hj hy;rw[Sim.woken_quits hq];exact hq
 ·exact zU hd hM b hb
 ·rw[Aek,Array.size_map]
  rcases Aad.1 ab with ab|ab
  ·exact hG op ab
  ·obtain⟨e,_,rfl⟩:=Go.Conc.mem_ofEvents ab
   exact al
theorem Tp{gs:Array Abe}{w:Aa4}{sl:Option (Nat×Nat)}{t:Adx}{q:Nat->Nat}{g:Abe}(h:Fr P gs w t q g)(bz:g.status=.running):
 (∃d bm,stepT P (Afa gs w sl)=runT P (Afa gs (w.at d) bm) 0)\/
 ∃aT d bm q',stepT P (Afa gs w sl)=(.next (Afa aT (w.at d) bm),#[])/\aT.size=gs.size/\sumTo aT.size q'<sumTo gs.size q/\Fr P aT (w.at d) t q' g:=by
 obtain⟨h0,hL,hP,hN,hG⟩:=h;have tz:∀g∈gs,awake g:=by
  intro x hx;obtain⟨i,hi,rfl⟩:=Array.mem_iff_getElem.1 hx;rcases Nat.eq_zero_or_pos i with rfl|rP
  ·have:gs[0]=g:=by simpa [Adb hi] using h0
   rw[this];exact awake_of (.inl bz)
  ·exact awake_of ((hL i _ rP (Adb hi)).status.elim .inl fun x=>.inr (.inr x))
 obtain⟨i,x,d,bm,hi,hg,aQ⟩:=crowd_pick (P:=P) (w:=w) (sl:=sl) tz ⟨0,g,h0,bz⟩;rcases Nat.eq_zero_or_pos i with rfl|rP
 ·exact .inl ⟨d,bm,aQ⟩
 ·right
  have hq:=hL i x rP hi;have cR:(i==0)=false:=by simp;omega
  have al:i<gs.size:=(Aaf.1 hi).1
  cases pe:q i with
  |zero=>rw[pe] at hq;rw[show x.status=.finished from hq] at hg;cases hg
  |succ k=>
   rw[pe] at hq;rcases hq with hf| ⟨_,g',D3,mD⟩
   ·rw[hf] at hg;cases hg
   have tJ:=Afe (P:=P) (sl:=bm) (i:=i) hi (by rw[cR];exact D3 (w.at d))
   rw[nM] at tJ;have aI:((gs.map (woken P x g' (w.at d))).setIfInBounds i g').size=gs.size:=by simp
   have Zb:sumTo gs.size (upd q i k)+(k+1)=sumTo gs.size q+k:=by
    have:=sumTo_upd q k id al;simpa [pe] using this
   refine⟨(gs.map (woken P x g' (w.at d))).setIfInBounds i g',d,bm,upd q i k,aQ.trans tJ,aI,by rw[aI];omega,?_,fun j y hj hy=>?_,hP,hN,fun op ab=>by rw[aI];exact hG op ab⟩
   ·have aw:i≠0:=by omega
    rw[Adc aw,Ade,h0]
    simp[woken_run bz]
   ·by_cases pa:i=j
    ·subst pa
     rw[Array.getElem?_setIfInBounds_self_of_lt (by simpa using al)] at hy
     obtain rfl:=Ac5 hy;rw[upd_same];exact mD
    ·rw[Adc pa,Ade] at hy
     obtain⟨z,hz,rfl⟩:=Aej.1 hy;have yd:=hL j z hj hz;rw[Sim.woken_quits yd,upd_ne q k (Aei pa)];exact yd
theorem Zw{M:aaa}{g:Abe}{w:Aa4}(h:WalkE P true N Stop M g w):
 ∀(gs:Array Abe) (sl:Option (Nat×Nat)) (t:Adx) (q:Nat->Nat),Fr P gs w t q g->(∀b,M.has b->b<w.heap.size)->lK N t->
  ∃(n:Nat) (aT:Array Abe) (M':aaa) (g':Abe) (w':Aa4) (bm:Option (Nat×Nat)) (t':Adx) (q':Nat->Nat),
    Aet P n (Afa gs w sl) t=(.next (Afa aT w' bm),t')/\aT.size=gs.size/\Stop M' g' w'/\Fr P aT w' t' q' g'/\lK N t':=by
 induction h with
 | @stop M g w h=>exact fun gs sl t q hF hM hT=>⟨0,gs,M,g,w,sl,t,q,rfl,rfl,h w (bN.refl M w),hF,hT⟩
 | @step M g w run nx h hs ih=>
   have key:∀(n:Nat) (gs:Array Abe) (sl:Option (Nat×Nat)) (t:Adx) (q:Nat->Nat) (aq:Aa4),sumTo gs.size q<=n->bN M w aq->Fr P gs aq t q g->(∀b,M.has b->b<aq.heap.size)->lK N t->
    ∃(n:Nat) (aT:Array Abe) (M':aaa) (g':Abe) (w':Aa4) (bm:Option (Nat×Nat)) (t':Adx) (q':Nat->Nat),
     Aet P n (Afa gs aq sl) t=(.next (Afa aT w' bm),t')/\aT.size=gs.size/\Stop M' g' w'/\Fr P aT w' t' q' g'/\lK N t':=by
    intro n;induction n with
    |zero=>
     intro gs sl t q aq hn k hF hM hT;rcases Tp (sl:=sl) hF run with⟨d,bm,aQ⟩ | ⟨aT,d,bm,q',_,_,al,_⟩
     ·have k2:=k.trans (yy M aq d)
      obtain⟨h1,h2,h3⟩:=h _ k2;obtain⟨iK,ops,hr,aI,lN,xC⟩:=Tn (sl:=bm) (w:=aq.at d) (M:=M) ⟨hF.zero,hF.lv,hF.gD,hF.nd,hF.gb⟩ h1 h2 hM h3 hT;obtain⟨N',aT,M',g',w',mQ,t',q',r1,r2,r3,r4⟩:=ih _ k2 iK bm _ q lN (zU h2 hM) xC;exact⟨N'+1,aT,M',g',w',mQ,t',q',by simp only[Aet,aQ,hr];exact r1,r2.trans aI,r3,r4⟩
     ·omega
    |succ n En=>
     intro gs sl t q aq hn k hF hM hT;rcases Tp (sl:=sl) hF run with⟨d,bm,aQ⟩ | ⟨aT,d,bm,q',aQ,aI,al,lN⟩
     ·have k2:=k.trans (yy M aq d)
      obtain⟨h1,h2,h3⟩:=h _ k2;obtain⟨iK,ops,hr,aI,lN,xC⟩:=Tn (sl:=bm) (w:=aq.at d) (M:=M) ⟨hF.zero,hF.lv,hF.gD,hF.nd,hF.gb⟩ h1 h2 hM h3 hT;obtain⟨N',aT,M',g',w',mQ,t',q',r1,r2,r3,r4⟩:=ih _ k2 iK bm _ q lN (zU h2 hM) xC;exact⟨N'+1,aT,M',g',w',mQ,t',q',by simp only[Aet,aQ,hr];exact r1,r2.trans aI,r3,r4⟩
     ·obtain⟨N',xu,M',g',w',mQ,t',Pf,r1,r2,r3,r4⟩:=En aT bm t q' (aq.at d) (by omega) (k.trans (yy M aq d)) lN hM hT
      exact⟨N'+1,xu,M',g',w',mQ,t',Pf,by simp only[Aet,aQ,Aag];exact r1,r2.trans aI,r3,r4⟩
   exact fun gs sl t q hF hM hT=>key _ gs sl t q w (Ac2 _) (bN.refl M w) hF hM hT
end
end Go.Jn
namespace Go.Jn
open Go Go.Sim Go.Conc
theorem Gr(w:Aa4):Base w w:=⟨Ac2 _,rfl,rfl,rfl⟩
theorem rn{a b c:Aa4}(h:Base a b)(k:Base b c):Base a c:=⟨Nat.le_trans h.size k.size,k.tape.trans h.tape,k.os.trans h.os,k.out.trans h.out⟩
theorem Gq{M:Sim.aaa}{a b:Aa4}(k:bN M a b):Base a b:=⟨k.size,k.tape,k.os,k.out⟩
theorem RH{M:Sim.aaa}{a b:Aa4}{es:Array Event}(k:eO M a b es):Base a b:=⟨k.size,k.tape,k.os,k.out⟩
theorem FM{P:Aa6}{main:Bool}{Stop:Sim.aaa->Abe->Aa4->Prop}{M:Sim.aaa}{g:Abe}{w:Aa4}(h:Walk P main Stop M g w):∀ {w0:Aa4},Base w0 w->Walk P main (fun M g w'=>Stop M g w'/\Base w0 w') M g w:=by
 induction h with
 |stop h=>exact fun hb=>.stop fun aa k=>⟨h aa k,rn hb (Gq k)⟩
 |step run nx h hs ih=>exact fun hb=>.step run nx h fun aa k=>ih aa k (rn (rn hb (Gq k)) (RH (h aa k).2))
theorem amR{P:Aa6}{main:Bool}{N:Nat}{Stop:Sim.aaa->Abe->Aa4->Prop}{M:Sim.aaa}{g:Abe}{w:Aa4}(h:WalkE P main N Stop M g w):∀ {w0:Aa4},Base w0 w->WalkE P main N (fun M g w'=>Stop M g w'/\Base w0 w') M g w:=by
 induction h with
 |stop h=>exact fun hb=>.stop fun aa k=>⟨h aa k,rn hb (Gq k)⟩
 |step run nx h hs ih=>exact fun hb=>.step run nx h fun aa k=>ih aa k (rn (rn hb (Gq k)) (RH (h aa k).2.1))
theorem uc{P:Aa6}{b:Nat}{m':Machine}{t':Adx}{r:Stepped×Adx}:∀(a:Nat) (m:Machine) (t:Adx),Aet P a m t=(.next m',t')->Aet P b m' t'=r->Aet P (a+b) m t=r:=by
 intro a;induction a with
 |zero=>intro m t h k;simp only[Aet,Prod.mk.injEq,Stepped.next.injEq] at h;obtain⟨rfl,rfl⟩:=h;rw[Nat.zero_add];exact k
 |succ a ih=>
  intro m t h k;rw[Nat.succ_add];simp only[Aet] at h |-
  cases hs:Go.stepT P m with
  |mk e ops=>
   rw[hs] at h;cases e with
   |next m1=>exact ih _ _ h k
   |ended o w=>simp at h
end Go.Jn
namespace Go.Jn
open Go Go.Sim Go.Conc
def dp(P:Aa6):Abd:={ (default:Abd) with fn:=P.funcs.size,defers:=[],mode:=.panicking [Aex]}
def born(P:Aa6)(d:Aa3):Abe:={frame:={ (default:Abd) with fn:=P.funcs.size,defers:=[d],mode:=.panicking [Aex]},callers:=[],status:=.running,dying:=none}
theorem ud(P:Aa6)(f:Aaz):seen P f #[]=#[]:=by simp[seen]
section
variable {P:Aa6}{main:Bool}{Stop:aaa->Abe->Aa4->Prop}{M:aaa}{w:Aa4}
theorem alP{f:Aaz}{eQ args:Array Value}{aa:Aa4}(hr:(callFunc f (args++eQ)).runT P aa #[]=(.ok (.enter f (args++eQ)) aa,#[])):
 Adn P main (born P {target:=.fn (.func f) eQ,args}) aa=.go (aO (Afh P f (args++eQ) .deferred) [dp P]) aa #[]:=by
 have hi:invoke (.fn (.func f) eQ) args=callFunc f (args++eQ):=rfl;have e:callDeferred P (dp P) [] none {target:=.fn (.func f) eQ,args} aa=.go (aO (Afh P f (args++eQ) .deferred) [dp P]) aa #[]:=by
  unfold callDeferred;simp only[hi,hr,ud,Abr,Bool.false_and,Aaw,if_false];rfl
 exact e
theorem zQ{f:Aaz}{fn:Func}{c:Code}(hf:P.funcs[f]?=some fn)(hb:fn.body=some c)(x:Array Value)(kd:Aeu):
 Afh P f x kd=⟨f,x++Aeo (fn.ntmps - x.size) undef,[.code c],[],.run,kd,none⟩:=by
 simp[Afh,hf,hb]
theorem Ya{f:Aaz}{eQ args:Array Value}{fn:Func}{c:Code}(hf:P.funcs[f]?=some fn)(hb:fn.body=some c)(hr:∀aa,(callFunc f (args++eQ)).runT P aa #[]=(.ok (.enter f (args++eQ)) aa,#[]))
 (h:Walk P main Stop M (rg f ((args++eQ)++Aeo (fn.ntmps - (args++eQ).size) undef) [.code c] [] .deferred [dp P]) w):Walk P main Stop M (born P {target:=.fn (.func f) eQ,args}) w:=
 kM rfl (fun aa=>(alP (hr aa)).trans (by rw[zQ hf hb])) h
theorem CK{f:Aaz}{fn:Func}{c:Code}(hf:P.funcs[f]?=some fn)(hb:fn.body=some c)(hn:(fn.name== "runtime.NumGoroutine")=false)(args:Array Value)(aa:Aa4):(callFunc f args).runT P aa #[]=(.ok (.enter f args) aa,#[]):=by
 simp only[callFunc,Go.program,bind,Acz,Acy,hf,hb,hn,Afw,Aaw,if_false];rfl
theorem results_none{fn:Func}(hr:fn.results=#[])(t:Array Value)(aa:Aa4):(results fn t).runT P aa #[]=(.ok (.tuple #[]) aa,#[]):=by
 have e:results fn t=Afm (.tuple #[]):=by
  unfold results;rw[hr];simp only[Array.mapM_eq_mapM_toList,List.mapM_nil];rfl
 rw[e];rfl
theorem alV{f:Aaz}{t:Array Value}{k:List Item}{fn:Func}(hf:P.funcs[f]?=some fn)(hr:fn.results=#[])(aa:Aa4):
 Adn P false (aO ⟨f,t,k,[],.returning,.deferred,none⟩ [dp P]) aa=.go (aO (dp P) []) aa #[]:=by
 have e:unwind P false ⟨f,t,k,[],.returning,.deferred,none⟩ [dp P] none aa=.go (aO (dp P) []) aa #[]:=by
  unfold unwind;simp only[hf,results_none hr,ud,Abr,doReturn];rfl
 exact e
theorem alT(aa:Aa4)(hc:(dp P).catches P=false):Adn P false (aO (dp P) []) aa=.go {frame:=dp P,callers:=[],status:=.finished,dying:=none} aa #[]:=by
 have e:unwind P false (dp P) [] none aa=.go {frame:=dp P,callers:=[],status:=.finished,dying:=none} aa #[]:=by
  have e1:(dp P).defers=[]:=rfl;have e2:(dp P).mode=.panicking [Aex]:=rfl;unfold unwind;simp only[e1,e2,hc,Aaw,if_false];rfl
 exact e
theorem acQ(P:Aa6):(dp P).catches P=false:=by
 have e:(dp P).todo=[]:=rfl;have e2:P.funcs[(dp P).fn]?=none:=by show P.funcs[P.funcs.size]?=none;simp
 unfold Frame.catches;rw[e,e2]
theorem WD{f:Aaz}{t:Array Value}{k:List Item}{fn:Func}(hf:P.funcs[f]?=some fn)(hr:fn.results=#[]):QuitsIn P 2 (aO ⟨f,t,k,[],.returning,.deferred,none⟩ [dp P]):=
 .inr ⟨rfl,_,fun aa=>alV hf hr aa,.inr ⟨rfl,_,fun aa=>alT aa (acQ P),rfl⟩⟩
end
end Go.Jn
namespace Go.Tw
open Go Go.Proofs Go.Sim
class aR where
 I7:Func
variable [aR]
noncomputable def dead:Func:={Tryz.f38 with name:= "left out",body:=none}
def bad:List Nat:=[0,1,21,38,120,121,124,218,219,220,221,222,223,224,225,226,227,228,229,230,231,232,233,237,238,239]
def vH(f:Nat):Bool:=bad.contains f
noncomputable def F:Array Func:=(Tryz.prog.funcs.mapIdx fun i fn=>if vH i then dead else fn).setIfInBounds 21 aR.I7
noncomputable def prog:Aa6:=tw Tryz.prog F
theorem amt(P:Aa6)(F:Array Func):(tw P F).funcs=F:=rfl
theorem Pe:prog.funcs=F:=amt _ _
theorem ZN{P:Aa6}{f:Nat}{fn:Func}(h:P.funcs[f]?=some fn)(hb:fn.body.isSome=true):∀g,P.funcs[f]?=some g->g.body.isSome=true:=by
 intro g hg;rw[h] at hg;cases hg;exact hb
theorem QU(f:Nat)(h:vH f=false):F[f]?=Tryz.prog.funcs[f]?:=by
 have rC:21≠f:=by rintro rfl;exact absurd h (by decide)
 unfold F;rw[Aai,if_neg rC,Aep]
 cases Tryz.prog.funcs[f]? with
 |none=>rfl
 |some fn=>simp only[Afu,h,Aaw,if_false]
theorem Ys(f:Nat)(h:vH f=true)(rC:21≠f):F[f]?=none\/F[f]?=some dead:=by
 unfold F;rw[Aai,if_neg rC,Aep]
 cases Tryz.prog.funcs[f]? with
 |none=>exact .inl rfl
 |some fn=>right;simp only[Afu,h,if_true]
theorem zh:F[21]?=some aR.I7:=by
 have hs:21<Tryz.prog.funcs.size:=by
  apply Adh;intro h;have:=Tryz.func21;rw[Aan (by omega)] at this;exact absurd this (by simp)
 unfold F;rw[Aai,if_pos rfl,if_pos (by simpa using hs)]
theorem get(f:Nat)(h:vH f=false):prog.funcs[f]?=Tryz.prog.funcs[f]?:=by rw[Pe];exact QU f h
theorem func20:prog.funcs[20]?=some Tryz.f20:=(get 20 (by decide)).trans Tryz.func20
theorem func22:prog.funcs[22]?=some Tryz.f22:=(get 22 (by decide)).trans Tryz.func22
theorem func24:prog.funcs[24]?=some Tryz.f24:=(get 24 (by decide)).trans Tryz.func24
theorem func26:prog.funcs[26]?=some Tryz.f26:=(get 26 (by decide)).trans Tryz.func26
theorem func28:prog.funcs[28]?=some Tryz.f28:=(get 28 (by decide)).trans Tryz.func28
theorem func30:prog.funcs[30]?=some Tryz.f30:=(get 30 (by decide)).trans Tryz.func30
theorem func31:prog.funcs[31]?=some Tryz.f31:=(get 31 (by decide)).trans Tryz.func31
theorem func33:prog.funcs[33]?=some Tryz.f33:=(get 33 (by decide)).trans Tryz.func33
theorem func35:prog.funcs[35]?=some Tryz.f35:=(get 35 (by decide)).trans Tryz.func35
theorem func36:prog.funcs[36]?=some Tryz.f36:=(get 36 (by decide)).trans Tryz.func36
theorem func40:prog.funcs[40]?=some Tryz.f40:=(get 40 (by decide)).trans Tryz.func40
theorem func43:prog.funcs[43]?=some Tryz.f43:=(get 43 (by decide)).trans Tryz.func43
theorem func44:prog.funcs[44]?=some Tryz.f44:=(get 44 (by decide)).trans Tryz.func44
theorem func47:prog.funcs[47]?=some Tryz.f47:=(get 47 (by decide)).trans Tryz.func47
theorem func48:prog.funcs[48]?=some Tryz.f48:=(get 48 (by decide)).trans Tryz.func48
theorem func49:prog.funcs[49]?=some Tryz.f49:=(get 49 (by decide)).trans Tryz.func49
theorem func50:prog.funcs[50]?=some Tryz.f50:=(get 50 (by decide)).trans Tryz.func50
theorem func51:prog.funcs[51]?=some Tryz.f51:=(get 51 (by decide)).trans Tryz.func51
theorem func53:prog.funcs[53]?=some Tryz.f53:=(get 53 (by decide)).trans Tryz.func53
theorem func56:prog.funcs[56]?=some Tryz.f56:=(get 56 (by decide)).trans Tryz.func56
theorem func57:prog.funcs[57]?=some Tryz.f57:=(get 57 (by decide)).trans Tryz.func57
theorem func61:prog.funcs[61]?=some Tryz.f61:=(get 61 (by decide)).trans Tryz.func61
theorem func62:prog.funcs[62]?=some Tryz.f62:=(get 62 (by decide)).trans Tryz.func62
theorem func66:prog.funcs[66]?=some Tryz.f66:=(get 66 (by decide)).trans Tryz.func66
theorem func67:prog.funcs[67]?=some Tryz.f67:=(get 67 (by decide)).trans Tryz.func67
theorem func68:prog.funcs[68]?=some Tryz.f68:=(get 68 (by decide)).trans Tryz.func68
theorem func69:prog.funcs[69]?=some Tryz.f69:=(get 69 (by decide)).trans Tryz.func69
theorem func75:prog.funcs[75]?=some Tryz.f75:=(get 75 (by decide)).trans Tryz.func75
theorem func94:prog.funcs[94]?=some Tryz.f94:=(get 94 (by decide)).trans Tryz.func94
theorem func95:prog.funcs[95]?=some Tryz.f95:=(get 95 (by decide)).trans Tryz.func95
theorem func96:prog.funcs[96]?=some Tryz.f96:=(get 96 (by decide)).trans Tryz.func96
theorem func98:prog.funcs[98]?=some Tryz.f98:=(get 98 (by decide)).trans Tryz.func98
theorem func99:prog.funcs[99]?=some Tryz.f99:=(get 99 (by decide)).trans Tryz.func99
theorem func100:prog.funcs[100]?=some Tryz.f100:=(get 100 (by decide)).trans Tryz.func100
theorem func101:prog.funcs[101]?=some Tryz.f101:=(get 101 (by decide)).trans Tryz.func101
theorem func102:prog.funcs[102]?=some Tryz.f102:=(get 102 (by decide)).trans Tryz.func102
theorem func104:prog.funcs[104]?=some Tryz.f104:=(get 104 (by decide)).trans Tryz.func104
theorem func107:prog.funcs[107]?=some Tryz.f107:=(get 107 (by decide)).trans Tryz.func107
theorem func108:prog.funcs[108]?=some Tryz.f108:=(get 108 (by decide)).trans Tryz.func108
theorem func109:prog.funcs[109]?=some Tryz.f109:=(get 109 (by decide)).trans Tryz.func109
theorem func110:prog.funcs[110]?=some Tryz.f110:=(get 110 (by decide)).trans Tryz.func110
theorem func113:prog.funcs[113]?=some Tryz.f113:=(get 113 (by decide)).trans Tryz.func113
theorem func114:prog.funcs[114]?=some Tryz.f114:=(get 114 (by decide)).trans Tryz.func114
theorem func115:prog.funcs[115]?=some Tryz.f115:=(get 115 (by decide)).trans Tryz.func115
theorem func117:prog.funcs[117]?=some Tryz.f117:=(get 117 (by decide)).trans Tryz.func117
theorem func119:prog.funcs[119]?=some Tryz.f119:=(get 119 (by decide)).trans Tryz.func119
theorem func122:prog.funcs[122]?=some Tryz.f122:=(get 122 (by decide)).trans Tryz.func122
theorem func123:prog.funcs[123]?=some Tryz.f123:=(get 123 (by decide)).trans Tryz.func123
theorem func126:prog.funcs[126]?=some Tryz.f126:=(get 126 (by decide)).trans Tryz.func126
theorem func127:prog.funcs[127]?=some Tryz.f127:=(get 127 (by decide)).trans Tryz.func127
theorem func128:prog.funcs[128]?=some Tryz.f128:=(get 128 (by decide)).trans Tryz.func128
theorem func129:prog.funcs[129]?=some Tryz.f129:=(get 129 (by decide)).trans Tryz.func129
theorem func132:prog.funcs[132]?=some Tryz.f132:=(get 132 (by decide)).trans Tryz.func132
theorem func133:prog.funcs[133]?=some Tryz.f133:=(get 133 (by decide)).trans Tryz.func133
theorem func134:prog.funcs[134]?=some Tryz.f134:=(get 134 (by decide)).trans Tryz.func134
theorem func135:prog.funcs[135]?=some Tryz.f135:=(get 135 (by decide)).trans Tryz.func135
theorem func136:prog.funcs[136]?=some Tryz.f136:=(get 136 (by decide)).trans Tryz.func136
theorem func138:prog.funcs[138]?=some Tryz.f138:=(get 138 (by decide)).trans Tryz.func138
theorem func139:prog.funcs[139]?=some Tryz.f139:=(get 139 (by decide)).trans Tryz.func139
theorem func141:prog.funcs[141]?=some Tryz.f141:=(get 141 (by decide)).trans Tryz.func141
theorem func142:prog.funcs[142]?=some Tryz.f142:=(get 142 (by decide)).trans Tryz.func142
theorem func143:prog.funcs[143]?=some Tryz.f143:=(get 143 (by decide)).trans Tryz.func143
theorem func144:prog.funcs[144]?=some Tryz.f144:=(get 144 (by decide)).trans Tryz.func144
theorem func145:prog.funcs[145]?=some Tryz.f145:=(get 145 (by decide)).trans Tryz.func145
theorem func146:prog.funcs[146]?=some Tryz.f146:=(get 146 (by decide)).trans Tryz.func146
theorem func147:prog.funcs[147]?=some Tryz.f147:=(get 147 (by decide)).trans Tryz.func147
theorem func150:prog.funcs[150]?=some Tryz.f150:=(get 150 (by decide)).trans Tryz.func150
theorem func154:prog.funcs[154]?=some Tryz.f154:=(get 154 (by decide)).trans Tryz.func154
theorem func155:prog.funcs[155]?=some Tryz.f155:=(get 155 (by decide)).trans Tryz.func155
theorem func158:prog.funcs[158]?=some Tryz.f158:=(get 158 (by decide)).trans Tryz.func158
theorem func162:prog.funcs[162]?=some Tryz.f162:=(get 162 (by decide)).trans Tryz.func162
theorem func163:prog.funcs[163]?=some Tryz.f163:=(get 163 (by decide)).trans Tryz.func163
theorem func164:prog.funcs[164]?=some Tryz.f164:=(get 164 (by decide)).trans Tryz.func164
theorem func165:prog.funcs[165]?=some Tryz.f165:=(get 165 (by decide)).trans Tryz.func165
theorem func166:prog.funcs[166]?=some Tryz.f166:=(get 166 (by decide)).trans Tryz.func166
theorem func169:prog.funcs[169]?=some Tryz.f169:=(get 169 (by decide)).trans Tryz.func169
theorem func170:prog.funcs[170]?=some Tryz.f170:=(get 170 (by decide)).trans Tryz.func170
theorem func171:prog.funcs[171]?=some Tryz.f171:=(get 171 (by decide)).trans Tryz.func171
theorem func172:prog.funcs[172]?=some Tryz.f172:=(get 172 (by decide)).trans Tryz.func172
theorem func173:prog.funcs[173]?=some Tryz.f173:=(get 173 (by decide)).trans Tryz.func173
theorem func174:prog.funcs[174]?=some Tryz.f174:=(get 174 (by decide)).trans Tryz.func174
theorem func175:prog.funcs[175]?=some Tryz.f175:=(get 175 (by decide)).trans Tryz.func175
theorem func176:prog.funcs[176]?=some Tryz.f176:=(get 176 (by decide)).trans Tryz.func176
theorem func177:prog.funcs[177]?=some Tryz.f177:=(get 177 (by decide)).trans Tryz.func177
theorem func178:prog.funcs[178]?=some Tryz.f178:=(get 178 (by decide)).trans Tryz.func178
theorem func179:prog.funcs[179]?=some Tryz.f179:=(get 179 (by decide)).trans Tryz.func179
theorem func180:prog.funcs[180]?=some Tryz.f180:=(get 180 (by decide)).trans Tryz.func180
theorem func181:prog.funcs[181]?=some Tryz.f181:=(get 181 (by decide)).trans Tryz.func181
theorem func182:prog.funcs[182]?=some Tryz.f182:=(get 182 (by decide)).trans Tryz.func182
theorem func183:prog.funcs[183]?=some Tryz.f183:=(get 183 (by decide)).trans Tryz.func183
theorem func184:prog.funcs[184]?=some Tryz.f184:=(get 184 (by decide)).trans Tryz.func184
theorem func185:prog.funcs[185]?=some Tryz.f185:=(get 185 (by decide)).trans Tryz.func185
theorem func186:prog.funcs[186]?=some Tryz.f186:=(get 186 (by decide)).trans Tryz.func186
theorem func187:prog.funcs[187]?=some Tryz.f187:=(get 187 (by decide)).trans Tryz.func187
theorem func188:prog.funcs[188]?=some Tryz.f188:=(get 188 (by decide)).trans Tryz.func188
theorem func189:prog.funcs[189]?=some Tryz.f189:=(get 189 (by decide)).trans Tryz.func189
theorem func190:prog.funcs[190]?=some Tryz.f190:=(get 190 (by decide)).trans Tryz.func190
theorem func191:prog.funcs[191]?=some Tryz.f191:=(get 191 (by decide)).trans Tryz.func191
theorem func192:prog.funcs[192]?=some Tryz.f192:=(get 192 (by decide)).trans Tryz.func192
theorem func193:prog.funcs[193]?=some Tryz.f193:=(get 193 (by decide)).trans Tryz.func193
theorem func194:prog.funcs[194]?=some Tryz.f194:=(get 194 (by decide)).trans Tryz.func194
theorem func195:prog.funcs[195]?=some Tryz.f195:=(get 195 (by decide)).trans Tryz.func195
theorem func196:prog.funcs[196]?=some Tryz.f196:=(get 196 (by decide)).trans Tryz.func196
theorem func197:prog.funcs[197]?=some Tryz.f197:=(get 197 (by decide)).trans Tryz.func197
theorem func198:prog.funcs[198]?=some Tryz.f198:=(get 198 (by decide)).trans Tryz.func198
theorem func199:prog.funcs[199]?=some Tryz.f199:=(get 199 (by decide)).trans Tryz.func199
theorem func200:prog.funcs[200]?=some Tryz.f200:=(get 200 (by decide)).trans Tryz.func200
theorem func201:prog.funcs[201]?=some Tryz.f201:=(get 201 (by decide)).trans Tryz.func201
theorem func202:prog.funcs[202]?=some Tryz.f202:=(get 202 (by decide)).trans Tryz.func202
theorem func203:prog.funcs[203]?=some Tryz.f203:=(get 203 (by decide)).trans Tryz.func203
theorem func204:prog.funcs[204]?=some Tryz.f204:=(get 204 (by decide)).trans Tryz.func204
theorem func205:prog.funcs[205]?=some Tryz.f205:=(get 205 (by decide)).trans Tryz.func205
theorem func206:prog.funcs[206]?=some Tryz.f206:=(get 206 (by decide)).trans Tryz.func206
theorem func207:prog.funcs[207]?=some Tryz.f207:=(get 207 (by decide)).trans Tryz.func207
theorem func208:prog.funcs[208]?=some Tryz.f208:=(get 208 (by decide)).trans Tryz.func208
theorem func209:prog.funcs[209]?=some Tryz.f209:=(get 209 (by decide)).trans Tryz.func209
theorem func210:prog.funcs[210]?=some Tryz.f210:=(get 210 (by decide)).trans Tryz.func210
theorem func211:prog.funcs[211]?=some Tryz.f211:=(get 211 (by decide)).trans Tryz.func211
theorem func212:prog.funcs[212]?=some Tryz.f212:=(get 212 (by decide)).trans Tryz.func212
theorem func213:prog.funcs[213]?=some Tryz.f213:=(get 213 (by decide)).trans Tryz.func213
theorem func214:prog.funcs[214]?=some Tryz.f214:=(get 214 (by decide)).trans Tryz.func214
theorem func215:prog.funcs[215]?=some Tryz.f215:=(get 215 (by decide)).trans Tryz.func215
theorem func216:prog.funcs[216]?=some Tryz.f216:=(get 216 (by decide)).trans Tryz.func216
theorem func217:prog.funcs[217]?=some Tryz.f217:=(get 217 (by decide)).trans Tryz.func217
theorem func234:prog.funcs[234]?=some Tryz.f234:=(get 234 (by decide)).trans Tryz.func234
theorem func235:prog.funcs[235]?=some Tryz.f235:=(get 235 (by decide)).trans Tryz.func235
theorem func236:prog.funcs[236]?=some Tryz.f236:=(get 236 (by decide)).trans Tryz.func236
section
variable (P:Aa6)(F:Array Func)
theorem XR(t:Aa1)(w:Aa4):(typeInfo t).run (tw P F) w=(typeInfo t).run P w:=by
 simp only[typeInfo,Go.program,Sem.run,bind,Acz,ly];cases P.info? t<;>rfl
theorem XP(t:Aa1)(w:Aa4):(Go.underlying t).run (tw P F) w=(Go.underlying t).run P w:=by
 simp only[Go.underlying,Go.program,Sem.run,bind,Acz,jH];cases P.underlying t<;>rfl
theorem amv(t:Aa1)(w:Aa4):(sizeOf t).run (tw P F) w=(sizeOf t).run P w:=by
 simp only[sizeOf,Afn,XR,Afo]
theorem amy(t:Aa1)(w:Aa4):(zeroValue t).run (tw P F) w=(zeroValue t).run P w:=by
 unfold zeroValue;rw[Afn,Afn,XR];congr 1;funext i w;cases i.zero with
 |none=>simp only[unsupported,Sem.run]
 |some v=>simp only[Afo]
theorem amu(t:Aa1)(w:Aa4):(isAgg t).run (tw P F) w=(isAgg t).run P w:=by
 unfold isAgg;rw[Afn,Afn,XP];congr 1;funext i w;cases i<;>simp only[Afo]
theorem amr{P:Aa6}{F:Array Func}{f:Nat}(h:(tw P F).funcs[f]?=P.funcs[f]?)(args:Array Value)(w:Aa4)(hs:∀fn,P.funcs[f]?=some fn->fn.body.isSome=true){r:Result Next}(hr:(callFunc f args).run P w=r):(callFunc f args).run (tw P F) w=r:=by
 rw[<-hr];simp only[callFunc,Go.program,Sem.run,bind,Acz,h];cases e:P.funcs[f]? with
 |none=>rfl
 |some fn=>
  have hb:=hs fn e;obtain⟨c,hc⟩:=Option.isSome_iff_exists.1 hb;simp only[hc,Afw,Aaw,if_false];split<;>rfl
end
@[simp] theorem Jh(t:Aa1):prog.underlying t=Tryz.prog.underlying t:=jH _ _ _
@[simp] theorem pB(t:Aa1): prog.info? t= Tryz.prog.info? t:=ly _ _ _
@[simp] theorem apk(t:Aa1)(w:Aa4):(Go.underlying t).run prog w=(Go.underlying t).run Tryz.prog w:=XP _ _ _ _
@[simp] theorem amo(t:Aa1)(w:Aa4):(sizeOf t).run prog w=(sizeOf t).run Tryz.prog w:=amv _ _ _ _
@[simp] theorem Qb(t:Aa1)(w:Aa4):(zeroValue t).run prog w=(zeroValue t).run Tryz.prog w:=amy _ _ _ _
@[simp] theorem amn(t:Aa1)(w:Aa4):(isAgg t).run prog w=(isAgg t).run Tryz.prog w:=amu _ _ _ _
@[simp] theorem XK(t:Aa1):prog.stoodInHeld t=Tryz.prog.stoodInHeld t:=XQ _ _ _
@[simp] theorem apj(d:Nat)(t:Aa1):prog.eqGuardType d t=Tryz.prog.eqGuardType d t:=Jk _ _ _ _
@[simp] theorem api:prog.depth=Tryz.prog.depth:=BF _ _
theorem aU{f:Nat}{fn:Func}(h:vH f=false)(hf:Tryz.prog.funcs[f]?=some fn)(hb:fn.body.isSome=true)(args:Array Value)(w:Aa4)(hc:(callFunc f args).run Tryz.prog w=.ok (.enter f args) w):(callFunc f args).run prog w=.ok (.enter f args) w:=amr (get f h) args w (ZN hf hb) hc
variable (args:Array Value)(w:Aa4)
@[simp] theorem call20:(callFunc 20 args).run prog w=.ok (.enter 20 args) w:=aU rfl Tryz.func20 rfl _ _ (Tryz.call20 _ _)
@[simp] theorem call22:(callFunc 22 args).run prog w=.ok (.enter 22 args) w:=aU rfl Tryz.func22 rfl _ _ (Tryz.call22 _ _)
@[simp] theorem call24:(callFunc 24 args).run prog w=.ok (.enter 24 args) w:=aU rfl Tryz.func24 rfl _ _ (Tryz.call24 _ _)
@[simp] theorem call26:(callFunc 26 args).run prog w=.ok (.enter 26 args) w:=aU rfl Tryz.func26 rfl _ _ (Tryz.call26 _ _)
@[simp] theorem call28:(callFunc 28 args).run prog w=.ok (.enter 28 args) w:=aU rfl Tryz.func28 rfl _ _ (Tryz.call28 _ _)
@[simp] theorem call30:(callFunc 30 args).run prog w=.ok (.enter 30 args) w:=aU rfl Tryz.func30 rfl _ _ (Tryz.call30 _ _)
@[simp] theorem call31:(callFunc 31 args).run prog w=.ok (.enter 31 args) w:=aU rfl Tryz.func31 rfl _ _ (Tryz.call31 _ _)
@[simp] theorem call33:(callFunc 33 args).run prog w=.ok (.enter 33 args) w:=aU rfl Tryz.func33 rfl _ _ (Tryz.call33 _ _)
@[simp] theorem call35:(callFunc 35 args).run prog w=.ok (.enter 35 args) w:=aU rfl Tryz.func35 rfl _ _ (Tryz.call35 _ _)
@[simp] theorem call36:(callFunc 36 args).run prog w=.ok (.enter 36 args) w:=aU rfl Tryz.func36 rfl _ _ (Tryz.call36 _ _)
@[simp] theorem call40:(callFunc 40 args).run prog w=.ok (.enter 40 args) w:=aU rfl Tryz.func40 rfl _ _ (Tryz.call40 _ _)
@[simp] theorem call43:(callFunc 43 args).run prog w=.ok (.enter 43 args) w:=aU rfl Tryz.func43 rfl _ _ (Tryz.call43 _ _)
@[simp] theorem call44:(callFunc 44 args).run prog w=.ok (.enter 44 args) w:=aU rfl Tryz.func44 rfl _ _ (Tryz.call44 _ _)
@[simp] theorem call47:(callFunc 47 args).run prog w=.ok (.enter 47 args) w:=aU rfl Tryz.func47 rfl _ _ (Tryz.call47 _ _)
@[simp] theorem call48:(callFunc 48 args).run prog w=.ok (.enter 48 args) w:=aU rfl Tryz.func48 rfl _ _ (Tryz.call48 _ _)
@[simp] theorem call49:(callFunc 49 args).run prog w=.ok (.enter 49 args) w:=aU rfl Tryz.func49 rfl _ _ (Tryz.call49 _ _)
@[simp] theorem call50:(callFunc 50 args).run prog w=.ok (.enter 50 args) w:=aU rfl Tryz.func50 rfl _ _ (Tryz.call50 _ _)
@[simp] theorem call51:(callFunc 51 args).run prog w=.ok (.enter 51 args) w:=aU rfl Tryz.func51 rfl _ _ (Tryz.call51 _ _)
@[simp] theorem call53:(callFunc 53 args).run prog w=.ok (.enter 53 args) w:=aU rfl Tryz.func53 rfl _ _ (Tryz.call53 _ _)
@[simp] theorem call56:(callFunc 56 args).run prog w=.ok (.enter 56 args) w:=aU rfl Tryz.func56 rfl _ _ (Tryz.call56 _ _)
@[simp] theorem call57:(callFunc 57 args).run prog w=.ok (.enter 57 args) w:=aU rfl Tryz.func57 rfl _ _ (Tryz.call57 _ _)
@[simp] theorem call61:(callFunc 61 args).run prog w=.ok (.enter 61 args) w:=aU rfl Tryz.func61 rfl _ _ (Tryz.call61 _ _)
@[simp] theorem call62:(callFunc 62 args).run prog w=.ok (.enter 62 args) w:=aU rfl Tryz.func62 rfl _ _ (Tryz.call62 _ _)
@[simp] theorem call66:(callFunc 66 args).run prog w=.ok (.enter 66 args) w:=aU rfl Tryz.func66 rfl _ _ (Tryz.call66 _ _)
@[simp] theorem call67:(callFunc 67 args).run prog w=.ok (.enter 67 args) w:=aU rfl Tryz.func67 rfl _ _ (Tryz.call67 _ _)
@[simp] theorem call68:(callFunc 68 args).run prog w=.ok (.enter 68 args) w:=aU rfl Tryz.func68 rfl _ _ (Tryz.call68 _ _)
@[simp] theorem call69:(callFunc 69 args).run prog w=.ok (.enter 69 args) w:=aU rfl Tryz.func69 rfl _ _ (Tryz.call69 _ _)
@[simp] theorem call75:(callFunc 75 args).run prog w=.ok (.enter 75 args) w:=aU rfl Tryz.func75 rfl _ _ (Tryz.call75 _ _)
@[simp] theorem call94:(callFunc 94 args).run prog w=.ok (.enter 94 args) w:=aU rfl Tryz.func94 rfl _ _ (Tryz.call94 _ _)
@[simp] theorem call95:(callFunc 95 args).run prog w=.ok (.enter 95 args) w:=aU rfl Tryz.func95 rfl _ _ (Tryz.call95 _ _)
@[simp] theorem call96:(callFunc 96 args).run prog w=.ok (.enter 96 args) w:=aU rfl Tryz.func96 rfl _ _ (Tryz.call96 _ _)
@[simp] theorem call98:(callFunc 98 args).run prog w=.ok (.enter 98 args) w:=aU rfl Tryz.func98 rfl _ _ (Tryz.call98 _ _)
@[simp] theorem call99:(callFunc 99 args).run prog w=.ok (.enter 99 args) w:=aU rfl Tryz.func99 rfl _ _ (Tryz.call99 _ _)
@[simp] theorem call100:(callFunc 100 args).run prog w=.ok (.enter 100 args) w:=aU rfl Tryz.func100 rfl _ _ (Tryz.call100 _ _)
@[simp] theorem call101:(callFunc 101 args).run prog w=.ok (.enter 101 args) w:=aU rfl Tryz.func101 rfl _ _ (Tryz.call101 _ _)
@[simp] theorem call102:(callFunc 102 args).run prog w=.ok (.enter 102 args) w:=aU rfl Tryz.func102 rfl _ _ (Tryz.call102 _ _)
@[simp] theorem call107:(callFunc 107 args).run prog w=.ok (.enter 107 args) w:=aU rfl Tryz.func107 rfl _ _ (Tryz.call107 _ _)
@[simp] theorem call108:(callFunc 108 args).run prog w=.ok (.enter 108 args) w:=aU rfl Tryz.func108 rfl _ _ (Tryz.call108 _ _)
@[simp] theorem call109:(callFunc 109 args).run prog w=.ok (.enter 109 args) w:=aU rfl Tryz.func109 rfl _ _ (Tryz.call109 _ _)
@[simp] theorem call110:(callFunc 110 args).run prog w=.ok (.enter 110 args) w:=aU rfl Tryz.func110 rfl _ _ (Tryz.call110 _ _)
@[simp] theorem call113:(callFunc 113 args).run prog w=.ok (.enter 113 args) w:=aU rfl Tryz.func113 rfl _ _ (Tryz.call113 _ _)
@[simp] theorem call114:(callFunc 114 args).run prog w=.ok (.enter 114 args) w:=aU rfl Tryz.func114 rfl _ _ (Tryz.call114 _ _)
@[simp] theorem call115:(callFunc 115 args).run prog w=.ok (.enter 115 args) w:=aU rfl Tryz.func115 rfl _ _ (Tryz.call115 _ _)
@[simp] theorem call117:(callFunc 117 args).run prog w=.ok (.enter 117 args) w:=aU rfl Tryz.func117 rfl _ _ (Tryz.call117 _ _)
@[simp] theorem call119:(callFunc 119 args).run prog w=.ok (.enter 119 args) w:=aU rfl Tryz.func119 rfl _ _ (Tryz.call119 _ _)
@[simp] theorem call122:(callFunc 122 args).run prog w=.ok (.enter 122 args) w:=aU rfl Tryz.func122 rfl _ _ (Tryz.call122 _ _)
@[simp] theorem call123:(callFunc 123 args).run prog w=.ok (.enter 123 args) w:=aU rfl Tryz.func123 rfl _ _ (Tryz.call123 _ _)
@[simp] theorem call126:(callFunc 126 args).run prog w=.ok (.enter 126 args) w:=aU rfl Tryz.func126 rfl _ _ (Tryz.call126 _ _)
@[simp] theorem call127:(callFunc 127 args).run prog w=.ok (.enter 127 args) w:=aU rfl Tryz.func127 rfl _ _ (Tryz.call127 _ _)
@[simp] theorem call128:(callFunc 128 args).run prog w=.ok (.enter 128 args) w:=aU rfl Tryz.func128 rfl _ _ (Tryz.call128 _ _)
@[simp] theorem call129:(callFunc 129 args).run prog w=.ok (.enter 129 args) w:=aU rfl Tryz.func129 rfl _ _ (Tryz.call129 _ _)
@[simp] theorem call132:(callFunc 132 args).run prog w=.ok (.enter 132 args) w:=aU rfl Tryz.func132 rfl _ _ (Tryz.call132 _ _)
@[simp] theorem call133:(callFunc 133 args).run prog w=.ok (.enter 133 args) w:=aU rfl Tryz.func133 rfl _ _ (Tryz.call133 _ _)
@[simp] theorem call134:(callFunc 134 args).run prog w=.ok (.enter 134 args) w:=aU rfl Tryz.func134 rfl _ _ (Tryz.call134 _ _)
@[simp] theorem call135:(callFunc 135 args).run prog w=.ok (.enter 135 args) w:=aU rfl Tryz.func135 rfl _ _ (Tryz.call135 _ _)
@[simp] theorem call136:(callFunc 136 args).run prog w=.ok (.enter 136 args) w:=aU rfl Tryz.func136 rfl _ _ (Tryz.call136 _ _)
@[simp] theorem call138:(callFunc 138 args).run prog w=.ok (.enter 138 args) w:=aU rfl Tryz.func138 rfl _ _ (Tryz.call138 _ _)
@[simp] theorem call139:(callFunc 139 args).run prog w=.ok (.enter 139 args) w:=aU rfl Tryz.func139 rfl _ _ (Tryz.call139 _ _)
@[simp] theorem call141:(callFunc 141 args).run prog w=.ok (.enter 141 args) w:=aU rfl Tryz.func141 rfl _ _ (Tryz.call141 _ _)
@[simp] theorem call142:(callFunc 142 args).run prog w=.ok (.enter 142 args) w:=aU rfl Tryz.func142 rfl _ _ (Tryz.call142 _ _)
@[simp] theorem call143:(callFunc 143 args).run prog w=.ok (.enter 143 args) w:=aU rfl Tryz.func143 rfl _ _ (Tryz.call143 _ _)
@[simp] theorem call144:(callFunc 144 args).run prog w=.ok (.enter 144 args) w:=aU rfl Tryz.func144 rfl _ _ (Tryz.call144 _ _)
@[simp] theorem call145:(callFunc 145 args).run prog w=.ok (.enter 145 args) w:=aU rfl Tryz.func145 rfl _ _ (Tryz.call145 _ _)
@[simp] theorem call146:(callFunc 146 args).run prog w=.ok (.enter 146 args) w:=aU rfl Tryz.func146 rfl _ _ (Tryz.call146 _ _)
@[simp] theorem call147:(callFunc 147 args).run prog w=.ok (.enter 147 args) w:=aU rfl Tryz.func147 rfl _ _ (Tryz.call147 _ _)
@[simp] theorem call150:(callFunc 150 args).run prog w=.ok (.enter 150 args) w:=aU rfl Tryz.func150 rfl _ _ (Tryz.call150 _ _)
@[simp] theorem call154:(callFunc 154 args).run prog w=.ok (.enter 154 args) w:=aU rfl Tryz.func154 rfl _ _ (Tryz.call154 _ _)
@[simp] theorem call155:(callFunc 155 args).run prog w=.ok (.enter 155 args) w:=aU rfl Tryz.func155 rfl _ _ (Tryz.call155 _ _)
@[simp] theorem call158:(callFunc 158 args).run prog w=.ok (.enter 158 args) w:=aU rfl Tryz.func158 rfl _ _ (Tryz.call158 _ _)
@[simp] theorem call162:(callFunc 162 args).run prog w=.ok (.enter 162 args) w:=aU rfl Tryz.func162 rfl _ _ (Tryz.call162 _ _)
@[simp] theorem call165:(callFunc 165 args).run prog w=.ok (.enter 165 args) w:=aU rfl Tryz.func165 rfl _ _ (Tryz.call165 _ _)
@[simp] theorem call166:(callFunc 166 args).run prog w=.ok (.enter 166 args) w:=aU rfl Tryz.func166 rfl _ _ (Tryz.call166 _ _)
@[simp] theorem call169:(callFunc 169 args).run prog w=.ok (.enter 169 args) w:=aU rfl Tryz.func169 rfl _ _ (Tryz.call169 _ _)
@[simp] theorem call170:(callFunc 170 args).run prog w=.ok (.enter 170 args) w:=aU rfl Tryz.func170 rfl _ _ (Tryz.call170 _ _)
@[simp] theorem call171:(callFunc 171 args).run prog w=.ok (.enter 171 args) w:=aU rfl Tryz.func171 rfl _ _ (Tryz.call171 _ _)
@[simp] theorem call172:(callFunc 172 args).run prog w=.ok (.enter 172 args) w:=aU rfl Tryz.func172 rfl _ _ (Tryz.call172 _ _)
@[simp] theorem call173:(callFunc 173 args).run prog w=.ok (.enter 173 args) w:=aU rfl Tryz.func173 rfl _ _ (Tryz.call173 _ _)
@[simp] theorem call174:(callFunc 174 args).run prog w=.ok (.enter 174 args) w:=aU rfl Tryz.func174 rfl _ _ (Tryz.call174 _ _)
@[simp] theorem call175:(callFunc 175 args).run prog w=.ok (.enter 175 args) w:=aU rfl Tryz.func175 rfl _ _ (Tryz.call175 _ _)
@[simp] theorem call176:(callFunc 176 args).run prog w=.ok (.enter 176 args) w:=aU rfl Tryz.func176 rfl _ _ (Tryz.call176 _ _)
@[simp] theorem call177:(callFunc 177 args).run prog w=.ok (.enter 177 args) w:=aU rfl Tryz.func177 rfl _ _ (Tryz.call177 _ _)
@[simp] theorem call178:(callFunc 178 args).run prog w=.ok (.enter 178 args) w:=aU rfl Tryz.func178 rfl _ _ (Tryz.call178 _ _)
@[simp] theorem call179:(callFunc 179 args).run prog w=.ok (.enter 179 args) w:=aU rfl Tryz.func179 rfl _ _ (Tryz.call179 _ _)
@[simp] theorem call180:(callFunc 180 args).run prog w=.ok (.enter 180 args) w:=aU rfl Tryz.func180 rfl _ _ (Tryz.call180 _ _)
@[simp] theorem call181:(callFunc 181 args).run prog w=.ok (.enter 181 args) w:=aU rfl Tryz.func181 rfl _ _ (Tryz.call181 _ _)
@[simp] theorem call182:(callFunc 182 args).run prog w=.ok (.enter 182 args) w:=aU rfl Tryz.func182 rfl _ _ (Tryz.call182 _ _)
@[simp] theorem call183:(callFunc 183 args).run prog w=.ok (.enter 183 args) w:=aU rfl Tryz.func183 rfl _ _ (Tryz.call183 _ _)
@[simp] theorem call184:(callFunc 184 args).run prog w=.ok (.enter 184 args) w:=aU rfl Tryz.func184 rfl _ _ (Tryz.call184 _ _)
@[simp] theorem call185:(callFunc 185 args).run prog w=.ok (.enter 185 args) w:=aU rfl Tryz.func185 rfl _ _ (Tryz.call185 _ _)
@[simp] theorem call186:(callFunc 186 args).run prog w=.ok (.enter 186 args) w:=aU rfl Tryz.func186 rfl _ _ (Tryz.call186 _ _)
@[simp] theorem call187:(callFunc 187 args).run prog w=.ok (.enter 187 args) w:=aU rfl Tryz.func187 rfl _ _ (Tryz.call187 _ _)
@[simp] theorem call188:(callFunc 188 args).run prog w=.ok (.enter 188 args) w:=aU rfl Tryz.func188 rfl _ _ (Tryz.call188 _ _)
@[simp] theorem call189:(callFunc 189 args).run prog w=.ok (.enter 189 args) w:=aU rfl Tryz.func189 rfl _ _ (Tryz.call189 _ _)
@[simp] theorem call201:(callFunc 201 args).run prog w=.ok (.enter 201 args) w:=aU rfl Tryz.func201 rfl _ _ (Tryz.call201 _ _)
@[simp] theorem call202:(callFunc 202 args).run prog w=.ok (.enter 202 args) w:=aU rfl Tryz.func202 rfl _ _ (Tryz.call202 _ _)
@[simp] theorem call204:(callFunc 204 args).run prog w=.ok (.enter 204 args) w:=aU rfl Tryz.func204 rfl _ _ (Tryz.call204 _ _)
@[simp] theorem call205:(callFunc 205 args).run prog w=.ok (.enter 205 args) w:=aU rfl Tryz.func205 rfl _ _ (Tryz.call205 _ _)
@[simp] theorem call206:(callFunc 206 args).run prog w=.ok (.enter 206 args) w:=aU rfl Tryz.func206 rfl _ _ (Tryz.call206 _ _)
@[simp] theorem call207:(callFunc 207 args).run prog w=.ok (.enter 207 args) w:=aU rfl Tryz.func207 rfl _ _ (Tryz.call207 _ _)
@[simp] theorem call208:(callFunc 208 args).run prog w=.ok (.enter 208 args) w:=aU rfl Tryz.func208 rfl _ _ (Tryz.call208 _ _)
@[simp] theorem call209:(callFunc 209 args).run prog w=.ok (.enter 209 args) w:=aU rfl Tryz.func209 rfl _ _ (Tryz.call209 _ _)
@[simp] theorem call215:(callFunc 215 args).run prog w=.ok (.enter 215 args) w:=aU rfl Tryz.func215 rfl _ _ (Tryz.call215 _ _)
@[simp] theorem call216:(callFunc 216 args).run prog w=.ok (.enter 216 args) w:=aU rfl Tryz.func216 rfl _ _ (Tryz.call216 _ _)
@[simp] theorem call234:(callFunc 234 args).run prog w=.ok (.enter 234 args) w:=aU rfl Tryz.func234 rfl _ _ (Tryz.call234 _ _)
@[simp] theorem call235:(callFunc 235 args).run prog w=.ok (.enter 235 args) w:=aU rfl Tryz.func235 rfl _ _ (Tryz.call235 _ _)
@[simp] theorem call236:(callFunc 236 args).run prog w=.ok (.enter 236 args) w:=aU rfl Tryz.func236 rfl _ _ (Tryz.call236 _ _)
end Go.Tw
namespace Go.Jn
open Go Go.Proofs Go.Sim
def bO:Code->Code
 | .seq a _=>a
 |c=>c
def a8:Code->Code
 | .seq _ b=>b
 |c=>c
def opsOf:Code->Array Aev
 | .region _ ops _=>ops
 |_=>#[]
noncomputable def zJ:Code:=(Tryz.f38.body).getD .skip
noncomputable def iP:Array Aev:=opsOf (bO (a8 (a8 zJ)))
def bn(b:Bool):Nat:=if b then 1 else 0
def uO(i:Nat)(a0 a1 a2 a3 a4 a5:Bool):Bool:=match i with
 |0=> !a0
 |1=> !a1
 |2=> !a2
 |3=> !a3
 |4=> !a4 && a0 && a2
 |5=> !a5 && a1 && a3
 |_=>false
def uJ:List Bool:=[false,true]
def Gj(p:Bool->Bool->Bool->Bool->Bool->Bool->Bool):Bool:=uJ.all fun a0=>uJ.all fun a1=>uJ.all fun a2=>uJ.all fun a3=>uJ.all fun a4=>uJ.all fun a5=>p a0 a1 a2 a3 a4 a5
theorem Ru{p:Bool->Bool->Bool->Bool->Bool->Bool->Bool}(h:Gj p=true)(a0 a1 a2 a3 a4 a5:Bool):p a0 a1 a2 a3 a4 a5=true:=by
 unfold Gj at h;simp only[List.all_eq_true] at h;have hb:∀b:Bool,b∈uJ:=by intro b;cases b<;>simp[uJ]
 exact h a0 (hb _) a1 (hb _) a2 (hb _) a3 (hb _) a4 (hb _) a5 (hb _)
theorem ajO:Gj (fun a0 a1 a2 a3 a4 a5=>(Afj .any iP #[a0,a1,a2,a3,a4,a5]).all fun i=>uO i a0 a1 a2 a3 a4 a5)=true:=by decide+kernel
theorem abf:Gj (fun a0 a1 a2 a3 a4 a5=> !(Afj .any iP #[a0,a1,a2,a3,a4,a5]).isEmpty|| (a0 && a1 && a2 && a3 && a4 && a5))=true:=by decide+kernel
theorem ajd:∃o,iP[0]?=some o/\o.op=.makeChan 154 (.const (.int .i64 0))/\o.dst=some 19/\o.guard=none:=⟨_,rfl,rfl,rfl,rfl⟩
theorem aje:∃o,iP[1]?=some o/\o.op=.makeChan 155 (.const (.int .i64 0))/\o.dst=some 20/\o.guard=none:=⟨_,rfl,rfl,rfl,rfl⟩
theorem ajf:∃o,iP[2]?=some o/\o.op=.alloc 154/\o.dst=some 6/\o.guard=none:=⟨_,rfl,rfl,rfl,rfl⟩
theorem ajg:∃o,iP[3]?=some o/\o.op=.alloc 155/\o.dst=some 7/\o.guard=none:=⟨_,rfl,rfl,rfl,rfl⟩
theorem ajh:∃o,iP[4]?=some o/\o.op=.store 154 (.tmp 6) (.tmp 19)/\o.dst=none/\o.guard=none:=⟨_,rfl,rfl,rfl,rfl⟩
theorem aji:∃o,iP[5]?=some o/\o.op=.store 155 (.tmp 7) (.tmp 20)/\o.dst=none/\o.guard=none:=⟨_,rfl,rfl,rfl,rfl⟩
theorem alu:iP.size=6:=rfl
theorem cf{o:Aev}{y:Nat->Option Bool}(h:o.guard=none):Afi o y=true:=by unfold Afi;rw[h]
theorem WU{P:Aa6}(t:Array Value){ty e:Aa1}{dir:ChanDir}{o:Aev}(ho:o.op=.makeChan ty (.const (.int .i64 0)))(hu:P.underlying ty=some (.chan dir e))(w:Aa4)
 (hi:∃i,P.info? e=some i):(execOp (aS t) o).runT P w #[]=(.ok (.value (.chan (some w.heap.size))) (w.alloc (.chan 0 #[] false 0 0 false)),#[]):=by
 obtain⟨i,hi⟩:=hi;have h1:¬ ((0:Int)<0\/(0:Int)>IntKind.i64.max\/(i.bytes:Int) * 0>2 ^ 48 - 112):=by
  rintro(h|h|h)
  ·omega
  ·exact absurd h (by decide)
  ·omega
 unfold execOp;rw[ho];simp only[Instr.makeChan,aS,Act.eval,asInt,asIntOf,Go.underlying,Go.typeInfo,Go.program,bind,Acz,Acy,hu,hi,pure,newObj,World.alloc];rw[if_neg h1];rfl
theorem Py{P:Aa6}(t:Array Value){ty:Aa1}{o:Aev}(ho:o.op=.alloc ty){i:TypeInfo}(hi: P.info? ty=some i){v:Value}(hz:i.zero=some v)(hv:v.cells=#[v])(w:Aa4):
 (execOp (aS t) o).runT P w #[]=(.ok (.value (.pointer (some ⟨w.heap.size,0,none⟩))) (w.alloc (.cells #[v] ty)),#[]):=by
 unfold execOp;rw[ho];simp only[Instr.alloc,Go.zeroValue,Go.typeInfo,Go.program,bind,Acz,Acy,hi,hz,pure,newVar,newRow,newObj,World.alloc,hv]
def Pd:TypeDesc->Bool
 | .struct _| .array _ _=>false
 |_=>true
theorem agk{P:Aa6}{ty:Aa1}{d:TypeDesc}(hu:P.underlying ty=some d)(hd:Pd d=true)(w:Aa4)(es:Array Event):(Go.isAgg ty).runT P w es=(.ok false w,es):=by
 simp only[Go.isAgg,Go.underlying,Go.program,bind,Acz,Acy,hu,pure];cases d<;>first|rfl|exact absurd hd (by simp[Pd])
theorem PC{P:Aa6}(t:Array Value){ty:Aa1}{n m:Nat}{o:Aev}(ho:o.op=.store ty (.tmp n) (.tmp m)){b:Nat}(ht:t.getD n undef=.pointer (some ⟨b,0,none⟩)){v:Value}(hm:t.getD m undef=v)(hv:v.cells=#[v])(h1:EI v=true)
 {i:TypeInfo}(hi: P.info? ty=some i)(hs:i.size=1)
 (w:Aa4){v0:Value}{e:Aa1}(hw:w.heap[b]?=some (.cells #[v0] e (0,0))):
 (execOp (aS t) o).runT P w #[]=(.ok .skip {w with heap:=w.heap.setIfInBounds b (.cells #[v] e (0,0))},#[⟨.cell ⟨b,0,none⟩,true,false⟩]):=by
 have hc: w.cell? ⟨b,0,none⟩=some v0:=lL hw rfl rfl;have hf: w.frozen? ⟨b,0,none⟩=false:=by rw[xm hw];rfl
 have e1:aS t (.tmp n)=.pointer (some ⟨b,0,none⟩):=ht;have e3:aS t (.tmp m)=v:=hm;have jy:w.setCell ⟨b,0,none⟩ v={w with heap:=w.heap.setIfInBounds b (.cells #[v] e (0,0))}:=by
  have hh:(w.setCell ⟨b,0,none⟩ v).heap=w.heap.setIfInBounds b (.cells #[v] e (0,0)):=by
   apply Array.ext_getElem?;intro i;rw[Bx hw rfl i,Aai]
   by_cases hi:i=b
   ·subst hi
    have al:=(Aaf.1 hw).1
    simp only[if_true,al];rfl
   ·simp only[hi,Aei hi,if_false]
  rw[<-hh];rfl
 have e2:execOp (aS t) o=(storeVar ty ⟨b,0,none⟩ v>>=fun _=>pure .skip):=by
  unfold execOp;rw[ho];simp only[Instr.storeAt,e1,e3,Instr.sureAddr,bind,Acz,pure]
 rw[e2];have aQ:∀es,(Go.store ⟨b,0,none⟩ v).runT P w es=(.ok () (w.setCell ⟨b,0,none⟩ v),es.push ⟨.cell ⟨b,0,none⟩,true,false⟩):=by
  intro es;cases v<;>first| (unfold Go.store;simp only[Acy,hc,hf,Aaw,if_false];rfl) |cases h1
 rw[<-jy];have aw:¬ (#[v].size≠1):=by simp
 simp only[storeVar,hv,storeCells,sizeOf,Go.typeInfo,Go.program,bind,Acz,Acy,hi,hs,pure];rw[if_neg aw];have ha:(⟨b,0,none⟩:Addr).add 0=⟨b,0,none⟩:=rfl;rw[ha];show(((Go.store ⟨b,0,none⟩ v).bind fun _=>Afm ()).bind fun _=>Afm Next.skip).runT P w #[]=_
 rw[pA,pA,aQ];rfl
end Go.Jn
namespace Go.Jn
open Go Go.Sim Go.Conc
section
variable {P:Aa6}(t:Array Value){o:Aev}(w:Aa4)
theorem run_move{x:Abc}(ho:o.op=.move x):(execOp (aS t) o).runT P w #[]=(.ok (.value (aS t x)) w,#[]):=by
 unfold execOp;rw[ho];rfl
theorem run_assign{x:Abc}(ho:o.op=.assign x):(execOp (aS t) o).runT P w #[]=(.ok (.value (aS t x)) w,#[]):=by
 unfold execOp;rw[ho];rfl
theorem Pz{f:Aaz}{cp:Array Abc}(ho:o.op=.makeFunc (.func f) #[] cp):(execOp (aS t) o).runT P w #[]=(.ok (.value (.func (.func f) #[] (cp.map (aS t)))) w,#[]):=by
 unfold execOp;rw[ho]
 simp only[Aeq,Instr.makeFunc];rfl
theorem WO{n:Nat}{ts:Array Aa1}{f:Aaz}{eQ:Array Value}(ho:o.op=.go {callee:=.value (.tmp n),args:=#[],argTypes:=ts})(hn:t.getD n undef=.func (.func f) #[] eQ):
 (execOp (aS t) o).runT P w #[]=(.ok (.spawn {target:=.fn (.func f) eQ,args:=#[]}) w,#[]):=by
 have e1:aS t (.tmp n)=.func (.func f) #[] eQ:=hn;unfold execOp;rw[ho];simp only[resolve,e1,Deferred.ofValue,Aeq,Aag];rfl
theorem akt{n:Nat}{ts:Array Aa1}{f:Aaz}{eQ:Array Value}(ho:o.op=.defer {callee:=.value (.tmp n),args:=#[],argTypes:=ts})(hn:t.getD n undef=.func (.func f) #[] eQ):
 (execOp (aS t) o).runT P w #[]=(.ok (.defer {target:=.fn (.func f) eQ,args:=#[]}) w,#[]):=by
 have e1:aS t (.tmp n)=.func (.func f) #[] eQ:=hn;unfold execOp;rw[ho];simp only[resolve,e1,Deferred.ofValue,Aeq,Aag];rfl
theorem WV{n:Nat}{x:Abc}{c:Nat}(ho:o.op=.send (.tmp n) x)(hn:t.getD n undef=.chan (some c)):
 (execOp (aS t) o).runT P w #[]=(.ok (.comm #[Aey c (aS t x) (.tuple #[])] true .send) w,#[]):=by
 have e1:aS t (.tmp n)=.chan (some c):=hn;unfold execOp;rw[ho];simp only[e1];rfl
theorem PB{n:Nat}{ty e:Aa1}{dir:ChanDir}{ok:Bool}{c:Nat}(ho:o.op=.recv ty (.tmp n) ok)(hn:t.getD n undef=.chan (some c))(hu:P.underlying ty=some (.chan dir e)){i:TypeInfo}(hi: P.info? e=some i){z:Value}(hz:i.zero=some z):
 (execOp (aS t) o).runT P w #[]=(.ok (.comm #[Aez c z] true (.recv ok)) w,#[]):=by
 have e1:aS t (.tmp n)=.chan (some c):=hn;unfold execOp;rw[ho]
 simp only[e1,Go.underlying,Go.zeroValue,Go.typeInfo,Go.program,bind,Acz,Acy,hu,hi,hz,pure];rfl
theorem Ft{n i:Nat}{x:Array Value}{v:Value}(ho:o.op=.extract (.tmp n) i)(hn:t.getD n undef=.tuple x)(hx:x[i]?=some v):
 (execOp (aS t) o).runT P w #[]=(.ok (.value v) w,#[]):=by
 have e1:aS t (.tmp n)=.tuple x:=hn;unfold execOp;rw[ho]
 simp only[e1,Instr.extract,hx];rfl
theorem I3{x y:Abc}{ty Qj:Aa1}{a b:Int}(ho:o.op=.binOp .lss ty x y Qj)(hx:aS t x=.int .i64 a)(hy:aS t y=.int .i64 b):
 (execOp (aS t) o).runT P w #[]=(.ok (.value (.bool (decide (a<b)))) w,#[]):=by
 unfold execOp;rw[ho]
 simp only[hx,hy];rfl
theorem WL{x y:Abc}{ty Qj:Aa1}{a b:Int}(ho:o.op=.binOp .add ty x y Qj)(hx:aS t x=.int .i64 a)(hy:aS t y=.int .i64 b):
 (execOp (aS t) o).runT P w #[]=(.ok (.value (.int .i64 (IntKind.i64.wrap (a+b)))) w,#[]):=by
 unfold execOp;rw[ho]
 simp only[hx,hy];rfl
theorem WQ{n:Nat}{ty e:Aa1}{b:Option Addr}{l c:Nat}(ho:o.op=.call {callee:=.builtin .len,args:=#[.tmp n],argTypes:=#[ty]})(hn:t.getD n undef=.slice b l c)(hu:P.underlying ty=some (.slice e)):
 (execOp (aS t) o).runT P w #[]=(.ok (.value (goInt l)) w,#[]):=by
 have e1:aS t (.tmp n)=.slice b l c:=hn;unfold execOp;rw[ho]
 simp only[resolve,List.map_toArray,List.map_cons,List.map_nil,e1];show((Builtin.len_ #[ty] o.type #[.slice b l c]).bind fun v=>Afm (Next.value v)).runT P w #[]=_
 have e2:(Builtin.len_ #[ty] o.type #[.slice b l c]).runT P w #[]=(.ok (goInt l) w,#[]):=by
  unfold Builtin.len_;simp only[Go.underlying,Go.program,bind,Acz,Acy,pure,List.getElem?_toArray,List.getElem?_cons_zero,hu]
 rw[pA,e2];rfl
theorem WN{n f:Nat}{ty:Aa1}(ho:o.op=.fieldAddr ty (.tmp n) f){a:Addr}(hn:t.getD n undef=.pointer (some a)){fs:Array Field}(hu:P.underlying ty=some (.struct fs)){fd:Field}(hf:fs[f]?=some fd){i:TypeInfo}(hi: P.info? fd.type=some i)(hs:i.size≠0):
 (execOp (aS t) o).runT P w #[]=(.ok (.value (.pointer (some (a.add fd.offset)))) w,#[]):=by
 have e1:aS t (.tmp n)=.pointer (some a):=hn;unfold execOp;rw[ho]
 simp only[e1,Instr.fieldAt,Instr.sureAddr,fieldPlace,sizeOf,Go.underlying,Go.typeInfo,Go.program,bind,Acz,Acy,pure,hu,hf,hi,if_neg hs]
theorem v8{ty:Aa1}{n:Nat}(ho:o.op=.load ty (.tmp n)){a:Addr}(hn:t.getD n undef=.pointer (some a)){d:TypeDesc}(hu:P.underlying ty=some d)(hd:Pd d=true){v:Value}(hc: w.cell? a=some v):
 (execOp (aS t) o).runT P w #[]=(.ok (.value v) w,#[⟨.cell a,false,false⟩]):=by
 have e1:aS t (.tmp n)=.pointer (some a):=hn;have e2:execOp (aS t) o=(do let x <-(do if <-Go.isAgg ty then pure (.agg (<-loadCells a (<-sizeOf ty))) else Go.load a);pure (.value x)):=by
  unfold execOp;rw[ho];simp only[Instr.loadAt,e1,Instr.sureAddr,loadVar,bind,Acz,pure]
 rw[e2];simp only[bind,Go.load];rw[pA,pA,agk hu hd];simp only[Aaw,if_false,Acy,hc,Aae];rfl
theorem aks{n:Nat}{ty:Aa1}{c s r:Nat}(ho:o.op=.call {callee:=.builtin .close,args:=#[.tmp n],argTypes:=#[ty]})(hn:t.getD n undef=.chan (some c))(hw:w.heap[c]?=some (.chan 0 #[] false s r false)):
 (execOp (aS t) o).runT P w #[]=(.ok (.value (.tuple #[])) (w.shut c s r false),#[⟨.obj c,false,true⟩,⟨.obj c,true,true⟩]):=by
 have e1:aS t (.tmp n)=.chan (some c):=hn;unfold execOp;rw[ho]
 simp only[resolve,List.map_toArray,List.map_cons,List.map_nil,e1];show((Builtin.close_ #[ty] o.type #[.chan (some c)]).bind fun v=>Afm (Next.value v)).runT P w #[]=_
 have e2:(Builtin.close_ #[ty] o.type #[.chan (some c)]).runT P w #[]=(.ok (.tuple #[]) (w.shut c s r false),#[⟨.obj c,false,true⟩,⟨.obj c,true,true⟩]):=by
  have e3:Builtin.close_ #[ty] o.type #[.chan (some c)]=(do
   let .chan room buf closed alj ajQ timer <-Go.getObj c|Go.stuck "close: no channel in this block"
   if closed then runtimePanic (.plain "close of closed channel")
   Go.setObj c (.chan room buf true alj ajQ timer)
   pure (.tuple #[])):=rfl
  rw[e3];simp only[Go.getObj,Go.setObj,bind,Acz,Acy,hw,Aaw,if_false,pure,Aae];rfl
 rw[pA,e2];rfl
end
end Go.Jn
namespace Go.Jn
open Go Go.Proofs Go.Sim
def ChanAt(t:Array Value)(M:aaa)(w0 w:Aa4)(s c:Nat):Prop:=t[s]?=some (.chan (some c))/\M.O c/\w0.heap.size<=c/\w.heap[c]?=some (.chan 0 #[] false 0 0 false)
def nU(t:Array Value)(M:aaa)(w0 w:Aa4)(s p:Nat)(v:Value)(ty:Aa1):Prop:=t[s]?=some (.pointer (some ⟨p,0,none⟩))/\M.O p/\w0.heap.size<=p/\w.heap[p]?=some (.cells #[v] ty (0,0))
theorem kB{w:Aa4}{o:Obj}{b:Nat}(h:b<w.heap.size):(w.alloc o).heap[b]?=w.heap[b]?:=by
 show(w.heap.push o)[b]?=_;rw[Aah,if_neg (by omega)]
theorem jO{w:Aa4}{o:Obj}:(w.alloc o).heap[w.heap.size]?=some o:=by
 show(w.heap.push o)[w.heap.size]?=_;rw[Aah,if_pos rfl]
theorem fa{w:Aa4}{o:Obj}:(w.alloc o).heap.size=w.heap.size+1:=by
 show(w.heap.push o).size=_;rw[Aem]
theorem xe{M:aaa}{w:Aa4}{o:Obj}:eO M w (w.alloc o) #[]:=
 ⟨by rw[fa];omega,fun b hb _=>kB hb,rfl,rfl,rfl,fun e he=>absurd he (by simp)⟩
def jh(w:Aa4)(p:Nat)(o:Obj):Aa4:={w with heap:=w.heap.setIfInBounds p o}
theorem qS{w:Aa4}{p:Nat}{o:Obj}:(jh w p o).heap.size=w.heap.size:=Aek
theorem wa{w:Aa4}{p b:Nat}{o:Obj}(h:p≠b):(jh w p o).heap[b]?=w.heap[b]?:=by
 show(w.heap.setIfInBounds p o)[b]?=_;rw[Aai,if_neg h]
theorem PM{w:Aa4}{p:Nat}{o:Obj}(h:p<w.heap.size):(jh w p o).heap[p]?=some o:=by
 show(w.heap.setIfInBounds p o)[p]?=_;rw[Aai,if_pos rfl,if_pos h]
theorem LZ{M:aaa}{w:Aa4}{p:Nat}{o:Obj}(hO:M.O p):eO M w (jh w p o) #[⟨.cell ⟨p,0,none⟩,true,false⟩]:=
 ⟨by rw[qS];exact Ac2 _,fun b _ hb=>wa (by rintro rfl;exact hb hO),rfl,rfl,rfl,fun e he=>by
   simp only[Aee,Afs] at he;subst he;exact .inl ⟨p,.inr ⟨⟨p,0,none⟩,rfl,rfl⟩,rfl,.inl (.inl hO),fun _=>.inl hO⟩⟩
theorem GQ{M:aaa}{w:Aa4}{p:Nat}{o:Obj}:M.grow w (jh w p o)=M:=by
 have:=zV M w;unfold aaa.grow at this |-
 rw[qS];exact this
section
variable {t:Array Value}{M:aaa}{w0 w:Aa4}{s c:Nat}
theorem ChanAt.alloc(h:ChanAt t M w0 w s c)(hl:∀b,M.has b->b<w.heap.size){d:Nat}(hd:d≠s){v:Value}{o:Obj}:ChanAt (t.setIfInBounds d v) (M.grow w (w.alloc o)) w0 (w.alloc o) s c:=
 ⟨by rw[Aai,if_neg hd];exact h.1,.inl h.2.1,h.2.2.1,(kB (hl _ (.inl h.2.1))).trans h.2.2.2⟩
theorem nU.alloc{v0:Value}{ty:Aa1}(h:nU t M w0 w s c v0 ty)(hl:∀b,M.has b->b<w.heap.size){d:Nat}(hd:d≠s){v:Value}{o:Obj}:nU (t.setIfInBounds d v) (M.grow w (w.alloc o)) w0 (w.alloc o) s c v0 ty:=
 ⟨by rw[Aai,if_neg hd];exact h.1,.inl h.2.1,h.2.2.1,(kB (hl _ (.inl h.2.1))).trans h.2.2.2⟩
theorem ChanAt.set(h:ChanAt t M w0 w s c){p:Nat}{v:Value}{ty:Aa1}(hp:w.heap[p]?=some (.cells #[v] ty (0,0))){o:Obj}:ChanAt t M w0 (jh w p o) s c:=
 ⟨h.1,h.2.1,h.2.2.1,(wa (by rintro rfl;rw[h.2.2.2] at hp;exact absurd hp (by simp))).trans h.2.2.2⟩
theorem nU.set{v0:Value}{ty:Aa1}(h:nU t M w0 w s c v0 ty){p:Nat}(hp:p≠c){o:Obj}:nU t M w0 (jh w p o) s c v0 ty:=
 ⟨h.1,h.2.1,h.2.2.1,(wa hp).trans h.2.2.2⟩
theorem ChanAt.keep(h:ChanAt t M w0 w s c){aa:Aa4}(k:bN M w aa):ChanAt t M w0 aa s c:=⟨h.1,h.2.1,h.2.2.1,(k.kept _ (.inl h.2.1)).trans h.2.2.2⟩
theorem nU.keep{v0:Value}{ty:Aa1}(h:nU t M w0 w s c v0 ty){aa:Aa4}(k:bN M w aa):nU t M w0 aa s c v0 ty:=⟨h.1,h.2.1,h.2.2.1,(k.kept _ (.inl h.2.1)).trans h.2.2.2⟩
end
structure I4(t0:Array Value)(M0:aaa)(w0:Aa4)(n:Nat)(l:Array Bool)(t:Array Value)(M:aaa)(w:Aa4):Prop where
 ex:∃a0 a1 a2 a3 a4 a5:Bool,∃cN cL p6 p7:Nat,l=#[a0,a1,a2,a3,a4,a5]/\n=bn a0+bn a1+bn a2+bn a3+bn a4+bn a5/\
  (a0=true->ChanAt t M w0 w 19 cN)/\(a1=true->ChanAt t M w0 w 20 cL)/\
  (a2=true->nU t M w0 w 6 p6 (if a4 then .chan (some cN) else .chan none) 154)/\(a3=true->nU t M w0 w 7 p7 (if a5 then .chan (some cL) else .chan none) 155)/\
  (a4=true->a0=true/\a2=true)/\(a5=true->a1=true/\a3=true)/\(a0=true->a1=true->cN≠cL)/\(a2=true->a3=true->p6≠p7)
 nR:t.size=41
 same:∀j,j≠19->j≠20->j≠6->j≠7->t[j]?=t0[j]?
 O:∀b,M0.O b->M.O b
 On:∀b,M.O b->M0.O b\/w0.heap.size<=b
 R:M.R=M0.R
 kept:∀b,M0.has b->w.heap[b]?=w0.heap[b]?
 size:w0.heap.size<=w.heap.size
 oF:∀b,M0.has b->b<w0.heap.size
 low:∀b,M.has b->b<w.heap.size
 tape:w.tape=w0.tape
 os:w.os=w0.os
 out:w.output=w0.output
section
variable {t0 t:Array Value}{M0 M:aaa}{w0 w:Aa4}{n:Nat}{l:Array Bool}
theorem I4.keep(h:I4 t0 M0 w0 n l t M w){aa:Aa4}(k:bN M w aa):I4 t0 M0 w0 n l t M aa:=by
 obtain⟨⟨a0,a1,a2,a3,a4,a5,cN,cL,p6,p7,e1,e2,f0,f1,f2,f3,f4,f5,f6,f7⟩,nR,same,O,On,R,kept,size,oF,low,tape,os,out⟩:=h;exact⟨⟨a0,a1,a2,a3,a4,a5,cN,cL,p6,p7,e1,e2,fun h=>(f0 h).keep k,fun h=>(f1 h).keep k,fun h=>(f2 h).keep k,fun h=>(f3 h).keep k,f4,f5,f6,f7⟩,nR,same,O,On,R,
  fun b hb=>(k.kept b (hb.imp (O b) fun x=>by rw[R];exact x)).trans (kept b hb),Nat.le_trans size k.size,oF,fun b hb=>Nat.lt_of_lt_of_le (low b hb) k.size,k.tape.trans tape,k.os.trans os,k.out.trans out⟩
end
end Go.Jn
