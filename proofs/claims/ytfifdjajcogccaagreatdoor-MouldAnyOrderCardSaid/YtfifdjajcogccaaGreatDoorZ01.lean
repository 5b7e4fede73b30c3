import Derived.Test.YtfifdjajcogccaaGreatDoorZ00
import Derived.Conc.Beside
import Derived.Conc.CrowdComm
import Derived.Test.YtfifdjajcogccaaGreatDoorProg
import Derived.Tactics2
import Derived.Below
import Derived.Laws.OwnMore
import Derived.Deep.AppendLies
import Derived.Deep.Draws
import Derived.Lib.Hide
import Derived.WalkSpells
import Derived.Outline
import Derived.Deep.QuietTactic
import Derived.BigQuiet
import Derived.IntWalk
import Derived.Laws.IdiomStrings
import Derived.StillTailTactics
import Derived.Deep.RegionHeld3
import Derived.Laws.Rows
import Derived.Shelf.Small.Bits
import Derived.Shelf.Small.Wraps
import Derived.Shelf.Strconv.Itoa0
import Derived.Shelf.Sort.Plain
import Derived.Ground.Names2Prog
import Derived.Shelf.Slices.Clone
import Derived.Shelf.Slices.CompactI
import Derived.Shelf.Slices.SearchI
import Derived.Shelf.Slices.Cells
import Derived.Shelf.Slices.In.SortNone
import Derived.Ground.SlgnProg
import Derived.Shelf.SlicesE.Clone
import Derived.Lib.OwnBridge
import Derived.OwnWalk
set_option linter.all false
set_option maxHeartbeats 64000000
set_option maxRecDepth 100000
open And renaming intro -> Aee
open Array renaming mem_append -> Aad, mem_iff_getElem -> Aef, getElem?_eq_getElem -> Aeg, getElem?_eq_some_iff -> Aaf, append_empty -> Aag, getElem?_setIfInBounds_ne -> Aeh, getElem?_map -> Aei, size_setIfInBounds -> Aej, getElem?_append_right -> Aek, getElem?_eq_none -> Aan, empty_append -> Ael, size_push -> Aem, getElem?_setIfInBounds -> Aai, getElem?_mapIdx -> Aen
open Classical renaming byContradiction -> Aa1
open Go renaming Trace -> Aeo, MemOp -> Aep, Program -> Abe, Goroutine -> Abo, World -> Abc, stepG -> Abv, undef -> Aeq, partners -> Aer, TypeId -> Aa8, maxLen -> Aes, Calls -> Aet
open Go.Conc renaming QuitsIn -> Aeu, crowd -> Aev, runT_crowd_go -> Aew, touchAt -> Aex, touch_of -> Aey, getElem?_append_cases -> Aez, touchAt_of -> Ae0, scase -> Ae1, served -> Ae2, rcase -> Ae3, recvd -> Ae4, parked -> Ae5, woken -> Ae6, getElem?_append_old -> Ae7, lt_size_of_getElem? -> Ae8, offersAt -> Ae9, offersAt_of_not_blocked -> Afa, offersAt_parked_recv -> Afb, offersAt_parked_send' -> Afc, offersAt_parked_recv' -> Afd, offersAt_parked_send -> Afe, getElem?_stand -> Aff, offersAt_ph -> Afg, partners_nil -> Afh, crowd_waits -> Afi, stepG_same -> Afj
open Go.Instr renaming index -> Afk
open Go.IntKind renaming i64 -> Adf
open Go.Lib renaming hid -> Afl, compact -> Afm
open Go.MemAct renaming ofEvent -> Afn, touch? -> Afo
open Go.MemOp renaming ofEvents -> Afp
open Go.Obj renaming cells -> Afq
open Go.Proofs.Tryz renaming prog -> Afr
open Go.RowKit renaming intOf -> Afs
open Go.RowKit.Below renaming refl -> Aft
open Go.Sem renaming run_bind -> Afu, run_pure -> Afv
open Go.Trace renaming g? -> Afw
open Go.Value renaming int -> Afx
open Go.World renaming cell?_alloc_lt -> Afy, cell?_alloc_mark -> Afz
open List renaming mem_toArray -> Af0, mem_singleton -> Af1, mem_cons -> Af2, not_mem_nil -> Af3, length_singleton -> Af4, mem_append -> Af5, getElem?_eq_getElem -> Af6, getElem?_eq_some_iff -> Af7, findIdx?_eq_some_iff_getElem -> Af8, findIdx?_eq_none_iff -> Af9, length_filter_le -> Aga, length_take_le -> Agb, take_of_length_le -> Agc, mem_of_getElem? -> Agd, drop_of_length_le -> Age, take_succ_cons -> Agf, take_zero -> Agg, drop_succ_cons -> Agh, drop_zero -> Agi, range -> Agj
open Nat renaming eq_zero_or_pos -> Agk, lt_of_lt_of_le -> Ad6, le_refl -> Ad4, le_trans -> Ad5, zero_le -> Agl, lt_succ_iff_lt_or_eq -> Agm, le_of_eq -> Agn, mul_one -> Ago, lt_of_le_of_lt -> Agp, le_of_lt -> Agq
open Ne renaming symm -> Agr
open Option renaming map_eq_some_iff -> Ags, map_some -> Agt
open Option.some renaming inj -> Aea, injEq -> Aeb
noncomputable section
namespace Go.Sim
open Go Go.Conc
open Go.ConcN (sumTo upd sumTo_upd upd_ne upd_same)
def Iz:Loc->Prop:=λ_=>False
def L9{M:aaa}{B:Nat}{e:Event}(h:wK M e)(hB:∀b,M.has b->b<B):EvL Iz B e:=by
 obtain⟨loc,wr,sy⟩:=e;rcases h with⟨b,e1,e2,e3,e4⟩ |e1| ⟨f,e1⟩
 ·simp only at e1 e2 e4
  subst e2;rcases e1 with e1| ⟨c,e1,e5⟩
  ·subst e1
   refine⟨λ_ _ h=>h.elim,by simp,by simp,?_⟩
   cases wr<;>exact hB _ e3
  ·subst e1
   refine⟨λ_ _ h=>h.elim,by simp,by simp,?_⟩
   have:=hB _ e3;rw[<-e5] at this;cases wr<;>exact this
 ·simp only at e1
  subst e1;exact⟨λ_ _ h=>h.elim,by simp,by simp,by cases wr<;>cases sy<;>exact trivial⟩
 ·simp only at e1
  subst e1;exact⟨λ_ _ h=>h.elim,by simp,by simp,by cases wr<;>cases sy<;>exact trivial⟩
def oS(t:Aeo):Prop:=∀op∈t,op.act≠ .mark .disable/\op.act≠ .mark .enable
def Wj{t:Aeo}(h:oS t)(g:Nat):∀i,t.deaf g i=0:=by
 intro i;induction i with
 |zero=>rfl
 |succ i ih=>
  unfold Trace.deaf;split
  ·rename_i ab
   exact absurd rfl (h _ (Array.mem_of_getElem? ab)).1
  ·rename_i ab
   exact absurd rfl (h _ (Array.mem_of_getElem? ab)).2
  ·exact ih
def IA{t:Aeo}(h:oS t){i:Nat}{op:Aep}(hi:t[i]?=some op):t.heard i:=⟨op.g,by simp[Afw,hi],Wj h _ _⟩
def EG{t:Aeo}(h:oS t)(g:Nat):Deaf t g=0:=Wj h g _
def oS.app{t u:Aeo}(h:oS t)(k:oS u):oS (t++u):=λop ab=>(Aad.1 ab).elim (h op) (k op)
def O4{M:aaa}{g:Nat}{fn:FuncId}{pos:String}{es:Array Event}(h:∀e∈es,wK M e):oS (Afp g fn pos es):=by
 intro op ab;obtain⟨e,he,rfl⟩:=Go.Conc.mem_ofEvents ab;obtain⟨loc,wr,sy⟩:=e;rcases h _ he with⟨b,e1,e2,_⟩ |e1| ⟨f,e1⟩
 ·simp only at e1 e2
  subst e2;rcases e1 with e1| ⟨c,e1,_⟩<;>subst e1<;>cases wr<;>exact⟨by simp[Afn],by simp[Afn]⟩
 ·simp only at e1
  subst e1;exact⟨by simp[Afn],by simp[Afn]⟩
 ·simp only at e1
  subst e1;exact⟨by simp[Afn],by simp[Afn]⟩
section
variable {P:Abe}
structure Fr(P:Abe)(gs:Array Abo)(w:Abc)(t:Aeo)(q:Nat->Nat)(g:Abo):Prop where
 zero:gs[0]?=some g
 lv:∀i x,0<i->gs[i]?=some x->Aeu P (q i) x
 gD:Past Iz w.heap.size t
 nd:oS t
 gb:∀op∈t,op.g<gs.size
def Fr.ag1{gs:Array Abo}{w:Abc}{t:Aeo}{q:Nat->Nat}{g:Abo}(h:Fr P gs w t q g):Leavers P t gs q:=
 ⟨λi x hi hx=>by rw[EG h.nd];exact QuitsD.of_quitsIn (h.lv i x hi hx),λj _=>EG h.nd j⟩
def woken_quits{g g' b:Abo}{w':Abc}{k:Nat}(hB:Aeu P k b):woken P g g' w' b=b:=woken_quitsD (QuitsD.of_quitsIn hB)
def nM(g:Nat)(fn:FuncId)(pos:String):Afp g fn pos #[]=#[]:=by simp[Afp]
def yy(M:aaa)(w:Abc)(d:Nat):bN M w (w.at d):=bN.of_heap rfl rfl rfl rfl
def To{gs:Array Abo}{w:Abc}{sl:Option (Nat×Nat)}{t:Aeo}{q:Nat->Nat}{g:Abo}(h:Fr P gs w t q g)(bz:g.status=.running):
 (∃d bm,stepT P (Aev gs w sl)=runT P (Aev gs (w.at d) bm) 0)\/
 ∃aT d bm ops q',stepT P (Aev gs w sl)=(.next (Aev aT (w.at d) bm),ops)/\aT.size=gs.size/\sumTo aT.size q'<sumTo gs.size q/\Fr P aT (w.at d) (t++ops) q' g:=by
 obtain⟨h0,hL,hP,hN,hG⟩:=h;have tz:∀g∈gs,awake g:=by
  intro x hx;obtain⟨i,hi,rfl⟩:=Aef.1 hx;rcases Agk i with rfl|rP
  ·have:gs[0]=g:=by simpa [Aeg hi] using h0
   rw[this];exact awake_of (.inl bz)
  ·exact awake_of ((hL i _ rP (Aeg hi)).status.elim .inl λx=>.inr (.inr x))
 obtain⟨i,x,d,bm,hi,hg,aQ⟩:=crowd_pick (P:=P) (w:=w) (sl:=sl) tz ⟨0,g,h0,bz⟩;rcases Agk i with rfl|rP
 ·exact .inl ⟨d,bm,aQ⟩
 ·right
  have hq:=hL i x rP hi;have cR:(i==0)=false:=by simp;omega
  have al:i<gs.size:=(Aaf.1 hi).1
  cases pe:q i with
  |zero=>rw[pe] at hq;rw[show x.status=.finished from hq] at hg;cases hg
  |succ k=>
   rw[pe] at hq;rcases hq with hf| ⟨_,g',D3,mD⟩
   ·rw[hf] at hg;cases hg
   have tJ:=Aew (P:=P) (sl:=bm) (i:=i) hi (by rw[cR];exact D3 (w.at d))
   rw[nM] at tJ;have aI:((gs.map (woken P x g' (w.at d))).setIfInBounds i g').size=gs.size:=by simp
   have Zb:sumTo gs.size (upd q i k)+(k+1)=sumTo gs.size q+k:=by
    have:=sumTo_upd q k id al;simpa [pe] using this
   refine⟨(gs.map (woken P x g' (w.at d))).setIfInBounds i g',d,bm,#[],upd q i k,aQ.trans tJ,aI,by rw[aI];omega,?_,λj y hj hy=>?_,by rw[Aag];exact hP,by rw[Aag];exact hN,by rw[Aag];exactλop ab=>by rw[aI];exact hG op ab⟩
   ·have aw:i≠0:=by omega
    rw[Aeh aw,Aei,h0]
    simp[woken_run bz]
   ·by_cases pa:i=j
    ·subst pa
     rw[Array.getElem?_setIfInBounds_self_of_lt (by simpa using al)] at hy
     obtain rfl:=Aea hy;rw[upd_same];exact mD
    ·rw[Aeh pa,Aei] at hy
     obtain⟨z,hz,rfl⟩:=Ags.1 hy;have yd:=hL j z hj hz;rw[woken_quits yd,upd_ne q k (Agr pa)];exact yd
def Tm{gs:Array Abo}{w aa:Abc}{sl:Option (Nat×Nat)}{t:Aeo}{q:Nat->Nat}{g dG:Abo}{es:Array Event}{M:aaa}(h:Fr P gs w t q g)(hs:Abv P true g w=.go dG aa es)(hd:eO M w aa es)(hM:∀b,M.has b->b<w.heap.size):
 ∃aT ops,runT P (Aev gs w sl) 0=(.next (Aev aT aa sl),ops)/\aT.size=gs.size/\Fr P aT aa (t++ops) q dG:=by
 obtain⟨h0,hL,hP,hN,hG⟩:=h;have tJ:=Aew (P:=P) (sl:=sl) (i:=0) h0 (show Abv P (0==0) g w=_ from hs)
 have al:0<gs.size:=(Aaf.1 h0).1
 refine⟨_,_,tJ,by simp,by simp[al],λj x hj hx=>?_,(hP.mono hd.size).own λe he=>L9 (hd.ev e he) λb hb=>?_,hN.app (O4 hd.ev),λop ab=>?_⟩
 ·have aw:0≠j:=by omega
  rw[Aeh aw,Aei] at hx
  obtain⟨y,hy,rfl⟩:=Ags.1 hx;have hq:=hL j y hj hy;rw[woken_quits hq];exact hq
 ·rcases hb with(hb|hb) |hb
  ·exact Ad6 (hM b (.inl hb)) hd.size
  ·exact hb.2
  ·exact Ad6 (hM b (.inr hb)) hd.size
 ·rw[Aej,Array.size_map]
  rcases Aad.1 ab with ab|ab
  ·exact hG op ab
  ·obtain⟨e,_,rfl⟩:=Go.Conc.mem_ofEvents ab
   exact al
def zU{M:aaa}{w aa:Abc}{es:Array Event}(hd:eO M w aa es)(hM:∀b,M.has b->b<w.heap.size):∀b,(M.grow w aa).has b->b<aa.heap.size:=by
 intro b hb;rcases hb with(hb|hb) |hb
 ·exact Ad6 (hM b (.inl hb)) hd.size
 ·exact hb.2
 ·exact Ad6 (hM b (.inr hb)) hd.size
def Cw{Stop:aaa->Abo->Abc->Prop}{M:aaa}{g:Abo}{w:Abc}(h:Walk P true Stop M g w):
 ∀(gs:Array Abo) (sl:Option (Nat×Nat)) (t:Aeo) (q:Nat->Nat),Fr P gs w t q g->(∀b,M.has b->b<w.heap.size)->
  ∃(N:Nat) (aT:Array Abo) (M':aaa) (g':Abo) (w':Abc) (bm:Option (Nat×Nat)) (t':Aeo) (q':Nat->Nat),
    runNT P N (Aev gs w sl) t=(.next (Aev aT w' bm),t')/\aT.size=gs.size/\Stop M' g' w'/\Fr P aT w' t' q' g':=by
 induction h with
 | @stop M g w h=>exactλgs sl t q hF hM=>⟨0,gs,M,g,w,sl,t,q,rfl,rfl,h w (bN.refl M w),hF⟩
 | @step M g w run nx h hs ih=>
   have key:∀(n:Nat) (gs:Array Abo) (sl:Option (Nat×Nat)) (t:Aeo) (q:Nat->Nat) (aq:Abc),sumTo gs.size q<=n->bN M w aq->Fr P gs aq t q g->(∀b,M.has b->b<aq.heap.size)->
    ∃(N:Nat) (aT:Array Abo) (M':aaa) (g':Abo) (w':Abc) (bm:Option (Nat×Nat)) (t':Aeo) (q':Nat->Nat),
     runNT P N (Aev gs aq sl) t=(.next (Aev aT w' bm),t')/\aT.size=gs.size/\Stop M' g' w'/\Fr P aT w' t' q' g':=by
    intro n;induction n with
    |zero=>
     intro gs sl t q aq hn k hF hM;rcases To (sl:=sl) hF run with⟨d,bm,aQ⟩ | ⟨aT,d,bm,ops,q',_,_,al,_⟩
     ·have k2:=k.trans (yy M aq d)
      obtain⟨h1,h2⟩:=h _ k2;obtain⟨iK,ops,hr,aI,lN⟩:=Tm (sl:=bm) (w:=aq.at d) (M:=M) ⟨hF.zero,hF.lv,hF.gD,hF.nd,hF.gb⟩ h1 h2 hM;obtain⟨N,aT,M',g',w',mQ,t',q',r1,r2,r3,r4⟩:=ih _ k2 iK bm _ q lN (zU h2 hM);exact⟨N+1,aT,M',g',w',mQ,t',q',by simp only[runNT,aQ,hr];exact r1,r2.trans aI,r3,r4⟩
     ·omega
    |succ n En=>
     intro gs sl t q aq hn k hF hM;rcases To (sl:=sl) hF run with⟨d,bm,aQ⟩ | ⟨aT,d,bm,ops,q',aQ,aI,al,lN⟩
     ·have k2:=k.trans (yy M aq d)
      obtain⟨h1,h2⟩:=h _ k2;obtain⟨iK,ops,hr,aI,lN⟩:=Tm (sl:=bm) (w:=aq.at d) (M:=M) ⟨hF.zero,hF.lv,hF.gD,hF.nd,hF.gb⟩ h1 h2 hM;obtain⟨N,aT,M',g',w',mQ,t',q',r1,r2,r3,r4⟩:=ih _ k2 iK bm _ q lN (zU h2 hM);exact⟨N+1,aT,M',g',w',mQ,t',q',by simp only[runNT,aQ,hr];exact r1,r2.trans aI,r3,r4⟩
     ·obtain⟨N,xu,M',g',w',mQ,t',Pf,r1,r2,r3,r4⟩:=En aT bm (t++ops) q' (aq.at d) (by omega) (k.trans (yy M aq d)) lN hM
      exact⟨N+1,xu,M',g',w',mQ,t',Pf,by simp only[runNT,aQ];exact r1,r2.trans aI,r3,r4⟩
   exactλgs sl t q hF hM=>key _ gs sl t q w (Ad4 _) (bN.refl M w) hF hM
end
end Go.Sim
namespace Go.Sim
open Go Go.Conc
def rh(l:Loc)(b:Nat):Prop:=l=.obj b\/∃c:Addr,l=.cell c/\c.block=b
structure lH where
 M:aaa
 g:Abo
 w:Abc
structure WT(cL cN:Nat)(w:Abc)(t:Aeo)(act:Nat->Option lH):Prop where
 keep:∀g j,act g=some j->bN j.M j.w w
 mq:∀g g' j j',g≠g'->act g=some j->act g'=some j'->∀b,j.M.O b->¬j'.M.has b
 low:∀g j,act g=some j->∀b,j.M.has b->b<w.heap.size/\b≠cL/\b≠cN
 tl:∀op∈t,op.act.low w.heap.size
 nd:oS t
 clean:∀said,¬Race said t
 perm:∀g j,act g=some j->∀k a,Aex t k=some a->∀b,rh a.loc b->(j.M.O b\/(j.M.R b/\a.write=true))->Knows t g k
 hL:cL<w.heap.size
 hN:cN<w.heap.size
def eW(act:Nat->Option lH)(g:Nat)(x:Option lH):Nat->Option lH:=λi=>if i=g then x else act i
def fE(act:Nat->Option lH)(g:Nat)(x:Option lH):eW act g x g=x:=by simp[eW]
def bP(act:Nat->Option lH){g i:Nat}(x:Option lH)(h:i≠g):eW act g x i=act i:=by simp[eW,h]
def P9{M:aaa}{e:Event}(h:wK M e){x:Touch}(hx:(Afn e).touch? =some x):∃b,rh x.loc b/\M.has b/\(x.write=true->M.O b)/\x.kind=.plain:=by
 obtain⟨loc,wr,sy⟩:=e;rcases h with⟨b,e1,e2,e3,e4⟩ |e1| ⟨f,e1⟩
 ·simp only at e1 e2 e4
  subst e2;rcases e1 with e1| ⟨c,e1,e5⟩
  ·subst e1
   cases wr<;>(simp[Afn,Afo] at hx;subst hx)
   ·exact⟨b,.inl rfl,e3,by simp,rfl⟩
   ·exact⟨b,.inl rfl,e3,λ_=>e4 rfl,rfl⟩
  ·subst e1
   cases wr<;>(simp[Afn,Afo] at hx;subst hx)
   ·exact⟨b,.inr ⟨c,rfl,e5⟩,e3,by simp,rfl⟩
   ·exact⟨b,.inr ⟨c,rfl,e5⟩,e3,λ_=>e4 rfl,rfl⟩
 ·simp only at e1
  subst e1;cases wr<;>cases sy<;>simp[Afn,Afo] at hx
 ·simp only at e1
  subst e1;cases wr<;>cases sy<;>simp[Afn,Afo] at hx
def OP{l:Loc}{b b':Nat}(h:rh l b)(k:rh l b'):b=b':=by
 rcases h with h| ⟨c,h,e⟩<;>rcases k with k| ⟨c',k,e'⟩
 ·rw[h] at k;exact Loc.obj.inj k
 ·rw[h] at k;cases k
 ·rw[h] at k;cases k
 ·rw[h] at k;cases k;exact e.symm.trans e'
def Qa{t:Aeo}{B:Nat}(h:∀op∈t,op.act.low B){k:Nat}{a:Touch}(ha:Aex t k=some a){b:Nat}(hb:rh a.loc b):b<B:=by
 obtain⟨op,ab,cB⟩:=Aey ha;have hl:=h op (mem_of_getElem? ab);obtain⟨g,fn,pos,act⟩:=op;simp only at cB hl;cases act with
 |access e=>
  simp only[Afo,Aeb] at cB;subst cB;rcases hb with hb| ⟨c,hb,e5⟩
  ·simp only at hb;rw[MemAct.low,hb] at hl;exact hl
  ·simp only at hb;rw[MemAct.low,hb] at hl;rw[<-e5];exact hl
 |mark m=>
  cases m<;>simp[Afo] at cB
  ·subst cB
   rcases hb with hb| ⟨c,hb,e5⟩
   ·cases hb
   ·simp only[Loc.cell.injEq] at hb;subst hb;rw[<-e5];exact hl
  ·subst cB
   rcases hb with hb| ⟨c,hb,e5⟩
   ·cases hb
   ·simp only[Loc.cell.injEq] at hb;subst hb;rw[<-e5];exact hl
 |_=>simp[Afo] at cB
section
variable {cL cN:Nat}{w:Abc}{t:Aeo}{act:Nat->Option lH}
def WT.at(h:WT cL cN w t act)(d:Nat):WT cL cN (w.at d) t act:=
 ⟨λg j e=>(h.keep g j e).trans (yy _ _ _),h.mq,h.low,h.tl,h.nd,h.clean,h.perm,h.hL,h.hN⟩
def WT.own(h:WT cL cN w t act){g:Nat}{j:lH}(hg:act g=some j){x:Abo}{w':Abc}{es:Array Event}(hd:eO j.M w w' es)(fn:FuncId)(pos:String):
 WT cL cN w' (t++Afp g fn pos es) (eW act g (some ⟨j.M.grow w w',x,w'⟩)):=by
 have UM:∀b,(j.M.grow w w').has b->b<w'.heap.size/\b≠cL/\b≠cN:=by
  intro b hb;have old:j.M.has b->b<w'.heap.size/\b≠cL/\b≠cN:=λhb=>by
   have:=h.low g j hg b hb;exact⟨Ad6 this.1 hd.size,this.2⟩
  rcases hb with(hb|hb) |hb
  ·exact old (.inl hb)
  ·have:=h.hL;have:=h.hN
   exact⟨hb.2,by omega,by omega⟩
  ·exact old (.inr hb)
 have IB:∀op∈Afp g fn pos es,∃e∈es,op={g,fn,pos,act:=.ofEvent e}:=λop ab=>Go.Conc.mem_ofEvents ab
 have split:∀ {k a},Aex (t++Afp g fn pos es) k=some a->(k<t.size/\Aex t k=some a)\/∃e∈es,∃b,rh a.loc b/\(j.M.grow w w').has b/\(a.write=true->(j.M.grow w w').O b)/\Knows (t++Afp g fn pos es) g k:=by
  intro k a ha;obtain⟨op,ab,cB⟩:=Aey ha;rcases Aez ab with⟨hi,bG⟩ | ⟨_,dN⟩
  ·exact .inl ⟨hi,by rw[Ae0 bG];exact cB⟩
  ·obtain⟨e,he,rfl⟩:=IB op dN
   obtain⟨b,b1,b2,b3,_⟩:=P9 (hd.ev e he) cB;exact .inr ⟨e,he,b,b1,b2,b3,knows_own ab⟩
 refine⟨λi ji hi=>?_,λi i' ji Ox aw hi bu b hb eH=>?_,λi ji hi b hb=>?_,λop ab=>?_,h.nd.app (O4 hd.ev),λsaid=>?_,λi ji hi k a ha b hb hc=>?_,Ad6 h.hL hd.size,Ad6 h.hN hd.size⟩
 ·by_cases mz:i=g
  ·subst mz
   rw[fE] at hi;cases hi;exact bN.refl _ _
  ·rw[bP _ _ mz] at hi
   refine(h.keep i ji hi).trans ⟨hd.size,λb hb=>hd.kept b (h.low i ji hi b hb).1 λhO=>h.mq g i j ji (Agr mz) hg hi b hO hb,hd.tape,hd.os,hd.out⟩
 ·by_cases mz:i=g
  ·subst mz
   rw[fE] at hi;cases hi;rw[bP _ _ (Agr aw)] at bu;rcases hb with hb|hb
   ·exact h.mq i i' j Ox aw hg bu b hb eH
   ·have:=(h.low i' Ox bu b eH).1;omega
  ·rw[bP _ _ mz] at hi
   by_cases Ur:i'=g
   ·subst Ur
    rw[fE] at bu;cases bu;rcases eH with(eH|eH) |eH
    ·exact h.mq i i' ji j aw hi hg b hb (.inl eH)
    ·have:=(h.low i ji hi b (.inl hb)).1;omega
    ·exact h.mq i i' ji j aw hi hg b hb (.inr eH)
   ·rw[bP _ _ Ur] at bu
    exact h.mq i i' ji Ox aw hi bu b hb eH
 ·by_cases mz:i=g
  ·subst mz
   rw[fE] at hi;cases hi;exact UM b hb
  ·rw[bP _ _ mz] at hi
   have:=h.low i ji hi b hb;exact⟨Ad6 this.1 hd.size,this.2⟩
 ·rcases Aad.1 ab with ab|ab
  ·exact MemAct.low_mono hd.size (h.tl op ab)
  ·obtain⟨e,he,rfl⟩:=IB op ab
   exact(L9 (B:=w'.heap.size) (hd.ev e he) λb hb=>(UM b hb).1).2.2.2
 ·refine noRace_append (h.clean said) (λop ab=>by obtain⟨e,_,rfl⟩:=IB op ab;rfl) λk a ha op ab b hb hc=>?_
  obtain⟨e,he,rfl⟩:=IB op ab;obtain⟨c,c1,c2,c3,c4⟩:=P9 (hd.ev e he) hb;have ca:rh a.loc c:=by rw[hc.1];exact c1
  have al:=Qa h.tl ha ca;by_cases cF:b.write=true
  ·rcases c3 cF with hO|hO
   ·exact h.perm g j hg k a ha c ca (.inl hO)
   ·omega
  ·have tz:a.write=true:=hc.2.2.1.resolve_right cF
   rcases c2 with(hO|hO) |hR
   ·exact h.perm g j hg k a ha c ca (.inl hO)
   ·omega
   ·exact h.perm g j hg k a ha c ca (.inr ⟨hR,tz⟩)
 ·by_cases mz:i=g
  ·subst mz
   rw[fE] at hi;cases hi;rcases split ha with⟨_,uZ⟩ | ⟨e,he,c,c1,c2,c3,c4⟩
   ·have al:=Qa h.tl uZ hb
    refine(h.perm i j hg k a uZ b hb ?_).app _
    rcases hc with(hc|hc) |hc
    ·exact .inl hc
    ·omega
    ·exact .inr hc
   ·exact c4
  ·rw[bP _ _ mz] at hi
   rcases split ha with⟨_,uZ⟩ | ⟨e,he,c,c1,c2,c3,c4⟩
   ·exact(h.perm i ji hi k a uZ b hb hc).app _
   ·exfalso
    obtain rfl:=OP hb c1;have pb:=h.low i ji hi b (hc.imp id (·.1))
    rcases hc with hc| ⟨hc,tz⟩
    ·rcases c2 with(c2|c2) |c2
     ·exact h.mq i g ji j mz hi hg b hc (.inl c2)
     ·omega
     ·exact h.mq i g ji j mz hi hg b hc (.inr c2)
    ·rcases c3 tz with c3|c3
     ·exact h.mq g i j ji (Agr mz) hg hi b c3 (.inr hc)
     ·omega
def WT.mute(h:WT cL cN w t act){u:Aeo}(hu:∀op∈u,op.act.touch? =none/\op.act.low w.heap.size/\op.act≠ .mark .disable/\op.act≠ .mark .enable){w':Abc}(hs:w'.heap.size=w.heap.size)
 (hk:∀b,b≠cL->b≠cN->w'.heap[b]?=w.heap[b]?)(ht:w'.tape=w.tape)(ho:w'.os=w.os)(hp:w'.output=w.output):WT cL cN w' (t++u) act:=by
 have old:∀ {k a},Aex (t++u) k=some a->Aex t k=some a:=by
  intro k a ha;obtain⟨op,ab,cB⟩:=Aey ha;rcases Aez ab with⟨_,bG⟩ | ⟨_,dN⟩
  ·rw[Ae0 bG];exact cB
  ·rw[(hu op dN).1] at cB;cases cB
 refine⟨λg j e=>(h.keep g j e).trans ⟨by rw[hs];exact Ad4 _,λb hb=>hk b (h.low g j e b hb).2.1 (h.low g j e b hb).2.2,ht,ho,hp⟩,h.mq,λg j e b hb=>by rw[hs];exact h.low g j e b hb,λop ab=>?_,h.nd.app λop ab=>(hu op ab).2.2,λsaid=>?_,λg j e k a ha b hb hc=>(h.perm g j e k a (old ha) b hb hc).app u,by rw[hs];exact h.hL,by rw[hs];exact h.hN⟩
 ·rw[hs]
  rcases Aad.1 ab with ab|ab
  ·exact h.tl op ab
  ·exact(hu op ab).2.1
 ·
  have key:∀(l:List Aep) (s:Aeo),(∀op∈l,op.act.touch? =none)->¬Race said s->¬Race said (s++l.toArray):=by
   intro l;induction l with
   |nil=>intro s _ hr;simpa using hr
   |cons x l ih=>
    intro s hl hr;have e:s++(x::l).toArray=(s++#[x])++l.toArray:=by apply Array.ext';simp
    rw[e];refine ih _ (λop ab=>hl op (by simp[ab])) (noRace_append (g:=x.g) hr (by simp) λk a ha op ab b hb hc=>?_)
    simp only[Af0,Af1] at ab;subst ab;rw[hl op (by simp)] at hb
    cases hb
  have:=key u.toList t (λop ab=>(hu op (by simpa using ab)).1) (h.clean said)
  simpa using this
def WT.drop(h:WT cL cN w t act)(g:Nat):WT cL cN w t (eW act g none):=by
 have back:∀ {i j},eW act g none i=some j->act i=some j:=by
  intro i j hi;by_cases e:i=g
  ·subst e;rw[fE] at hi;cases hi
  ·rwa[bP _ _ e] at hi
 exact⟨λi j e=>h.keep i j (back e),λi i' j j' aw e e'=>h.mq i i' j j' aw (back e) (back e'),λi j e=>h.low i j (back e),h.tl,h.nd,h.clean,λi j e=>h.perm i j (back e),h.hL,h.hN⟩
def WT.again(h:WT cL cN w t act){g:Nat}{j:lH}(hg:act g=some j)(x:Abo):WT cL cN w t (eW act g (some ⟨j.M,x,w⟩)):=by
 have back:∀ {i j'},eW act g (some ⟨j.M,x,w⟩) i=some j'->∃VK,act i=some VK/\j'.M=VK.M:=by
  intro i j' hi;by_cases e:i=g
  ·subst e;rw[fE] at hi;cases hi;exact⟨j,hg,rfl⟩
  ·rw[bP _ _ e] at hi;exact⟨j',hi,rfl⟩
 refine⟨λi j' hi=>?_,λi i' j1 j2 aw e e'=>?_,λi j' hi=>?_,h.tl,h.nd,h.clean,λi j' hi=>?_,h.hL,h.hN⟩
 ·by_cases e:i=g
  ·subst e;rw[fE] at hi;cases hi;exact bN.refl _ _
  ·rw[bP _ _ e] at hi;exact h.keep i j' hi
 ·obtain⟨a,a1,a2⟩:=back e
  obtain⟨b,b1,b2⟩:=back e';rw[a2,b2];exact h.mq i i' a b aw a1 b1
 ·obtain⟨a,a1,a2⟩:=back hi
  rw[a2];exact h.low i a a1
 ·obtain⟨a,a1,a2⟩:=back hi
  rw[a2];exact h.perm i a a1
def aaa.shared(M:aaa):aaa:=⟨λ_=>False,M.has⟩
def WT.spawn(h:WT cL cN w t act){j:lH}(h0:act 0=some j){c:Nat}(hc:act c=none)(ic:c≠0){x y:Aep}(hx:x.g=0/\x.act=.go c)(hy:y.g=c/\y.act=.start)(g' child:Abo):
 WT cL cN w (t++#[x,y]) (eW (eW act 0 (some ⟨j.M.shared,g',w⟩)) c (some ⟨j.M.shared,child,w⟩)):=by
 have hm:=h.mute (u:=#[x,y]) (w':=w) (λop ab=>by
  simp only[Af0,Af2,Af3,or_false] at ab;rcases ab with rfl|rfl
  ·rw[hx.2];exact⟨rfl,trivial,by simp,by simp⟩
  ·rw[hy.2];exact⟨rfl,trivial,by simp,by simp⟩) rfl (λ_ _ _=>rfl) rfl rfl rfl
 have back:∀ {i j'},eW (eW act 0 (some ⟨j.M.shared,g',w⟩)) c (some ⟨j.M.shared,child,w⟩) i=some j'->((i=0\/i=c)/\j'.M=j.M.shared/\j'.w=w)\/(i≠0/\i≠c/\act i=some j'):=by
  intro i j' hi;by_cases e:i=c
  ·subst e;rw[fE] at hi;cases hi;exact .inl ⟨.inr rfl,rfl,rfl⟩
  ·rw[bP _ _ e] at hi
   by_cases e0:i=0
   ·subst e0;rw[fE] at hi;cases hi;exact .inl ⟨.inl rfl,rfl,rfl⟩
   ·rw[bP _ _ e0] at hi;exact .inr ⟨e0,e,hi⟩
 have old:∀ {k a},Aex (t++#[x,y]) k=some a->Aex t k=some a:=by
  intro k a ha;obtain⟨op,ab,cB⟩:=Aey ha;rcases Aez ab with⟨_,bG⟩ | ⟨_,dN⟩
  ·rw[Ae0 bG];exact cB
  ·simp only[Af0,Af2,Af3,or_false] at dN
   rcases dN with rfl|rfl
   ·rw[hx.2] at cB;cases cB
   ·rw[hy.2] at cB;cases cB
 refine⟨λi j' hi=>?_,λi i' j1 j2 aw e e' b hb eH=>?_,λi j' hi b hb=>?_,hm.tl,hm.nd,hm.clean,λi j' hi k a ha b hb tA=>?_,h.hL,h.hN⟩
 ·rcases back hi with⟨_,a2,a3⟩ | ⟨_,_,a3⟩
  ·rw[a2,a3];exact bN.refl _ _
  ·exact h.keep i j' a3
 ·rcases back e with⟨_,a2,_⟩ | ⟨a1,_,a3⟩
  ·rw[a2] at hb;exact hb.elim
  ·rcases back e' with⟨_,b2,_⟩ | ⟨_,_,b3⟩
   ·rw[b2] at eH
    exact h.mq i 0 j1 j a1 a3 h0 b hb (eH.resolve_left id)
   ·exact h.mq i i' j1 j2 aw a3 b3 b hb eH
 ·rcases back hi with⟨_,a2,_⟩ | ⟨_,_,a3⟩
  ·rw[a2] at hb;exact h.low 0 j h0 b (hb.resolve_left id)
  ·exact h.low i j' a3 b hb
 ·rcases back hi with⟨a1,a2,_⟩ | ⟨_,_,a3⟩
  ·rw[a2] at tA
   rcases tA with tA| ⟨tA,tz⟩
   ·exact tA.elim
   ·have hk:Knows t 0 k:=by
      rcases tA with hO|hR
      ·exact h.perm 0 j h0 k a (old ha) b hb (.inl hO)
      ·exact h.perm 0 j h0 k a (old ha) b hb (.inr ⟨hR,tz⟩)
    rcases a1 with rfl|rfl
    ·exact hk.app _
    ·exact Go.ConcN.fork_knows hx hy (EG h.nd 0) (EG h.nd _) hk
  ·exact(h.perm i j' a3 k a (old ha) b hb tA).app _
end
def sU(t:Aeo)(g h:Nat):Prop:=∀k a,Aex t k=some a-> t.g? k=some g->Knows t h k
def sU.app{t u:Aeo}{g h:Nat}(k:sU t g h)(hu:∀op∈u,op.g=g-> op.act.touch? =none):sU (t++u) g h:=by
 intro i a ha hg;obtain⟨op,ab,cB⟩:=Aey ha;rcases Aez ab with⟨hi,bG⟩ | ⟨_,dN⟩
 ·refine(k i a (by rw[Ae0 bG];exact cB) ?_).app u
  simpa [Afw,ab,bG] using hg
 ·have e:op.g=g:=by simpa [Afw,ab] using hg
  rw[hu op dN e] at cB;cases cB
def sU.self(t:Aeo)(g:Nat):sU t g g:=by
 intro i a ha hg;obtain⟨op,ab,_⟩:=Aey ha;have e:op.g=g:=by simpa [Afw,ab] using hg
 have:=knows_own ab;rwa[e] at this
def adX{t:Aeo}(hn:oS t){a b c s r cap:Nat}{x1 x2 x3 x4:Aep}(h1:x1.g=a/\x1.act=.send c s)(h2:x2.g=b/\x2.act=.recv c r cap)(h3:x3.g=a/\x3.act=.sendDone c s)(h4:x4.g=b/\x4.act=.recvDone c s)
 {k:Nat}(h:Knows t a k):Knows (t++#[x1,x2,x3,x4]) b k:=by
 have e1:(t++#[x1,x2,x3,x4])[t.size]?=some x1:=by rw[Aek (Ad4 _)];simp
 have e4:(t++#[x1,x2,x3,x4])[t.size+3]?=some x4:=by rw[Aek (by omega)];simp
 have US:oS (t++#[x1,x2,x3,x4]):=hn.app λop ab=>by
  simp only[Af0,Af2,Af3,or_false] at ab;rcases ab with rfl|rfl|rfl|rfl
  ·rw[h1.2];simp
  ·rw[h2.2];simp
  ·rw[h3.2];simp
  ·rw[h4.2];simp
 have q1:HappensBefore (t++#[x1,x2,x3,x4]) k t.size:=h.hb_new (Ad4 _) e1 h1.1;exact⟨t.size+3,x4,e4,h4.1,.inr (q1.trans (.single (.inr ⟨.handOver (c:=c) (k:=s) (by rw[act?_of e1,h1.2]) (by rw[act?_of e4,h4.2]),IA US e1,IA US e4⟩)))⟩
end Go.Sim
namespace Go.Sim
open Go Go.Conc
open Go.ConcN (sumTo upd sumTo_upd upd_ne upd_same sumTo_congr)
inductive Tree:Type
 |leaf:Tree
 |node (f:Abc->Tree):Tree
def Tree.lt(a b:Tree):Prop:=∃f w,b=.node f/\a=f w
def Tree.acc(a:Tree):Acc Tree.lt a:=by
 induction a with
 |leaf=>exact⟨_,λy ⟨f,w,e,_⟩=>by cases e⟩
 |node f ih=>exact⟨_,λy ⟨f',w,e,e'⟩=>by cases e;rw[e'];exact ih w⟩
def zy(n:Nat)(f' f:Nat->Tree):Prop:=∃i,i<n/\Tree.lt (f' i) (f i)/\∀j,j≠i->f' j=f j
def Xv(n:Nat):∀f:Nat->Tree,Acc (zy n) f:=by
 induction n with
 |zero=>exactλf=>⟨_,λy ⟨i,hi,_⟩=>by omega⟩
 |succ n ih=>
  have key:∀x:Tree,Acc Tree.lt x->∀f:Nat->Tree,f n=x->Acc (zy (n+1)) f:=by
   intro x hx;induction hx with
   |intro x _ ihx=>
    intro f hf;have inner:∀f:Nat->Tree,Acc (zy n) f->f n=x->Acc (zy (n+1)) f:=by
     intro f ha;induction ha with
     |intro f _ ihf=>
      intro hf;refine⟨_,λf' ⟨i,hi,al,ho⟩=>?_⟩
      by_cases dL:i=n
      ·subst dL
       exact ihx (f' i) (by rw[<-hf];exact al) f' rfl
      ·exact ihf f' ⟨i,by omega,al,ho⟩ ((ho n (λe=>dL e.symm)).trans hf)
    exact inner f (ih f) hf
  exactλf=>key (f n) (Tree.acc _) f rfl
inductive sZ(P:Abe)(main:Bool)(Stop:aaa->Abo->Abc->Prop):Tree->aaa->Abo->Abc->Prop
 |stop {T:Tree} {M:aaa} {g:Abo} {w:Abc} (h:∀aa,bN M w aa->Stop M g aa):sZ P main Stop T M g w
 |step {f:Abc->Tree} {M:aaa} {g:Abo} {w:Abc} (run:g.status=.running) (nx:Abc->Abo×Abc×Array Event)
   (h:∀aa,bN M w aa->Abv P main g aa=.go (nx aa).1 (nx aa).2.1 (nx aa).2.2/\eO M aa (nx aa).2.1 (nx aa).2.2)
   (hs:∀aa,bN M w aa->sZ P main Stop (f aa) (M.grow aa (nx aa).2.1) (nx aa).1 (nx aa).2.1):sZ P main Stop (.node f) M g w
def Walk.tree{P:Abe}{main:Bool}{Stop:aaa->Abo->Abc->Prop}{M:aaa}{g:Abo}{w:Abc}(h:Walk P main Stop M g w):∃T,sZ P main Stop T M g w:=by
 induction h with
 |stop h=>exact⟨.leaf,.stop h⟩
 | @step M g w run nx h _ ih=>
   have ex:∀aa,∃T,bN M w aa->sZ P main Stop T (M.grow aa (nx aa).2.1) (nx aa).1 (nx aa).2.1:=by
    intro aa;by_cases k:bN M w aa
    ·obtain⟨T,hT⟩:=ih aa k;exact⟨T,λ_=>hT⟩
    ·exact⟨.leaf,λx=>absurd x k⟩
   exact⟨.node λaa=>Classical.choose (ex aa),.step run nx h λaa k=>Classical.choose_spec (ex aa) k⟩
def sZ.rv{P:Abe}{main:Bool}{Stop:aaa->Abo->Abc->Prop}{T:Tree}{M:aaa}{g:Abo}{w:Abc}(h:sZ P main Stop T M g w):
 (∀aa,bN M w aa->Stop M g aa)\/(g.status=.running/\∀aa,bN M w aa->∃T' g' w' es,Tree.lt T' T/\Abv P main g aa=.go g' w' es/\eO M aa w' es/\sZ P main Stop T' (M.grow aa w') g' w'):=by
 cases h with
 |stop h=>exact .inl h
 |step run nx h hs=>exact .inr ⟨run,λaa k=>⟨_,_,_,_,⟨_,aa,rfl,rfl⟩,(h aa k).1,(h aa k).2,hs aa k⟩⟩
structure Pm where
 P:Abe
 n:Nat
 N0:Nat
 cL:Nat
 cN:Nat
 eU:Nat->Bool
 val:Nat->Value
 End:List Nat->aaa->Abo->Abc->Prop
def FW(X:Pm)(c:Nat)(v:Value)(Next:aaa->Abo->Abc->Prop)(M:aaa)(g:Abo)(w:Abc):Prop:=
 g.status=.running/\g.offers=none/\(∃z,Abv X.P false g w=.comm g #[Ae1 c v z] true .send w #[])/\Next M (Ae2 g Aeq) w
def W2(X:Pm):aaa->Abo->Abc->Prop:=FW X X.cL (.bool true) (λ_ g _=>∃k,Aeu X.P k g)
def W1(X:Pm)(i:Nat)(M:aaa)(g:Abo)(w:Abc):Prop:=
 (X.eU i=true/\FW X X.cN (X.val i) (λM g w=>Walk X.P false (W2 X) M g w) M g w)\/(X.eU i=false/\W2 X M g w)
def AtClose(X:Pm)(_:aaa)(g:Abo)(w:Abc):Prop:=
 g.status=.running/\mayWake X.P g=true/\∀s r,w.heap[X.cN]?=some (.chan 0 #[] false s r false)->
  ∃cg k,Abv X.P false g w=.go cg (w.shut X.cN s r false) #[⟨.obj X.cN,false,true⟩,⟨.obj X.cN,true,true⟩]/\Aeu X.P k cg
def pW(X:Pm):Nat->aaa->Abo->Abc->Prop
 |0=>AtClose X
 |r+1=>λM g w=>g.status=.running/\g.offers=none/\(∃z,Abv X.P false g w=.comm g #[Ae3 X.cL z] true (.recv false) w #[])/\Walk X.P false (pW X r) M (Ae2 g (Ae4 false (.bool true) true)) w
def nj(X:Pm):Nat->List Nat->aaa->Abo->Abc->Prop
 |0,az=>λM g w=>g.status=.running/\g.offers=none/\∃z,Abv X.P true g w=.comm g #[Ae3 X.cN z] true (.recv true) w #[]/\X.End az M (Ae2 g (Ae4 true z false)) w
 |f+1,az=>λM g w=>g.status=.running/\g.offers=none/\∃z,Abv X.P true g w=.comm g #[Ae3 X.cN z] true (.recv true) w #[]/\X.End az M (Ae2 g (Ae4 true z false)) w/\
   ∀i,i<X.n->X.eU i=true->i ∉ az->Walk X.P true (nj X f (az++ [i])) M (Ae2 g (Ae4 true (X.val i) true)) w
def nj.at{X:Pm}{f:Nat}{az:List Nat}{M:aaa}{g:Abo}{w:Abc}(h:nj X f az M g w):g.status=.running/\g.offers=none/\∃z,Abv X.P true g w=.comm g #[Ae3 X.cN z] true (.recv true) w #[]/\X.End az M (Ae2 g (Ae4 true z false)) w:=by
 cases f with
 |zero=>exact h
 |succ f=>obtain⟨a,b,z,c,d,_⟩:=h;exact⟨a,b,z,c,d⟩
def StopA(X:Pm):Nat->aaa->Abo->Abc->Prop
 |0=>λM g w=>g.status=.running/\∃cg child,Abv X.P true g w=.spawn cg child w #[]/\cg.status=.running/\child.status=.running/\Walk X.P false (pW X X.n) M.shared child w/\Walk X.P true (nj X X.n []) M.shared cg w
 |r+1=>λM g w=>g.status=.running/\∃cg child,Abv X.P true g w=.spawn cg child w #[]/\cg.status=.running/\child.status=.running/\Walk X.P false (W1 X (X.n - (r+1))) M.shared child w/\Walk X.P true (StopA X r) M.shared cg w
inductive WS where
 |no|ku|iR|iz|iu|quit
 deriving DecidableEq
def WS.w:WS->Nat
 | .no=>6| .ku=>5| .iR=>4| .iz=>3| .iu=>2| .quit=>0
def WS.gD:WS->Bool
 | .iz| .iu| .quit=>true
 |_=>false
def WS.q(s:WS):Nat:=if s=.quit then 1 else 0
inductive MP where
 |spawn|walk(f:Nat)(az:List Nat) |db(f:Nat)(az:List Nat)
inductive CP where
 |no|walk(r:Nat) |db(r:Nat) |quit
def MP.w(n:Nat):MP->Nat
 | .spawn=>2 * n+3| .walk f _=>2 * f+2| .db f _=>2 * f+1
def CP.w(n:Nat):CP->Nat
 | .no=>2 * n+8| .walk r=>2 * r+5| .db r=>2 * r+4| .quit=>0
structure Gh where
 j:Nat
 st:Nat->WS
 mp:MP
 cp:CP
 act:Nat->Option lH
 q:Nat->Nat
 tr:Nat->Tree
def Gh.mu(X:Pm)(G:Gh):Nat:=G.mp.w X.n+G.cp.w X.n+sumTo X.n (λi=>(G.st i).w)
def pV(x y:Abo):Prop:=x.frame=y.frame/\x.callers=y.callers/\x.dying=y.dying/\x.status=.running
def fM(X:Pm)(G:Gh)(x:Abo):Prop:=
 match G.mp with
 | .spawn=>∃M aL,G.act 0=some ⟨M,x,aL⟩/\x.status=.running/\sZ X.P true (StopA X (X.n - G.j)) (G.tr 0) M x aL
 | .walk f az=>∃M aL y,G.act 0=some ⟨M,y,aL⟩/\pV x y/\sZ X.P true (nj X f az) (G.tr 0) M y aL
 | .db f az=>∃M aL y z,G.act 0=some ⟨M,y,aL⟩/\x=Ae5 y #[Ae3 X.cN z] (.recv true)/\∀aa,bN M aL aa->nj X f az M y aa
def WSit(X:Pm)(G:Gh)(i:Nat)(x:Abo):Prop:=
 match G.st i with
 | .no=>False
 | .ku=>∃M aL,G.act (X.N0+i)=some ⟨M,x,aL⟩/\x.status=.running/\sZ X.P false (W1 X i) (G.tr (X.N0+i)) M x aL
 | .iR=>∃M aL y z,G.act (X.N0+i)=some ⟨M,y,aL⟩/\x=Ae5 y #[Ae1 X.cN (X.val i) z] .send/\X.eU i=true/\Walk X.P false (W2 X) M (Ae2 y Aeq) aL
 | .iz=>∃M aL,G.act (X.N0+i)=some ⟨M,x,aL⟩/\x.status=.running/\sZ X.P false (W2 X) (G.tr (X.N0+i)) M x aL
 | .iu=>∃M aL y z,G.act (X.N0+i)=some ⟨M,y,aL⟩/\x=Ae5 y #[Ae1 X.cL (.bool true) z] .send/\∃k,Aeu X.P k (Ae2 y Aeq)
 | .quit=>G.act (X.N0+i)=none/\Aeu X.P (G.q (X.N0+i)) x
def CSit(X:Pm)(G:Gh)(x:Abo):Prop:=
 match G.cp with
 | .no=>False
 | .walk r=>∃M aL,G.act (X.N0+X.n)=some ⟨M,x,aL⟩/\x.status=.running/\sZ X.P false (pW X r) (G.tr (X.N0+X.n)) M x aL
 | .db r=>∃r' M aL y z,r=r'+1/\G.act (X.N0+X.n)=some ⟨M,y,aL⟩/\x=Ae5 y #[Ae3 X.cL z] (.recv false)/\Walk X.P false (pW X r') M (Ae2 y (Ae4 false (.bool true) true)) aL
 | .quit=>G.act (X.N0+X.n)=none/\Aeu X.P (G.q (X.N0+X.n)) x
def Gh.closed(G:Gh):Bool:=match G.cp with
 | .quit=>true
 |_=>false
def CP.gC:CP->Bool
 | .no=>true
 |_=>false
def mY(X:Pm)(G:Gh):Prop:=
 match G.cp with
 | .no=>sumTo X.n (λi=>(G.st i).q)=0
 | .walk r| .db r=>r+sumTo X.n (λi=>(G.st i).q)=X.n
 | .quit=>sumTo X.n (λi=>(G.st i).q)=X.n
def nf(X:Pm)(G:Gh):Prop:=
 match G.mp with
 | .spawn=>∀i,i<X.n->X.eU i=true->(G.st i).gD=false
 | .walk f az| .db f az=>az.Nodup/\f+az.length=X.n/\∀i,i∈az↔(i<X.n/\X.eU i=true/\(G.st i).gD=true)
structure Base(wb w:Abc):Prop where
 size:wb.heap.size<=w.heap.size
 tape:w.tape=wb.tape
 os:w.os=wb.os
 out:w.output=wb.output
structure FI(X:Pm)(wb:Abc)(gs:Array Abo)(w:Abc)(t:Aeo)(G:Gh):Prop where
 size:gs.size=X.N0+G.j+(if G.cp.gC then 0 else 1)
 n0:0<X.N0
 jn:G.j<=X.n
 jc:G.cp.gC=false->G.j=X.n
 mc:(∃f az,G.mp=.walk f az\/G.mp=.db f az)↔G.cp.gC=false
 uh:∀i,i<X.n->(G.st i=.no↔G.j<=i)
 main:∃x,gs[0]?=some x/\fM X G x
 wk:∀i,i<G.j->∃x,gs[X.N0+i]?=some x/\WSit X G i x
 cl:G.cp.gC=false->∃x,gs[X.N0+X.n]?=some x/\CSit X G x
 old:∀g x,0<g->g<X.N0->gs[g]?=some x->Aeu X.P (G.q g) x
 nN:∀g,0<g->g<X.N0->G.act g=none
 mw:∀g,gs.size<=g->G.act g=none
 cnt:mY X G
 az:nf X G
 mL:(∃f az,G.mp=.db f az)->∀i,i<X.n->G.st i≠ .iR
 vN:(∃r,G.cp=.db r)->∀i,i<X.n->G.st i≠ .iu
 yJ:(∃f az,G.mp=.db f az)->G.closed=false
 wt:WT X.cL X.cN w t G.act
 kU:∃s,w.heap[X.cL]?=some (.chan 0 #[] false s s false)
 kV:∃s,w.heap[X.cN]?=some (.chan 0 #[] G.closed s s false)
 neq:X.cL≠X.cN
 base:Base wb w
 vP:∀k a,Aex t k=some a->a.loc.isMemory=true->∀g,t.g? k=some g->g<X.N0->Knows t 0 k
 tj:∀k g,t.g? k=some g->g<gs.size
 kq:∀i,i<X.n->G.st i=.quit->sU t (X.N0+i) (X.N0+X.n)
 yI:G.closed=false->∀k a,Aex t k=some a->a.loc≠ .obj X.cN
 CN:G.closed=true->∃c z,t[c]?=some z/\z.act=.close X.cN/\z.g=X.N0+X.n/\∀k a,Aex t k=some a->∀g,t.g? k=some g->X.N0<=g->Before t k c
end Go.Sim
namespace Go.Sim
open Go Go.Conc
open Go.ConcN (sumTo upd sumTo_upd upd_ne upd_same sumTo_congr)
def XF(st:Nat->WS):∀n,sumTo n (λi=>(st i).q)<=n
 |0=>Ad4 _
 |n+1=>by
  have:=XF st n;simp only[sumTo];have:(st n).q<=1:=by unfold WS.q;split<;>omega
  omega
def P6(st:Nat->WS):∀n,sumTo n (λi=>(st i).q)=n->∀i,i<n->st i=.quit
 |0,_,i,hi=>by omega
 |n+1,h,i,hi=>by
  have h1:=XF st n;have h2:(st n).q<=1:=by unfold WS.q;split<;>omega
  simp only[sumTo] at h;by_cases e:i=n
  ·subst e
   have:(st i).q=1:=by omega
   unfold WS.q at this;split at this
   ·assumption
   ·omega
  ·exact P6 st n (by omega) i (by omega)
def al2(st:Nat->WS)(n:Nat)(h:sumTo n (λi=>(st i).q)<n):∃i,i<n/\st i≠ .quit:=by
 apply Aa1;intro hn;have nO:∀i,i<n->st i=.quit:=λi hi=>Aa1 λhq=>hn ⟨i,hi,hq⟩
 have:sumTo n (λi=>(st i).q)=n:=by
  have key:∀m,m<=n->sumTo m (λi=>(st i).q)=m:=by
   intro m;induction m with
   |zero=>intro _;rfl
   |succ m ih=>
    intro hm;simp only[sumTo];rw[ih (by omega),nO m (by omega)]
    simp[WS.q]
  exact key n (Ad4 _)
 omega
section
variable {X:Pm}{wb:Abc}{gs:Array Abo}{w:Abc}{t:Aeo}{G:Gh}
def CP.aaP{G:Gh}(h:G.closed=true):G.cp.gC=false:=by
 unfold Gh.closed at h;unfold CP.gC;cases hc:G.cp<;>rw[hc] at h<;>simp_all
def FI.Gk(h:FI X wb gs w t G)(hc:G.closed=true):∀i,i<X.n->G.st i=.quit:=by
 have hq:=h.cnt;unfold mY at hq;unfold Gh.closed at hc;cases e:G.cp with
 |quit=>rw[e] at hq;exact P6 _ _ hq
 |_=>rw[e] at hc;cases hc
def FI.sI(h:FI X wb gs w t G){k:Nat}(hk:k<gs.size):k=0\/(0<k/\k<X.N0)\/(∃i,i<G.j/\k=X.N0+i)\/(k=X.N0+X.n/\G.cp.gC=false):=by
 have hs:=h.size;by_cases h0:k=0
 ·exact .inl h0
 by_cases h1:k<X.N0
 ·exact .inr (.inl ⟨by omega,h1⟩)
 by_cases h2:k<X.N0+G.j
 ·exact .inr (.inr (.inl ⟨k - X.N0,by omega,by omega⟩))
 ·right;right;right
  by_cases hc:G.cp.gC=true
  ·rw[hc] at hs;simp at hs;omega
  ·have hc:G.cp.gC=false:=by simpa using hc
   rw[hc] at hs;have:=h.jc hc;simp at hs;exact⟨by omega,hc⟩
def FI.afc(h:FI X wb gs w t G){i:Nat}(hi:i<X.n)(hs:G.st i≠ .no):i<G.j:=by
 apply Aa1;intro hn;exact hs ((h.uh i hi).2 (by omega))
def FI.kinds(h:FI X wb gs w t G){k:Nat}{y:Abo}(hy:gs[k]?=some y):
 y.status=.running\/(∃n,Aeu X.P n y)\/(∃g z,G.closed=false/\y=Ae5 g #[Ae3 X.cN z] (.recv true))\/(∃g z,y=Ae5 g #[Ae3 X.cL z] (.recv false))\/
  (∃g v z,k≠0/\G.closed=false/\y=Ae5 g #[Ae1 X.cN v z] .send)\/∃g v z,k≠0/\y=Ae5 g #[Ae1 X.cL v z] .send:=by
 rcases h.sI (Aaf.1 hy).1 with rfl| ⟨h1,h2⟩ | ⟨i,hi,rfl⟩ | ⟨rfl,hc⟩
 ·obtain⟨x,hx,hs⟩:=h.main
  rw[hy] at hx;obtain rfl:=Aea hx;unfold fM at hs;cases e:G.mp with
  |spawn=>rw[e] at hs;obtain⟨M,aL,_,hr,_⟩:=hs;exact .inl hr
  |walk f az=>rw[e] at hs;obtain⟨M,aL,y',_,hr,_⟩:=hs;exact .inl hr.2.2.2
  |db f az=>rw[e] at hs;obtain⟨M,aL,y',z,_,hr,_⟩:=hs;exact .inr (.inr (.inl ⟨y',z,h.yJ ⟨f,az,e⟩,hr⟩))
 ·exact .inr (.inl ⟨_,h.old k y h1 h2 hy⟩)
 ·obtain⟨x,hx,hs⟩:=h.wk i hi
  rw[hy] at hx;obtain rfl:=Aea hx;have iM:X.N0+i≠0:=by have:=h.n0;omega
  have eL:∀s,G.st i=s->s≠ .quit->G.closed=false:=by
   intro s e hs;apply Aa1;intro hc;have:=h.Gk (by simpa using hc) i (by have:=h.jn;omega)
   exact hs (e.symm.trans this)
  unfold WSit at hs;cases e:G.st i with
  |no=>rw[e] at hs;exact hs.elim
  |ku=>rw[e] at hs;obtain⟨M,aL,_,hr,_⟩:=hs;exact .inl hr
  |iR=>rw[e] at hs;obtain⟨M,aL,y',z,_,hr,_⟩:=hs;exact .inr (.inr (.inr (.inr (.inl ⟨y',_,z,iM,eL _ e (by simp),hr⟩))))
  |iz=>rw[e] at hs;obtain⟨M,aL,_,hr,_⟩:=hs;exact .inl hr
  |iu=>rw[e] at hs;obtain⟨M,aL,y',z,_,hr,_⟩:=hs;exact .inr (.inr (.inr (.inr (.inr ⟨y',_,z,iM,hr⟩))))
  |quit=>rw[e] at hs;exact .inr (.inl ⟨_,hs.2⟩)
 ·obtain⟨x,hx,hs⟩:=h.cl hc
  rw[hy] at hx;obtain rfl:=Aea hx;unfold CSit at hs;cases e:G.cp with
  |no=>rw[e] at hs;exact hs.elim
  |walk r=>rw[e] at hs;obtain⟨M,aL,_,hr,_⟩:=hs;exact .inl hr
  |db r=>rw[e] at hs;obtain⟨r',M,aL,y',z,_,_,hr,_⟩:=hs;exact .inr (.inr (.inr (.inl ⟨y',z,hr⟩)))
  |quit=>rw[e] at hs;exact .inr (.inl ⟨_,hs.2⟩)
def FI.awake(h:FI X wb gs w t G):∀g∈gs,Conc.awake g:=by
 intro y hy;obtain⟨k,hk,rfl⟩:=Aef.1 hy;rcases h.kinds (k:=k) (Aeg hk) with e| ⟨n,e⟩ | ⟨g,z,_,e⟩ | ⟨g,z,e⟩ | ⟨g,v,z,_,_,e⟩ | ⟨g,v,z,_,e⟩
 ·exact awake_of (.inl e)
 ·exact awake_of (e.status.elim .inl λx=>.inr (.inr x))
 all_goals rw[e];exact awake_of (.inr (.inl rfl))
def FI.woken(h:FI X wb gs w t G){k:Nat}{y:Abo}(hy:gs[k]?=some y){x x':Abo}{w':Abc}(hL:∃s,w'.heap[X.cL]?=some (.chan 0 #[] false s s false))
 (hN:G.closed=false->∃s,w'.heap[X.cN]?=some (.chan 0 #[] false s s false)):Ae6 X.P x x' w' y=y:=by
 obtain⟨s,hL⟩:=hL;rcases h.kinds hy with e| ⟨n,e⟩ | ⟨g,z,hc,e⟩ | ⟨g,z,e⟩ | ⟨g,v,z,_,hc,e⟩ | ⟨g,v,z,_,e⟩
 ·exact woken_run e
 ·exact woken_quits e
 ·obtain⟨s',hN⟩:=hN hc
  rw[e];exact woken_recv_open _ _ hN
 ·rw[e];exact woken_recv_open _ _ hL
 ·obtain⟨s',hN⟩:=hN hc
  rw[e];exact woken_send_open _ _ hN
 ·rw[e];exact woken_send_open _ _ hL
def FI.alx(h:FI X wb gs w t G):∃(k:Nat) (y:Abo),gs[k]?=some y/\y.status=.running:=by
 obtain⟨x,hx,hs⟩:=h.main;unfold fM at hs;cases e:G.mp with
 |spawn=>rw[e] at hs;obtain⟨M,aL,_,hr,_⟩:=hs;exact⟨0,x,hx,hr⟩
 |walk f az=>rw[e] at hs;obtain⟨M,aL,y',_,hr,_⟩:=hs;exact⟨0,x,hx,hr.2.2.2⟩
 |db f az=>
  have eL:=h.yJ ⟨f,az,e⟩;have bj:=h.mc.1 ⟨f,az,.inr e⟩;obtain⟨y,hy,hc⟩:=h.cl bj;have de:=h.cnt;unfold CSit at hc;unfold mY at de;cases ec:G.cp with
  |no=>rw[ec] at bj;cases bj
  |quit=>unfold Gh.closed at eL;rw[ec] at eL;cases eL
  |walk r=>rw[ec] at hc;obtain⟨M,aL,_,hr,_⟩:=hc;exact⟨_,y,hy,hr⟩
  |db r=>
   rw[ec] at hc de;obtain⟨r',M,aL,y',z,DX,_⟩:=hc;simp only at de;obtain⟨i,hi,hq⟩:=al2 G.st X.n (by omega)
   have hj:=h.jc bj;obtain⟨x2,rT,dD⟩:=h.wk i (by omega)
   unfold WSit at dD;cases es:G.st i with
   |no=>rw[es] at dD;exact dD.elim
   |ku=>rw[es] at dD;obtain⟨M,aL,_,hr,_⟩:=dD;exact⟨_,x2,rT,hr⟩
   |iz=>rw[es] at dD;obtain⟨M,aL,_,hr,_⟩:=dD;exact⟨_,x2,rT,hr⟩
   |iR=>exact absurd es (h.mL ⟨f,az,e⟩ i hi)
   |iu=>exact absurd es (h.vN ⟨r,ec⟩ i hi)
   |quit=>exact absurd es hq
def FI.at(h:FI X wb gs w t G)(d:Nat):FI X wb gs (w.at d) t G:=
 ⟨h.size,h.n0,h.jn,h.jc,h.mc,h.uh,h.main,h.wk,h.cl,h.old,h.nN,h.mw,h.cnt,h.az,h.mL,h.vN,h.yJ,h.wt.at d,h.kU,h.kV,h.neq,⟨h.base.size,h.base.tape,h.base.os,h.base.out⟩,h.vP,h.tj,h.kq,h.yI,h.CN⟩
def TB(h:FI X wb gs w t G){x x':Abo}{w':Abc}(hL:∃s,w'.heap[X.cL]?=some (.chan 0 #[] false s s false))
 (hN:G.closed=false->∃s,w'.heap[X.cN]?=some (.chan 0 #[] false s s false)){k i:Nat}(aw:i≠k):((gs.map (Ae6 X.P x x' w')).setIfInBounds k x')[i]?=gs[i]?:=by
 rw[Aeh (Agr aw),Aei]
 cases e:gs[i]? with
 |none=>rfl
 |some y=>rw[Agt,h.woken e hL hN]
def Mn{f:Abo->Abo}{k:Nat}(hk:k<gs.size)(x':Abo):((gs.map f).setIfInBounds k x')[k]?=some x':=by
 simp[hk]
def Rp(X:Pm)(G:Gh)(k:Nat)(x:Abo):Prop:=
 (k=0/\fM X G x)\/(∃i,i<G.j/\k=X.N0+i/\WSit X G i x)\/(k=X.N0+X.n/\G.cp.gC=false/\CSit X G x)
def FI.own(h:FI X wb gs w t G){k:Nat}{x g':Abo}{j:lH}{w':Abc}{es:Array Event}(hk:gs[k]?=some x)(ot:G.act k=some j)(hd:eO j.M w w' es)(T':Tree)(fn:FuncId)(pos:String)
 (qF:Rp X {G with act:=eW G.act k (some ⟨j.M.grow w w',g',w'⟩),tr:=upd G.tr k T'} k g'):
 FI X wb ((gs.map (Ae6 X.P x g' w')).setIfInBounds k g') w' (t++Afp k fn pos es) {G with act:=eW G.act k (some ⟨j.M.grow w w',g',w'⟩),tr:=upd G.tr k T'}:=by
 have al:k<gs.size:=(Aaf.1 hk).1
 have Hf:∃s,w'.heap[X.cL]?=some (.chan 0 #[] false s s false):=by
  obtain⟨s,e⟩:=h.kU;exact⟨s,by rw[hd.kept X.cL h.wt.hL λhO=>(h.wt.low k j ot _ (.inl hO)).2.1 rfl];exact e⟩
 have xJ:∃s,w'.heap[X.cN]?=some (.chan 0 #[] G.closed s s false):=by
  obtain⟨s,e⟩:=h.kV;exact⟨s,by rw[hd.kept X.cN h.wt.hN λhO=>(h.wt.low k j ot _ (.inl hO)).2.2 rfl];exact e⟩
 have M5:G.closed=false->∃s,w'.heap[X.cN]?=some (.chan 0 #[] false s s false):=λe=>by rw[e] at xJ;exact xJ
 have Bu:∀ {i},i≠k->((gs.map (Ae6 X.P x g' w')).setIfInBounds k g')[i]?=gs[i]?:=λaw=>TB h Hf M5 aw
 have xt:((gs.map (Ae6 X.P x g' w')).setIfInBounds k g')[k]?=some g':=Mn al g';have aI:((gs.map (Ae6 X.P x g' w')).setIfInBounds k g').size=gs.size:=by simp
 have Nv:¬ (0<k/\k<X.N0):=λ⟨a,b⟩=>by rw[h.nN k a b] at ot;cases ot
 have U7:∀i,i<X.n->G.st i=.quit->X.N0+i≠k:=by
  intro i hi hq e;obtain⟨y,_,hs⟩:=h.wk i (h.afc hi (by rw[hq];simp))
  unfold WSit at hs;rw[hq] at hs;rw[<-e,hs.1] at ot;cases ot
 have ops:∀op∈Afp k fn pos es,∃e∈es,op={g:=k,fn,pos,act:=.ofEvent e}:=λop ab=>Go.Conc.mem_ofEvents ab
 have Qc:∀ {i a},Aex (t++Afp k fn pos es) i=some a->(i<t.size/\Aex t i=some a/\(t++Afp k fn pos es).g? i= t.g? i)\/((t++Afp k fn pos es).g? i=some k/\∃b,rh a.loc b/\(j.M.grow w w').has b/\Knows (t++Afp k fn pos es) k i):=by
  intro i a ha;obtain⟨op,ab,cB⟩:=Aey ha;rcases Aez ab with⟨hi,bG⟩ | ⟨_,dN⟩
  ·exact .inl ⟨hi,by rw[Ae0 bG];exact cB,by simp[Afw,ab,bG]⟩
  ·obtain⟨e,he,rfl⟩:=ops op dN
   obtain⟨b,b1,b2,_,_⟩:=P9 (hd.ev e he) cB;exact .inr ⟨by simp[Afw,ab],b,b1,b2,knows_own ab⟩
 have gN:∀b,(j.M.grow w w').has b->b≠X.cN:=by
  intro b hb;rcases hb with(hb|hb) |hb
  ·exact(h.wt.low k j ot b (.inl hb)).2.2
  ·have:=h.wt.hN;omega
  ·exact(h.wt.low k j ot b (.inr hb)).2.2
 refine⟨aI.trans h.size,h.n0,h.jn,h.jc,h.mc,h.uh,?_,λi hi=>?_,λhc=>?_,λg y h1 h2 hy=>?_,λg h1 h2=>?_,λg hg=>?_,h.cnt,h.az,h.mL,h.vN,h.yJ,h.wt.own ot hd fn pos,Hf,xJ,h.neq,
  ⟨Ad5 h.base.size hd.size,hd.tape.trans h.base.tape,hd.os.trans h.base.os,hd.out.trans h.base.out⟩,λi a ha hm g hg jW=>?_,λi g hg=>?_,λi hi hq=>?_,λhc i a ha=>?_,λhc=>?_⟩
 ·by_cases e:k=0
  ·subst e
   rcases qF with⟨_,hs⟩ | ⟨i,_,e,_⟩ | ⟨e,_⟩
   ·exact⟨g',xt,hs⟩
   ·have:=h.n0;omega
   ·have:=h.n0;omega
  ·obtain⟨y,hy,hs⟩:=h.main
   refine⟨y,by rw[Bu (Agr e)];exact hy,?_⟩
   simp only[fM,bP _ _ (Agr e),upd_ne _ _ (Agr e)];exact hs
 ·by_cases e:k=X.N0+i
  ·subst e
   rcases qF with⟨e,_⟩ | ⟨i',_,e,hs⟩ | ⟨e,hc,_⟩
   ·have:=h.n0;omega
   ·obtain rfl:i'=i:=by omega
    exact⟨g',xt,hs⟩
   ·have:=h.jn
    have vm:i<G.j:=hi;omega
  ·obtain⟨y,hy,hs⟩:=h.wk i hi
   refine⟨y,by rw[Bu (Agr e)];exact hy,?_⟩
   simp only[WSit,bP _ _ (Agr e),upd_ne _ _ (Agr e)];exact hs
 ·by_cases e:k=X.N0+X.n
  ·subst e
   rcases qF with⟨e,_⟩ | ⟨i',bu,e,hs⟩ | ⟨_,_,hs⟩
   ·have:=h.n0;omega
   ·have:=h.jn;simp only at bu;omega
   ·exact⟨g',xt,hs⟩
  ·obtain⟨y,hy,hs⟩:=h.cl hc
   refine⟨y,by rw[Bu (Agr e)];exact hy,?_⟩
   simp only[CSit,bP _ _ (Agr e),upd_ne _ _ (Agr e)];exact hs
 ·have e:g≠k:=λe=>Nv ⟨by omega,by omega⟩
  rw[Bu e] at hy;exact h.old g y h1 h2 hy
 ·have e:g≠k:=λe=>Nv ⟨by omega,by omega⟩
  simp only[bP _ _ e];exact h.nN g h1 h2
 ·rw[aI] at hg
  simp only[bP _ _ (show g≠k by omega)]
  exact h.mw g hg
 ·rcases Qc ha with⟨_,h1,h2⟩ | ⟨h1,_,_,_,h2⟩
  ·rw[h2] at hg
   exact(h.vP i a h1 hm g hg jW).app _
  ·rw[h1] at hg
   obtain rfl:=Aea hg;obtain rfl:k=0:=by
    apply Aa1;intro h0;exact Nv ⟨by omega,jW⟩
   exact h2
 ·rw[aI]
  unfold Afw at hg;obtain⟨op,ab,e⟩:=Ags.1 hg;rcases Aez ab with⟨_,bG⟩ | ⟨_,dN⟩
  ·exact h.tj i g (by simp[Afw,bG,e])
  ·obtain⟨_,_,rfl⟩:=ops op dN
   simp only at e;omega
 ·refine(h.kq i hi hq).app λop ab e=>?_
  obtain⟨_,_,rfl⟩:=ops op ab;exact absurd e.symm (U7 i hi hq)
 ·rcases Qc ha with⟨_,h1,_⟩ | ⟨_,b,h1,h2,_⟩
  ·exact h.yI hc i a h1
  ·intro e
   have:rh a.loc X.cN:=.inl e;obtain rfl:=OP h1 this;exact gN _ h2 rfl
 ·obtain⟨c,z,c1,c2,c3,c4⟩:=h.CN hc
  refine⟨c,z,by rw[Ae7 (Ae8 c1)];exact c1,c2,c3,λi a ha g hg jU=>?_⟩
  rcases Qc ha with⟨_,h1,h2⟩ | ⟨h1,_⟩
  ·rw[h2] at hg
   exact(c4 i a h1 g hg jU).app _
  ·exfalso
   rw[h1] at hg;obtain rfl:=Aea hg;rcases h.sI al with e|e| ⟨i',bu,e⟩ | ⟨e,hn⟩
   ·have:=h.n0;omega
   ·omega
   ·exact U7 i' (by have:=h.jn;omega) (h.Gk hc i' (by have:=h.jn;omega)) e.symm
   ·obtain⟨y,_,hs⟩:=h.cl hn
    unfold CSit at hs;unfold Gh.closed at hc;cases ec:G.cp with
    |quit=>rw[ec] at hs;rw[e,hs.1] at ot;cases ot
    |_=>rw[ec] at hc;cases hc
def FI.ajL(h:FI X wb gs w t G){k m:Nat}{x g':Abo}(hk:gs[k]?=some x)(qF:(0<k/\k<X.N0)\/(∃i,i<G.j/\k=X.N0+i/\G.st i=.quit)\/(k=X.N0+X.n/\G.closed=true))(hq:Aeu X.P m g'):
 FI X wb ((gs.map (Ae6 X.P x g' w)).setIfInBounds k g') w t {G with q:=upd G.q k m}:=by
 have al:k<gs.size:=(Aaf.1 hk).1
 have M5:G.closed=false->∃s,w.heap[X.cN]?=some (.chan 0 #[] false s s false):=λe=>by have:=h.kV;rw[e] at this;exact this
 have Bu:∀ {i},i≠k->((gs.map (Ae6 X.P x g' w)).setIfInBounds k g')[i]?=gs[i]?:=λaw=>TB h h.kU M5 aw
 have xt:((gs.map (Ae6 X.P x g' w)).setIfInBounds k g')[k]?=some g':=Mn al g';have aI:((gs.map (Ae6 X.P x g' w)).setIfInBounds k g').size=gs.size:=by simp
 have jX:=h.n0;have rG:=h.jn;have iM:k≠0:=by rcases qF with e| ⟨i,_,e,_⟩ | ⟨e,_⟩<;>omega
 refine⟨aI.trans h.size,h.n0,h.jn,h.jc,h.mc,h.uh,?_,λi hi=>?_,λhc=>?_,λg y h1 h2 hy=>?_,h.nN,λg hg=>h.mw g (by rw[aI] at hg;exact hg),h.cnt,h.az,h.mL,h.vN,h.yJ,h.wt,h.kU,h.kV,h.neq,h.base,h.vP,λi g hg=>by rw[aI];exact h.tj i g hg,h.kq,h.yI,h.CN⟩
 ·obtain⟨y,hy,hs⟩:=h.main
  exact⟨y,by rw[Bu (Agr iM)];exact hy,hs⟩
 ·by_cases e:k=X.N0+i
  ·subst e
   rcases qF with e| ⟨i',_,e,aQ⟩ | ⟨e,_⟩
   ·omega
   ·obtain rfl:i'=i:=by omega
    refine⟨g',xt,?_⟩
    obtain⟨y,_,hs⟩:=h.wk i' hi;unfold WSit at hs |-
    simp only;rw[aQ] at hs |-
    exact⟨hs.1,by simp only[upd_same];exact hq⟩
   ·have vm:i<G.j:=hi
    omega
  ·obtain⟨y,hy,hs⟩:=h.wk i hi
   refine⟨y,by rw[Bu (Agr e)];exact hy,?_⟩
   simp only[WSit,upd_ne _ _ (Agr e)];exact hs
 ·by_cases e:k=X.N0+X.n
  ·subst e
   rcases qF with e| ⟨i',bu,e,_⟩ | ⟨_,fY⟩
   ·omega
   ·have vm:i'<G.j:=bu
    omega
   ·refine⟨g',xt,?_⟩
    obtain⟨y,_,hs⟩:=h.cl hc;unfold Gh.closed at fY;cases ec:G.cp with
    |quit=>
     unfold CSit at hs |-
     simp only;rw[ec] at hs;exact⟨hs.1,by simp only[upd_same];exact hq⟩
    |_=>rw[ec] at fY;cases fY
  ·obtain⟨y,hy,hs⟩:=h.cl hc
   refine⟨y,by rw[Bu (Agr e)];exact hy,?_⟩
   simp only[CSit,upd_ne _ _ (Agr e)];exact hs
 ·by_cases e:g=k
  ·subst e
   rw[xt] at hy;obtain rfl:=Aea hy;simp only[upd_same];exact hq
  ·rw[Bu e] at hy
   simp only[upd_ne _ _ e];exact h.old g y h1 h2 hy
end
end Go.Sim
namespace Go.Sim
open Go Go.Conc
open Go.ConcN (sumTo upd sumTo_upd upd_ne upd_same sumTo_congr)
def Ba:∀(n:Nat) (l:List Nat),l.Nodup->(∀x∈l,x<n)->l.length<=n
 |0,l,_,h=>by
  cases l with
  |nil=>exact Ad4 _
  |cons a l=>exact absurd (h a (by simp)) (by omega)
 |n+1,l,hn,h=>by
  by_cases hm:n∈l
  ·have h1:=Ba n (l.erase n) (hn.erase n) λx hx=>by
    have h2:=(List.Nodup.mem_erase_iff hn).1 hx;have:=h x h2.2;have:=h2.1;omega
   rw[List.length_erase_of_mem hm] at h1;omega
  ·have:=Ba n l hn λx hx=>by
    have h2:=h x hx;have:x≠n:=λe=>hm (e▸hx)
    omega
   omega
def oI{a b:Abo}{c c':Array CommCase}{s s':CommShape}(h:Ae5 a c s=Ae5 b c' s'):c=c'/\s=s'/\∀v,Ae2 a v=Ae2 b v:=by
 obtain⟨f1,k1,s1,d1,o1⟩:=a;obtain⟨f2,k2,s2,d2,o2⟩:=b;simp only[Ae5,Goroutine.mk.injEq,Aeb,Prod.mk.injEq] at h;obtain⟨h1,h2,_,h4,h5,h6⟩:=h;subst h1 h2 h4;exact⟨h5,h6,λv=>rfl⟩
def ll{a b:Abo}{c:Array CommCase}{s:CommShape}(h:Ae5 a c s=b)(hb:b.status=.running):False:=by
 rw[<-h] at hb;cases hb
def I8{c c':Nat}{v v' z z':Value}(h:#[Ae1 c v z]=#[Ae1 c' v' z']):c=c'/\v=v':=by
 simp[Ae1] at h;exact⟨h.1,h.2.1⟩
def ajN{c c':Nat}{z z':Value}(h:#[Ae3 c z]=#[Ae3 c' z']):c=c':=by
 simp[Ae3] at h;exact h.1
def vM{c c':Nat}{v z z':Value}(h:#[Ae1 c v z]=#[Ae3 c' z']):False:=by simp[Ae1,Ae3] at h
section
variable {X:Pm}{wb:Abc}{gs:Array Abo}{w:Abc}{t:Aeo}{G:Gh}
def FI.Lt(h:FI X wb gs w t G){k:Nat}{g:Abo}{v z:Value}{sh:CommShape}(hk:gs[k]?=some (Ae5 g #[Ae1 X.cN v z] sh)):
 ∃i M aL y,i<G.j/\k=X.N0+i/\G.st i=.iR/\v=X.val i/\sh=.send/\X.eU i=true/\G.act k=some ⟨M,y,aL⟩/\(∀v,Ae2 g v=Ae2 y v)/\Walk X.P false (W2 X) M (Ae2 y Aeq) aL:=by
 have aw:=h.neq;rcases h.sI (Aaf.1 hk).1 with rfl| ⟨h1,h2⟩ | ⟨i,hi,rfl⟩ | ⟨rfl,hc⟩
 ·obtain⟨x,hx,hs⟩:=h.main
  rw[hk] at hx;have hx:=(Aea hx);unfold fM at hs;cases e:G.mp with
  |spawn=>rw[e] at hs;obtain⟨M,aL,_,hr,_⟩:=hs;exact(ll hx hr).elim
  |walk f az=>rw[e] at hs;obtain⟨M,aL,y',_,hr,_⟩:=hs;exact(ll hx hr.2.2.2).elim
  |db f az=>
   rw[e] at hs;obtain⟨M,aL,y',z',_,hr,_⟩:=hs;rw[hr] at hx;exact(vM (oI hx).1).elim
 ·have:=h.old k _ h1 h2 hk
  exact(this.status.elim (λe=>by cases e) λe=>by cases e)
 ·obtain⟨x,hx,hs⟩:=h.wk i hi
  rw[hk] at hx;have hx:=(Aea hx);unfold WSit at hs;cases e:G.st i with
  |no=>rw[e] at hs;exact hs.elim
  |ku=>rw[e] at hs;obtain⟨M,aL,_,hr,_⟩:=hs;exact(ll hx hr).elim
  |iz=>rw[e] at hs;obtain⟨M,aL,_,hr,_⟩:=hs;exact(ll hx hr).elim
  |iR=>
   rw[e] at hs;obtain⟨M,aL,y',z',ha,hr,hn,hw⟩:=hs;rw[hr] at hx;obtain⟨e1,e2,e3⟩:=oI hx;exact⟨i,M,aL,y',hi,rfl,e,(I8 e1).2,e2,hn,ha,e3,hw⟩
  |iu=>
   rw[e] at hs;obtain⟨M,aL,y',z',ha,hr,hw⟩:=hs;rw[hr] at hx;exact absurd (I8 (oI hx).1).1 (Agr aw)
  |quit=>
   rw[e] at hs;rw[<-hx] at hs;exact(hs.2.status.elim (λe=>by cases e) λe=>by cases e)
 ·obtain⟨x,hx,hs⟩:=h.cl hc
  rw[hk] at hx;have hx:=(Aea hx);unfold CSit at hs;cases e:G.cp with
  |no=>rw[e] at hs;exact hs.elim
  |walk r=>rw[e] at hs;obtain⟨M,aL,_,hr,_⟩:=hs;exact(ll hx hr).elim
  |db r=>
   rw[e] at hs;obtain⟨r',M,aL,y',z',_,_,hr,_⟩:=hs;rw[hr] at hx;exact(vM (oI hx).1).elim
  |quit=>
   rw[e] at hs;rw[<-hx] at hs;exact(hs.2.status.elim (λe=>by cases e) λe=>by cases e)
def FI.RD(h:FI X wb gs w t G){k:Nat}{g:Abo}{v z:Value}{sh:CommShape}(hk:gs[k]?=some (Ae5 g #[Ae1 X.cL v z] sh)):
 ∃i M aL y,i<G.j/\k=X.N0+i/\G.st i=.iu/\v=.bool true/\sh=.send/\G.act k=some ⟨M,y,aL⟩/\(∀v,Ae2 g v=Ae2 y v)/\∃m,Aeu X.P m (Ae2 y Aeq):=by
 have aw:=h.neq;rcases h.sI (Aaf.1 hk).1 with rfl| ⟨h1,h2⟩ | ⟨i,hi,rfl⟩ | ⟨rfl,hc⟩
 ·obtain⟨x,hx,hs⟩:=h.main
  rw[hk] at hx;have hx:=(Aea hx);unfold fM at hs;cases e:G.mp with
  |spawn=>rw[e] at hs;obtain⟨M,aL,_,hr,_⟩:=hs;exact(ll hx hr).elim
  |walk f az=>rw[e] at hs;obtain⟨M,aL,y',_,hr,_⟩:=hs;exact(ll hx hr.2.2.2).elim
  |db f az=>
   rw[e] at hs;obtain⟨M,aL,y',z',_,hr,_⟩:=hs;rw[hr] at hx;exact(vM (oI hx).1).elim
 ·have:=h.old k _ h1 h2 hk
  exact(this.status.elim (λe=>by cases e) λe=>by cases e)
 ·obtain⟨x,hx,hs⟩:=h.wk i hi
  rw[hk] at hx;have hx:=(Aea hx);unfold WSit at hs;cases e:G.st i with
  |no=>rw[e] at hs;exact hs.elim
  |ku=>rw[e] at hs;obtain⟨M,aL,_,hr,_⟩:=hs;exact(ll hx hr).elim
  |iz=>rw[e] at hs;obtain⟨M,aL,_,hr,_⟩:=hs;exact(ll hx hr).elim
  |iR=>
   rw[e] at hs;obtain⟨M,aL,y',z',ha,hr,hn,hw⟩:=hs;rw[hr] at hx;exact absurd (I8 (oI hx).1).1 aw
  |iu=>
   rw[e] at hs;obtain⟨M,aL,y',z',ha,hr,hw⟩:=hs;rw[hr] at hx;obtain⟨e1,e2,e3⟩:=oI hx;exact⟨i,M,aL,y',hi,rfl,e,(I8 e1).2,e2,ha,e3,hw⟩
  |quit=>
   rw[e] at hs;rw[<-hx] at hs;exact(hs.2.status.elim (λe=>by cases e) λe=>by cases e)
 ·obtain⟨x,hx,hs⟩:=h.cl hc
  rw[hk] at hx;have hx:=(Aea hx);unfold CSit at hs;cases e:G.cp with
  |no=>rw[e] at hs;exact hs.elim
  |walk r=>rw[e] at hs;obtain⟨M,aL,_,hr,_⟩:=hs;exact(ll hx hr).elim
  |db r=>
   rw[e] at hs;obtain⟨r',M,aL,y',z',_,_,hr,_⟩:=hs;rw[hr] at hx;exact(vM (oI hx).1).elim
  |quit=>
   rw[e] at hs;rw[<-hx] at hs;exact(hs.2.status.elim (λe=>by cases e) λe=>by cases e)
def Wm(h:FI X wb gs w t G){k:Nat}{y:Abo}(hy:gs[k]?=some y)(aw:Ae9 y X.cN false≠ []):k=0/\∃f az,G.mp=.db f az:=by
 have qy:=h.neq;rcases h.sI (Aaf.1 hy).1 with rfl| ⟨h1,h2⟩ | ⟨i,hi,rfl⟩ | ⟨rfl,hc⟩
 ·refine⟨rfl,?_⟩
  obtain⟨x,hx,hs⟩:=h.main;rw[hy] at hx;obtain rfl:=Aea hx;unfold fM at hs;cases e:G.mp with
  |spawn=>rw[e] at hs;obtain⟨M,aL,_,hr,_⟩:=hs;exact absurd (Afa (by rw[hr];simp) _ _) aw
  |walk f az=>rw[e] at hs;obtain⟨M,aL,y',_,hr,_⟩:=hs;exact absurd (Afa (by rw[hr.2.2.2];simp) _ _) aw
  |db f az=>exact⟨f,az,rfl⟩
 ·have:=h.old k _ h1 h2 hy
  exact absurd (Afa (by rcases this.status with e|e<;>rw[e]<;>simp) _ _) aw
 ·exfalso
  rcases h.kinds hy with e| ⟨n,e⟩ | ⟨g,z,_,e⟩ | ⟨g,z,e⟩ | ⟨g,v,z,_,_,e⟩ | ⟨g,v,z,_,e⟩
  ·exact aw (Afa (by rw[e];simp) _ _)
  ·exact aw (Afa (by rcases e.status with e|e<;>rw[e]<;>simp) _ _)
  ·
   obtain⟨x,hx,hs⟩:=h.wk i hi;rw[hy] at hx;obtain rfl:=Aea hx;unfold WSit at hs;cases es:G.st i with
   |no=>rw[es] at hs;exact hs.elim
   |ku=>rw[es] at hs;obtain⟨M,aL,_,hr,_⟩:=hs;exact ll e.symm hr
   |iz=>rw[es] at hs;obtain⟨M,aL,_,hr,_⟩:=hs;exact ll e.symm hr
   |iR=>rw[es] at hs;obtain⟨M,aL,y',z',_,hr,_⟩:=hs;rw[hr] at e;exact vM (oI e).1
   |iu=>rw[es] at hs;obtain⟨M,aL,y',z',_,hr,_⟩:=hs;rw[hr] at e;exact vM (oI e).1
   |quit=>rw[es] at hs;rw[e] at hs;exact(hs.2.status.elim (λe=>by cases e) λe=>by cases e)
  ·rw[e,Afb,if_neg qy] at aw;exact aw rfl
  ·rw[e,Afc] at aw;exact aw rfl
  ·rw[e,Afc] at aw;exact aw rfl
 ·exfalso
  obtain⟨x,hx,hs⟩:=h.cl hc;rw[hy] at hx;obtain rfl:=Aea hx;unfold CSit at hs;cases e:G.cp with
  |no=>rw[e] at hs;exact hs.elim
  |walk r=>rw[e] at hs;obtain⟨M,aL,_,hr,_⟩:=hs;exact aw (Afa (by rw[hr];simp) _ _)
  |db r=>
   rw[e] at hs;obtain⟨r',M,aL,y',z',_,_,hr,_⟩:=hs;rw[hr,Afb,if_neg qy] at aw;exact aw rfl
  |quit=>rw[e] at hs;exact aw (Afa (by rcases hs.2.status with e|e<;>rw[e]<;>simp) _ _)
def Wl(h:FI X wb gs w t G){k:Nat}{y:Abo}(hy:gs[k]?=some y)(aw:Ae9 y X.cL false≠ []):k=X.N0+X.n/\∃r,G.cp=.db r:=by
 have qy:=h.neq;rcases h.kinds hy with e| ⟨n,e⟩ | ⟨g,z,_,e⟩ | ⟨g,z,e⟩ | ⟨g,v,z,_,_,e⟩ | ⟨g,v,z,_,e⟩
 ·exact absurd (Afa (by rw[e];simp) _ _) aw
 ·exact absurd (Afa (by rcases e.status with e|e<;>rw[e]<;>simp) _ _) aw
 ·rw[e,Afb,if_neg (Agr qy)] at aw;exact absurd rfl aw
 ·rcases h.sI (Aaf.1 hy).1 with rfl| ⟨h1,h2⟩ | ⟨i,hi,rfl⟩ | ⟨rfl,hc⟩
  ·exfalso
   obtain⟨x,hx,hs⟩:=h.main;rw[hy] at hx;obtain rfl:=Aea hx;unfold fM at hs;cases em:G.mp with
   |spawn=>rw[em] at hs;obtain⟨M,aL,_,hr,_⟩:=hs;exact ll e.symm hr
   |walk f az=>rw[em] at hs;obtain⟨M,aL,y',_,hr,_⟩:=hs;exact ll e.symm hr.2.2.2
   |db f az=>
    rw[em] at hs;obtain⟨M,aL,y',z',_,hr,_⟩:=hs;rw[hr] at e;exact qy (ajN (oI e).1).symm
  ·exfalso
   have:=h.old k _ h1 h2 hy;rw[e] at this;exact(this.status.elim (λe=>by cases e) λe=>by cases e)
  ·exfalso
   obtain⟨x,hx,hs⟩:=h.wk i hi;rw[hy] at hx;obtain rfl:=Aea hx;unfold WSit at hs;cases es:G.st i with
   |no=>rw[es] at hs;exact hs.elim
   |ku=>rw[es] at hs;obtain⟨M,aL,_,hr,_⟩:=hs;exact ll e.symm hr
   |iz=>rw[es] at hs;obtain⟨M,aL,_,hr,_⟩:=hs;exact ll e.symm hr
   |iR=>rw[es] at hs;obtain⟨M,aL,y',z',_,hr,_⟩:=hs;rw[hr] at e;exact vM (oI e).1
   |iu=>rw[es] at hs;obtain⟨M,aL,y',z',_,hr,_⟩:=hs;rw[hr] at e;exact vM (oI e).1
   |quit=>rw[es] at hs;rw[e] at hs;exact(hs.2.status.elim (λe=>by cases e) λe=>by cases e)
  ·refine⟨rfl,?_⟩
   obtain⟨x,hx,hs⟩:=h.cl hc;rw[hy] at hx;obtain rfl:=Aea hx;unfold CSit at hs;cases ec:G.cp with
   |no=>rw[ec] at hs;exact hs.elim
   |walk r=>rw[ec] at hs;obtain⟨M,aL,_,hr,_⟩:=hs;exact(ll e.symm hr).elim
   |db r=>exact⟨r,rfl⟩
   |quit=>rw[ec] at hs;rw[e] at hs;exact(hs.2.status.elim (λe=>by cases e) λe=>by cases e)
 ·rw[e,Afc] at aw;exact absurd rfl aw
 ·rw[e,Afc] at aw;exact absurd rfl aw
def O6(h:FI X wb gs w t G){k m:Nat}{y:Abo}(hy:gs[k]?=some y)(aw:m∈Ae9 y X.cN true):m=0/\∃g v z,y=Ae5 g #[Ae1 X.cN v z] .send:=by
 have qy:=h.neq;rcases h.kinds hy with e| ⟨n,e⟩ | ⟨g,z,_,e⟩ | ⟨g,z,e⟩ | ⟨g,v,z,_,_,e⟩ | ⟨g,v,z,_,e⟩
 ·rw[Afa (by rw[e];simp)] at aw;cases aw
 ·rw[Afa (by rcases e.status with e|e<;>rw[e]<;>simp)] at aw;cases aw
 ·rw[e,Afd] at aw;cases aw
 ·rw[e,Afd] at aw;cases aw
 ·rw[e,Afe,if_pos rfl] at aw
  exact⟨by simpa using aw,g,v,z,e⟩
 ·rw[e,Afe,if_neg qy] at aw;cases aw
def Wn(h:FI X wb gs w t G){k m:Nat}{y:Abo}(hy:gs[k]?=some y)(aw:m∈Ae9 y X.cL true):m=0/\∃g v z,y=Ae5 g #[Ae1 X.cL v z] .send:=by
 have qy:=h.neq;rcases h.kinds hy with e| ⟨n,e⟩ | ⟨g,z,_,e⟩ | ⟨g,z,e⟩ | ⟨g,v,z,_,_,e⟩ | ⟨g,v,z,_,e⟩
 ·rw[Afa (by rw[e];simp)] at aw;cases aw
 ·rw[Afa (by rcases e.status with e|e<;>rw[e]<;>simp)] at aw;cases aw
 ·rw[e,Afd] at aw;cases aw
 ·rw[e,Afd] at aw;cases aw
 ·rw[e,Afe,if_neg (Agr qy)] at aw;cases aw
 ·rw[e,Afe,if_pos rfl] at aw
  exact⟨by simpa using aw,g,v,z,e⟩
def FI.zb(h:FI X wb gs w t G){aT:Array Abo}{w':Abc}{u:Aeo}{G':Gh}(aI:aT.size=gs.size)(hj:G'.j=G.j)(bj:G'.cp.gC=G.cp.gC)
 (rO:(∃f az,G'.mp=.walk f az\/G'.mp=.db f az)↔∃f az,G.mp=.walk f az\/G.mp=.db f az)(aQ:∀i,i<X.n->(G'.st i=.no↔G.st i=.no))
 (ND:∃x,aT[0]?=some x/\fM X G' x)(vE:∀i,i<G.j->∃x,aT[X.N0+i]?=some x/\WSit X G' i x)(fY:G.cp.gC=false->∃x,aT[X.N0+X.n]?=some x/\CSit X G' x)
 (hold:∀g,0<g->g<X.N0->aT[g]?=gs[g]?/\G'.q g=G.q g/\G'.act g=none)(Dv:∀g,gs.size<=g->G'.act g=none)(de:mY X G')(cA:nf X G')
 (xY:(∃f az,G'.mp=.db f az)->∀i,i<X.n->G'.st i≠ .iR)(afe:(∃r,G'.cp=.db r)->∀i,i<X.n->G'.st i≠ .iu)(aff:(∃f az,G'.mp=.db f az)->G'.closed=false)
 (tO:WT X.cL X.cN w' (t++u) G'.act)(Hf:∃s,w'.heap[X.cL]?=some (.chan 0 #[] false s s false))(xJ:∃s,w'.heap[X.cN]?=some (.chan 0 #[] G'.closed s s false))(hb:Base wb w')
 (hu:∀op∈u,op.act.touch? =none/\op.g<gs.size)(hkq:∀i,i<X.n->G'.st i=.quit->sU (t++u) (X.N0+i) (X.N0+X.n))(T8:G'.closed=G.closed):FI X wb aT w' (t++u) G':=by
 have old:∀ {k a},Aex (t++u) k=some a->Aex t k=some a/\(t++u).g? k= t.g? k:=by
  intro k a ha;obtain⟨op,ab,cB⟩:=Aey ha;rcases Aez ab with⟨_,bG⟩ | ⟨_,dN⟩
  ·exact⟨by rw[Ae0 bG];exact cB,by simp[Afw,ab,bG]⟩
  ·rw[(hu op dN).1] at cB;cases cB
 refine⟨by rw[aI,hj,bj];exact h.size,h.n0,by rw[hj];exact h.jn,by rw[bj,hj];exact h.jc,by rw[rO,bj];exact h.mc,λi hi=>by rw[aQ i hi,hj];exact h.uh i hi,ND,by rw[hj];exact vE,by rw[bj];exact fY,
  λg x h1 h2 hx=>?_,λg h1 h2=>(hold g h1 h2).2.2,λg hg=>Dv g (by rw[aI] at hg;exact hg),de,cA,xY,afe,aff,tO,Hf,xJ,h.neq,hb,λk a ha hm g hg al=>?_,λk g hg=>?_,hkq,λhc k a ha=>?_,λhc=>?_⟩
 ·obtain⟨e1,e2,_⟩:=hold g h1 h2
  rw[e2];rw[e1] at hx;exact h.old g x h1 h2 hx
 ·obtain⟨a1,a2⟩:=old ha
  rw[a2] at hg;exact(h.vP k a a1 hm g hg al).app u
 ·rw[aI]
  unfold Afw at hg;obtain⟨op,ab,e⟩:=Ags.1 hg;rcases Aez ab with⟨_,bG⟩ | ⟨_,dN⟩
  ·exact h.tj k g (by simp[Afw,bG,e])
  ·rw[<-e];exact(hu op dN).2
 ·rw[T8] at hc
  exact h.yI hc k a (old ha).1
 ·rw[T8] at hc
  obtain⟨c,z,c1,c2,c3,c4⟩:=h.CN hc;refine⟨c,z,by rw[Ae7 (Ae8 c1)];exact c1,c2,c3,λk a ha g hg jU=>?_⟩
  obtain⟨a1,a2⟩:=old ha;rw[a2] at hg;exact(c4 k a a1 g hg jU).app u
end
end Go.Sim
namespace Go.Sim
open Go Go.Conc
open Go.ConcN (sumTo upd sumTo_upd upd_ne upd_same sumTo_congr)
section
variable {X:Pm}{wb:Abc}{gs:Array Abo}{w:Abc}{t:Aeo}{G:Gh}
def fM.congr{G':Gh}(h1:G'.mp=G.mp)(hj:G'.j=G.j)(h2:G'.act 0=G.act 0)(h3:G'.tr 0=G.tr 0){x:Abo}(h:fM X G x):fM X G' x:=by
 unfold fM at *;rw[h1,hj,h2,h3];exact h
def WSit.congr{G':Gh}{i:Nat}(h1:G'.st i=G.st i)(h2:G'.act (X.N0+i)=G.act (X.N0+i))(h3:G'.tr (X.N0+i)=G.tr (X.N0+i))(h4:G'.q (X.N0+i)=G.q (X.N0+i)){x:Abo}(h:WSit X G i x):WSit X G' i x:=by
 unfold WSit at *;rw[h1,h2,h3,h4];exact h
def CSit.congr{G':Gh}(h1:G'.cp=G.cp)(h2:G'.act (X.N0+X.n)=G.act (X.N0+X.n))(h3:G'.tr (X.N0+X.n)=G.tr (X.N0+X.n))(h4:G'.q (X.N0+X.n)=G.q (X.N0+X.n)){x:Abo}(h:CSit X G x):CSit X G' x:=by
 unfold CSit at *;rw[h1,h2,h3,h4];exact h
def one_set{b i:Nat}{y:Abo}:(gs.setIfInBounds b y)[i]?=if i=b/\b<gs.size then some y else gs[i]?:=by
 by_cases hb:i=b
 ·subst hb
  by_cases al:i<gs.size
  ·simp[al]
  ·rw[if_neg (λe=>al e.2),Aan (by simpa using al),Aan (by omega)]
 ·rw[Aeh (Agr hb),if_neg (λe=>hb e.1)]
def me{a b i:Nat}{x y:Abo}:((gs.setIfInBounds a x).setIfInBounds b y)[i]?=if i=b/\b<gs.size then some y else if i=a/\a<gs.size then some x else gs[i]?:=by
 rw[one_set,one_set,Aej]
def Mj{a b c s r cap B N:Nat}{x1 x2 x3 x4:Aep}(h1:x1.g=a/\x1.act=.send c s)(h2:x2.g=b/\x2.act=.recv c r cap)(h3:x3.g=a/\x3.act=.sendDone c s)(h4:x4.g=b/\x4.act=.recvDone c r)(hc:c<B)(ha:a<N)(hb:b<N):
 (∀op∈#[x1,x2,x3,x4],op.act.touch? =none/\op.act.low B/\op.act≠ .mark .disable/\op.act≠ .mark .enable)/\∀op∈#[x1,x2,x3,x4],op.act.touch? =none/\op.g<N:=by
 refine⟨λop ab=>?_,λop ab=>?_⟩<;>simp only[Af0,Af2,Af3,or_false] at ab<;>rcases ab with rfl|rfl|rfl|rfl
 ·rw[h1.2];exact⟨rfl,hc,by simp,by simp⟩
 ·rw[h2.2];exact⟨rfl,hc,by simp,by simp⟩
 ·rw[h3.2];exact⟨rfl,hc,by simp,by simp⟩
 ·rw[h4.2];exact⟨rfl,hc,by simp,by simp⟩
 ·rw[h1.2,h1.1];exact⟨rfl,ha⟩
 ·rw[h2.2,h2.1];exact⟨rfl,hb⟩
 ·rw[h3.2,h3.1];exact⟨rfl,ha⟩
 ·rw[h4.2,h4.1];exact⟨rfl,hb⟩
def PL(w:Abc)(c cap:Nat)(buf:Array Value)(closed:Bool)(s r:Nat)(tm:Bool):(w.setChan c cap buf closed s r tm).heap.size=w.heap.size/\(∀b,b≠c->(w.setChan c cap buf closed s r tm).heap[b]?=w.heap[b]?)/\(c<w.heap.size->(w.setChan c cap buf closed s r tm).heap[c]?=some (.chan cap buf closed s r tm)):=by
 refine⟨by simp[World.setChan],λb hb=>?_,λhc=>by simp[World.setChan,hc]⟩
 simp only[World.setChan];rw[Aeh (Agr hb)]
def AZ(st:Nat->WS){i n:Nat}(hi:i<n)(s:WS):sumTo n (λa=>(upd st i s a).w)+(st i).w=sumTo n (λa=>(st a).w)+s.w:=sumTo_upd st s WS.w hi
def Bv(st:Nat->WS){i n:Nat}(hi:i<n)(s:WS):sumTo n (λa=>(upd st i s a).q)+(st i).q=sumTo n (λa=>(st a).q)+s.q:=sumTo_upd st s WS.q hi
def FI.sX(h:FI X wb gs w t G)(i:Nat):(X.N0+i==0)=false:=by have:=h.n0;simp;omega
def ajB(h:FI X wb gs w t G){k:Nat}(hk:k≠0){y:Abo}{z:Value}(h0:gs[0]?=some (Ae5 y #[Ae3 X.cN z] (.recv true))):Aer (gs.setIfInBounds k ph) X.cN false=[(0,0)]:=by
 rw[partners_one (j:=0) (g:=Ae5 y #[Ae3 X.cN z] (.recv true)) (stand_get (Agr hk) h0) λj x hj hx=>?_]
 ·rw[Afb,if_pos rfl];rfl
 ·rcases Aff gs k j x hx with⟨_,rfl⟩ | ⟨_,hx⟩
  ·exact Afg _ _
  ·apply Aa1
   intro aw;exact hj (Wm h hx aw).1
def ajA(h:FI X wb gs w t G){k:Nat}(hp:¬ ∃f az,G.mp=.db f az):Aer (gs.setIfInBounds k ph) X.cN false=[]:=by
 refine Afh λj x hx=>?_
 rcases Aff gs k j x hx with⟨_,rfl⟩ | ⟨_,hx⟩
 ·exact Afg _ _
 ·apply Aa1
  intro aw;exact hp (Wm h hx aw).2
def ajz(h:FI X wb gs w t G){k:Nat}(hk:k≠X.N0+X.n){y:Abo}{z:Value}(h0:gs[X.N0+X.n]?=some (Ae5 y #[Ae3 X.cL z] (.recv false))):Aer (gs.setIfInBounds k ph) X.cL false=[(X.N0+X.n,0)]:=by
 rw[partners_one (j:=X.N0+X.n) (g:=Ae5 y #[Ae3 X.cL z] (.recv false)) (stand_get (Agr hk) h0) λj x hj hx=>?_]
 ·rw[Afb,if_pos rfl];rfl
 ·rcases Aff gs k j x hx with⟨_,rfl⟩ | ⟨_,hx⟩
  ·exact Afg _ _
  ·apply Aa1
   intro aw;exact hj (Wl h hx aw).1
def ajy(h:FI X wb gs w t G){k:Nat}(hp:¬ ∃r,G.cp=.db r):Aer (gs.setIfInBounds k ph) X.cL false=[]:=by
 refine Afh λj x hx=>?_
 rcases Aff gs k j x hx with⟨_,rfl⟩ | ⟨_,hx⟩
 ·exact Afg _ _
 ·apply Aa1
  intro aw;exact hp (Wl h hx aw).2
def od(X:Pm)(wb:Abc)(gs:Array Abo)(w:Abc)(sl:Option (Nat×Nat))(t:Aeo)(G:Gh)(k:Nat):Prop:=
 ∃aT w' u G',runT X.P (Aev gs w sl) k=(.next (Aev aT w' sl),u)/\FI X wb aT w' (t++u) G'/\G'.mu X<G.mu X
def Xi(g:Abo)(v:Value):(Ae2 g v).status=.running:=rfl
def pV.refl{x:Abo}(h:x.status=.running):pV x x:=⟨rfl,rfl,rfl,h⟩
def alh(h:FI X wb gs w t G)(sl:Option (Nat×Nat)){i:Nat}(hi:i<G.j)(aQ:G.st i=.ku){M:aaa}{aL:Abc}{x:Abo}(hx:gs[X.N0+i]?=some x)(ha:G.act (X.N0+i)=some ⟨M,x,aL⟩)
 (hn:X.eU i=true)(hS:FW X X.cN (X.val i) (λM g w=>Walk X.P false (W2 X) M g w) M x w){f:Nat}{az:List Nat}(hp:G.mp=.db f az):od X wb gs w sl t G (X.N0+i):=by
 obtain⟨_,_,⟨z,dq⟩,xV⟩:=hS;have jX:=h.n0;have rG:=h.jn;obtain⟨y0,h0,dY⟩:=h.main;unfold fM at dY;rw[hp] at dY;obtain⟨M0,v0,y,z0,qf,rfl,hR⟩:=dY;have cA:=h.az;unfold nf at cA;rw[hp] at cA;obtain⟨g1,g2,g3⟩:=cA;have xW:i ∉ az:=λe=>by have:=((g3 i).1 e).2.2;rw[aQ] at this;cases this
 obtain⟨f',rfl⟩:∃f',f=f'+1:=by
  have h1:=Ba X.n (i::az) (List.nodup_cons.2 ⟨xW,g1⟩) λa ha=>by
   rcases Af2.1 ha with rfl|ha
   ·omega
   ·exact((g3 a).1 ha).1
  simp only[List.length_cons] at h1;exact⟨f - 1,by omega⟩
 obtain⟨s,hc⟩:=h.kV;have eL:=h.yJ ⟨_,_,hp⟩;rw[eL] at hc;have bz:=crowd_send_meets (P:=X.P) (sl:=sl) hx (by rw[h.sX];exact dq) hc (show 0≠X.N0+i by omega) h0 (ajB h (by omega) h0)
 rw[nM,Ael] at bz;have jW:0<gs.size:=(Aaf.1 h0).1
 have mA:X.N0+i<gs.size:=(Aaf.1 hx).1
 obtain⟨rM,qv⟩:=Mj (a:=X.N0+i) (b:=0) (c:=X.cN) (s:=s) (r:=s) (cap:=0) (B:=w.heap.size) (N:=gs.size)
  (x1:={g:=X.N0+i,fn:=x.frame.fn,pos:=x.frame.place,act:=.send X.cN s}) (x2:={g:=0,fn:=y.frame.fn,pos:=y.frame.place,act:=.recv X.cN s 0})
  (x3:={g:=X.N0+i,fn:=x.frame.fn,pos:=x.frame.place,act:=.sendDone X.cN s}) (x4:={g:=0,fn:=y.frame.fn,pos:=y.frame.place,act:=.recvDone X.cN s}) ⟨rfl,rfl⟩ ⟨rfl,rfl⟩ ⟨rfl,rfl⟩ ⟨rfl,rfl⟩ h.wt.hN mA jW
 obtain⟨c1,c2,c3⟩:=PL w X.cN 0 #[] false (s+1) (s+1) false;have iM:=h.wt.keep 0 _ qf;have qu:=h.wt.keep _ _ ha;obtain⟨_,_,z1,_,_,nO⟩:=hR w iM;have AP:=h.wt.mute (w':=w.setChan X.cN 0 #[] false (s+1) (s+1) false) rM c1 (λb _ hb=>c2 b hb) rfl rfl rfl
 have hw0:=nO i (by omega) hn xW
 obtain⟨T0,tt⟩:=(hw0.rely (AP.keep 0 _ qf|>λk=>(⟨by rw[c1];exact Ad4 _,λb hb=>c2 b (h.wt.low 0 _ qf b hb).2.2,rfl,rfl,rfl⟩:bN M0 w (w.setChan X.cN 0 #[] false (s+1) (s+1) false)))).tree
 obtain⟨Ti,G4⟩:=(xV.rely (⟨by rw[c1];exact Ad4 _,λb hb=>c2 b (h.wt.low _ _ ha b hb).2.2,rfl,rfl,rfl⟩:bN M w (w.setChan X.cN 0 #[] false (s+1) (s+1) false))).tree
 have Ed:=(AP.again qf (Ae2 y (Ae4 true (X.val i) true))).again (g:=X.N0+i) (j:=⟨M,x,aL⟩) (by rw[bP _ _ (by omega)];exact ha) (Ae2 x Aeq)
 refine⟨_,_,_,{G with st:=upd G.st i .iz,mp:=.walk f' (az++ [i]),act:=eW (eW G.act 0 (some ⟨M0,Ae2 y (Ae4 true (X.val i) true),w.setChan X.cN 0 #[] false (s+1) (s+1) false⟩)) (X.N0+i) (some ⟨M,Ae2 x Aeq,w.setChan X.cN 0 #[] false (s+1) (s+1) false⟩),tr:=upd (upd G.tr 0 T0) (X.N0+i) Ti},bz,?_,?_⟩
 ·refine h.zb (by simp) rfl rfl ?_ (λi' bu=>?_) ?_ (λi' bu=>?_) (λhc=>?_) (λg h1 h2=>⟨?_,rfl,?_⟩) (λg hg=>?_) ?_ ?_ (λ⟨_,_,e⟩=>by cases e) (λhr i' bu=>?_) (λ⟨_,_,e⟩=>by cases e) Ed ?_ ?_ ⟨by rw[c1];exact h.base.size,h.base.tape,h.base.os,h.base.out⟩ qv (λi' bu hq=>?_) rfl
  ·exact⟨λ_=>⟨_,_,.inr hp⟩,λ_=>⟨_,_,.inl rfl⟩⟩
  ·by_cases e:i'=i
   ·subst e;simp only[upd_same];rw[aQ];simp
   ·simp only[upd_ne _ _ e]
  ·refine⟨Ae2 y (Ae4 true (X.val i) true),?_,?_⟩
   ·rw[me,if_neg (by omega),if_pos ⟨rfl,jW⟩];rfl
   ·exact⟨M0,w.setChan X.cN 0 #[] false (s+1) (s+1) false,Ae2 y (Ae4 true (X.val i) true),by simp only[bP _ _ (show 0≠X.N0+i by omega),fE],pV.refl rfl,by simp only[upd_ne _ _ (show 0≠X.N0+i by omega),upd_same];exact tt⟩
  ·by_cases e:i'=i
   ·subst e
    refine⟨Ae2 x Aeq,?_,?_⟩
    ·rw[me,if_pos ⟨rfl,mA⟩];rfl
    ·unfold WSit
     simp only[upd_same,fE];exact⟨M,_,rfl,rfl,G4⟩
   ·obtain⟨y',dZ,cD⟩:=h.wk i' bu
    refine⟨y',by rw[me,if_neg (by omega),if_neg (by omega)];exact dZ,?_⟩
    refine WSit.congr (G:=G) (by exact upd_ne _ _ e) ?_ ?_ (by exact rfl) cD
    ·simp only[bP _ _ (show X.N0+i'≠X.N0+i by omega),bP _ _ (show X.N0+i'≠0 by omega)]
    ·simp only[upd_ne _ _ (show X.N0+i'≠X.N0+i by omega),upd_ne _ _ (show X.N0+i'≠0 by omega)]
  ·obtain⟨y',dZ,cD⟩:=h.cl hc
   refine⟨y',by rw[me,if_neg (by omega),if_neg (by omega)];exact dZ,?_⟩
   refine CSit.congr (G:=G) (by exact rfl) ?_ ?_ (by exact rfl) cD
   ·simp only[bP _ _ (show X.N0+X.n≠X.N0+i by omega),bP _ _ (show X.N0+X.n≠0 by omega)]
   ·simp only[upd_ne _ _ (show X.N0+X.n≠X.N0+i by omega),upd_ne _ _ (show X.N0+X.n≠0 by omega)]
  ·rw[me,if_neg (by omega),if_neg (by omega)]
  ·simp only[bP _ _ (show g≠X.N0+i by omega),bP _ _ (show g≠0 by omega)]
   exact h.nN g h1 h2
  ·simp only[bP _ _ (show g≠X.N0+i by omega),bP _ _ (show g≠0 by omega)]
   exact h.mw g hg
  ·have hq:=Bv G.st (show i<X.n by omega) .iz
   have e1:(G.st i).q=0:=by rw[aQ];rfl
   have e2:WS.q .iz=0:=rfl;have de:=h.cnt;unfold mY at de |-
   simp only;rw[show sumTo X.n (λa=>(upd G.st i .iz a).q)=sumTo X.n (λa=>(G.st a).q) by omega]
   exact de
  ·refine⟨List.nodup_append.2 ⟨g1,by simp,λa Hj b hb=>?_⟩,by simp only[List.length_append,Af4];omega,λa=>?_⟩
   ·simp only[Af1] at hb
    subst hb
    exactλe=>xW (e▸Hj)
   ·by_cases e:a=i
    ·subst e
     simp only[Af5,Af1,or_true,upd_same,true_iff];exact⟨by omega,hn,rfl⟩
    ·simp only[Af5,Af1,e,or_false,upd_ne _ _ e]
     exact g3 a
  ·by_cases e:i'=i
   ·subst e;simp only[upd_same];simp
   ·simp only[upd_ne _ _ e];exact h.vN hr i' bu
  ·obtain⟨s',e'⟩:=h.kU
   exact⟨s',by rw[c2 _ h.neq];exact e'⟩
  ·exact⟨s+1,by rw[c3 h.wt.hN];unfold Gh.closed at eL |-;simp only;rw[eL]⟩
  ·have mD:G.st i'=.quit:=by
    by_cases e:i'=i
    ·subst e;simp only[upd_same] at hq;cases hq
    ·simp only[upd_ne _ _ e] at hq;exact hq
   exact(h.kq i' bu mD).app λop ab _=>(qv op ab).1
 ·have hm:=AZ G.st (show i<X.n by omega) .iz
  have e1:(G.st i).w=5:=by rw[aQ];rfl
  have e2:WS.w .iz=3:=rfl;unfold Gh.mu;simp only[hp,MP.w];omega
def FI.ady(h:FI X wb gs w t G){i:Nat}(hi:i<X.n)(hs:G.st i≠ .quit):G.closed=false:=by
 apply Aa1;intro hc;exact hs (h.Gk (by simpa using hc) i hi)
def OG{c:Nat}{M:aaa}{w w':Abc}(c1:w'.heap.size=w.heap.size)(c2:∀b,b≠c->w'.heap[b]?=w.heap[b]?)(hM:∀b,M.has b->b≠c)(ht:w'.tape=w.tape)(ho:w'.os=w.os)(hp:w'.output=w.output):bN M w w':=
 ⟨by rw[c1];exact Ad4 _,λb hb=>c2 b (hM b hb),ht,ho,hp⟩
def ali(h:FI X wb gs w t G)(sl:Option (Nat×Nat)){i:Nat}(hi:i<G.j)(aQ:G.st i=.ku){M:aaa}{aL:Abc}{x:Abo}(hx:gs[X.N0+i]?=some x)(ha:G.act (X.N0+i)=some ⟨M,x,aL⟩)
 (hn:X.eU i=true)(hS:FW X X.cN (X.val i) (λM g w=>Walk X.P false (W2 X) M g w) M x w)(hp:¬ ∃f az,G.mp=.db f az):od X wb gs w sl t G (X.N0+i):=by
 obtain⟨_,_,⟨z,dq⟩,xV⟩:=hS;have jX:=h.n0;have rG:=h.jn;have eL:=h.ady (show i<X.n by omega) (by rw[aQ];simp)
 obtain⟨s,hc⟩:=h.kV;rw[eL] at hc;have mA:X.N0+i<gs.size:=(Aaf.1 hx).1
 have bz:=Afi (P:=X.P) (sl:=sl) hx (by rw[h.sX];exact dq) (λcc cX=>by
  simp only[Af0,Af1] at cX;subst cX;exact ways_send_none hc (Ad4 _) (ajA h hp))
 rw[nM] at bz;refine⟨_,_,_,{G with st:=upd G.st i .iR,act:=eW G.act (X.N0+i) (some ⟨M,x,w⟩)},bz,?_,?_⟩
 ·refine h.zb (by simp) rfl rfl Iff.rfl (λi' bu=>?_) ?_ (λi' bu=>?_) (λhc=>?_) (λg h1 h2=>⟨?_,rfl,?_⟩) (λg hg=>?_) ?_ ?_ (λe=>absurd e hp) (λhr i' bu=>?_) (λe=>absurd e hp) (by simp only[Aag];exact h.wt.again ha x) h.kU h.kV h.base (by simp) (λi' bu hq=>?_) rfl
  ·by_cases e:i'=i
   ·subst e;simp only[upd_same];rw[aQ];simp
   ·simp only[upd_ne _ _ e]
  ·obtain⟨y,hy,hs⟩:=h.main
   refine⟨y,by rw[one_set,if_neg (by omega)];exact hy,?_⟩
   exact fM.congr (G:=G) (by exact rfl) (by exact rfl) (by simp only[bP _ _ (show 0≠X.N0+i by omega)]) (by exact rfl) hs
  ·by_cases e:i'=i
   ·subst e
    refine⟨Ae5 x #[Ae1 X.cN (X.val i') z] .send,by rw[one_set,if_pos ⟨rfl,mA⟩],?_⟩
    unfold WSit;simp only[upd_same,fE];exact⟨M,w,x,z,rfl,rfl,hn,xV⟩
   ·obtain⟨y',dZ,cD⟩:=h.wk i' bu
    refine⟨y',by rw[one_set,if_neg (by omega)];exact dZ,?_⟩
    exact WSit.congr (G:=G) (by exact upd_ne _ _ e) (by simp only[bP _ _ (show X.N0+i'≠X.N0+i by omega)]) (by exact rfl) (by exact rfl) cD
  ·obtain⟨y',dZ,cD⟩:=h.cl hc
   refine⟨y',by rw[one_set,if_neg (by omega)];exact dZ,?_⟩
   exact CSit.congr (G:=G) (by exact rfl) (by simp only[bP _ _ (show X.N0+X.n≠X.N0+i by omega)]) (by exact rfl) (by exact rfl) cD
  ·rw[one_set,if_neg (by omega)]
  ·simp only[bP _ _ (show g≠X.N0+i by omega)]
   exact h.nN g h1 h2
  ·simp only[bP _ _ (show g≠X.N0+i by omega)]
   exact h.mw g hg
  ·have hq:=Bv G.st (show i<X.n by omega) .iR
   have e1:(G.st i).q=0:=by rw[aQ];rfl
   have e2:WS.q .iR=0:=rfl;have de:=h.cnt;unfold mY at de |-
   simp only;rw[show sumTo X.n (λa=>(upd G.st i .iR a).q)=sumTo X.n (λa=>(G.st a).q) by omega]
   exact de
  ·have cA:=h.az
   unfold nf at cA |-
   simp only;have Hu:∀a,(upd G.st i .iR a).gD=(G.st a).gD:=by
    intro a;by_cases e:a=i
    ·subst e;rw[upd_same,aQ];rfl
    ·rw[upd_ne _ _ e]
   simp only[Hu];exact cA
  ·by_cases e:i'=i
   ·subst e;simp only[upd_same];simp
   ·simp only[upd_ne _ _ e];exact h.vN hr i' bu
  ·rw[Aag]
   by_cases e:i'=i
   ·subst e;simp only[upd_same] at hq;cases hq
   ·simp only[upd_ne _ _ e] at hq;exact h.kq i' bu hq
 ·have hm:=AZ G.st (show i<X.n by omega) .iR
  have e1:(G.st i).w=5:=by rw[aQ];rfl
  have e2:WS.w .iR=4:=rfl;unfold Gh.mu;simp only;omega
def wI(X:Pm)(G:Gh)(i:Nat):Prop:=G.st i=.iz\/(G.st i=.ku/\X.eU i=false)
def wI.facts{i:Nat}(h:wI X G i):(G.st i).q=0/\3<=(G.st i).w/\G.st i≠ .no/\G.st i≠ .quit/\∀s:WS,s.gD=true->(X.eU i=true/\(G.st i).gD=true↔X.eU i=true/\s.gD=true):=by
 rcases h with h| ⟨h,hn⟩<;>rw[h]
 ·exact⟨rfl,Ad4 _,by simp,by simp,λs hs=>by rw[hs];exact Iff.rfl⟩
 ·refine⟨rfl,by decide,by simp,by simp,λs hs=>by simp[hn]⟩
def adg(h:FI X wb gs w t G){i:Nat}(hd:wI X G i){s:WS}(hs:s.gD=true):nf X {G with st:=upd G.st i s}:=by
 have cA:=h.az;obtain⟨_,_,_,_,hf⟩:=hd.facts;have key:∀a,(X.eU a=true/\(upd G.st i s a).gD=true)↔(X.eU a=true/\(G.st a).gD=true):=by
  intro a;by_cases e:a=i
  ·subst e;rw[upd_same];exact(hf s hs).symm
  ·rw[upd_ne _ _ e]
 unfold nf at cA |-
 simp only;cases hm:G.mp with
 |spawn=>
  rw[hm] at cA;intro a ha vr;have h1:=cA a ha vr;cases hp:(upd G.st i s a).gD with
  |false=>rfl
  |true=>have:=(key a).1 ⟨vr,hp⟩;rw[h1] at this;exact absurd this.2 (by simp)
 |walk f az=>
  rw[hm] at cA;exact⟨cA.1,cA.2.1,λa=>by rw[cA.2.2 a];exact and_congr_right λ_=>(key a).symm⟩
 |db f az=>
  rw[hm] at cA;exact⟨cA.1,cA.2.1,λa=>by rw[cA.2.2 a];exact and_congr_right λ_=>(key a).symm⟩
def alg(h:FI X wb gs w t G)(sl:Option (Nat×Nat)){i:Nat}(hi:i<G.j)(aQ:wI X G i){M:aaa}{aL:Abc}{x:Abo}(hx:gs[X.N0+i]?=some x)(ha:G.act (X.N0+i)=some ⟨M,x,aL⟩)
 (hS:W2 X M x w)(hp:¬ ∃r,G.cp=.db r):od X wb gs w sl t G (X.N0+i):=by
 obtain⟨_,_,⟨z,dq⟩,xV⟩:=hS;have jX:=h.n0;have rG:=h.jn;obtain⟨f1,f2,f3,f4,f5⟩:=aQ.facts;obtain⟨s,hc⟩:=h.kU;have mA:X.N0+i<gs.size:=(Aaf.1 hx).1
 have bz:=Afi (P:=X.P) (sl:=sl) hx (by rw[h.sX];exact dq) (λcc cX=>by
  simp only[Af0,Af1] at cX;subst cX;exact ways_send_none hc (Ad4 _) (ajy h hp))
 rw[nM] at bz;refine⟨_,_,_,{G with st:=upd G.st i .iu,act:=eW G.act (X.N0+i) (some ⟨M,x,w⟩)},bz,?_,?_⟩
 ·refine h.zb (by simp) rfl rfl Iff.rfl (λi' bu=>?_) ?_ (λi' bu=>?_) (λhc=>?_) (λg h1 h2=>⟨?_,rfl,?_⟩) (λg hg=>?_) ?_ (adg h aQ rfl) (λe i' bu=>?_) (λhr i' bu=>absurd hr hp) (λe=>h.yJ e) (by simp only[Aag];exact h.wt.again ha x) h.kU h.kV h.base (by simp) (λi' bu hq=>?_) rfl
  ·by_cases e:i'=i
   ·subst e;simp only[upd_same];simp[f3]
   ·simp only[upd_ne _ _ e]
  ·obtain⟨y,hy,hs⟩:=h.main
   refine⟨y,by rw[one_set,if_neg (by omega)];exact hy,?_⟩
   exact fM.congr (G:=G) (by exact rfl) (by exact rfl) (by simp only[bP _ _ (show 0≠X.N0+i by omega)]) (by exact rfl) hs
  ·by_cases e:i'=i
   ·subst e
    refine⟨Ae5 x #[Ae1 X.cL (.bool true) z] .send,by rw[one_set,if_pos ⟨rfl,mA⟩],?_⟩
    unfold WSit;simp only[upd_same,fE];exact⟨M,w,x,z,rfl,rfl,xV⟩
   ·obtain⟨y',dZ,cD⟩:=h.wk i' bu
    refine⟨y',by rw[one_set,if_neg (by omega)];exact dZ,?_⟩
    exact WSit.congr (G:=G) (by exact upd_ne _ _ e) (by simp only[bP _ _ (show X.N0+i'≠X.N0+i by omega)]) (by exact rfl) (by exact rfl) cD
  ·obtain⟨y',dZ,cD⟩:=h.cl hc
   refine⟨y',by rw[one_set,if_neg (by omega)];exact dZ,?_⟩
   exact CSit.congr (G:=G) (by exact rfl) (by simp only[bP _ _ (show X.N0+X.n≠X.N0+i by omega)]) (by exact rfl) (by exact rfl) cD
  ·rw[one_set,if_neg (by omega)]
  ·simp only[bP _ _ (show g≠X.N0+i by omega)]
   exact h.nN g h1 h2
  ·simp only[bP _ _ (show g≠X.N0+i by omega)]
   exact h.mw g hg
  ·have hq:=Bv G.st (show i<X.n by omega) .iu
   have e2:WS.q .iu=0:=rfl;have de:=h.cnt;unfold mY at de |-
   simp only;rw[show sumTo X.n (λa=>(upd G.st i .iu a).q)=sumTo X.n (λa=>(G.st a).q) by omega]
   exact de
  ·by_cases e2:i'=i
   ·subst e2;simp only[upd_same];simp
   ·simp only[upd_ne _ _ e2];exact h.mL e i' bu
  ·rw[Aag]
   by_cases e:i'=i
   ·subst e;simp only[upd_same] at hq;cases hq
   ·simp only[upd_ne _ _ e] at hq;exact h.kq i' bu hq
 ·have hm:=AZ G.st (show i<X.n by omega) .iu
  have e2:WS.w .iu=2:=rfl;unfold Gh.mu;simp only;omega
def heard(h:FI X wb gs w t G)(d:Nat){i:Nat}(hi:i<G.j)(DR:G.st i≠ .quit)(hnn:G.st i≠ .no)(Hu:∀a,(X.eU a=true/\(upd G.st i .quit a).gD=true)↔(X.eU a=true/\(G.st a).gD=true))
 {r:Nat}(o4:G.cp=.db (r+1)\/G.cp=.walk (r+1)){x y:Abo}{M Mc:aaa}{xg yg:Abo}{xw yw:Abc}(ha:G.act (X.N0+i)=some ⟨M,xg,xw⟩)(Dj:G.act (X.N0+X.n)=some ⟨Mc,yg,yw⟩)
 {m:Nat}(hq:Aeu X.P m x)(hy:y.status=.running)(hw:Walk X.P false (pW X r) Mc y w){s:Nat}(hs:w.heap[X.cL]?=some (.chan 0 #[] false s s false))
 {x1 x2 x3 x4:Aep}(h1:x1.g=X.N0+i/\x1.act=.send X.cL s)(h2:x2.g=X.N0+X.n/\x2.act=.recv X.cL s 0)(h3:x3.g=X.N0+i/\x3.act=.sendDone X.cL s)(h4:x4.g=X.N0+X.n/\x4.act=.recvDone X.cL s)
 {aT:Array Abo}(aI:aT.size=gs.size)(Dx:aT[X.N0+i]?=some x)(Dy:aT[X.N0+X.n]?=some y)(hgo:∀k,k≠X.N0+i->k≠X.N0+X.n->aT[k]?=gs[k]?):
 ∃G',FI X wb aT ((w.at d).setChan X.cL 0 #[] false (s+1) (s+1) false) (t++#[x1,x2,x3,x4]) G'/\G'.mu X<G.mu X:=by
 have jX:=h.n0;have rG:=h.jn;have bj:G.cp.gC=false:=by rcases o4 with e|e<;>rw[e]<;>rfl
 have o8:=h.jc bj;have eL:=h.ady (show i<X.n by omega) DR
 have mA:X.N0+i<gs.size:=by rw[<-aI];exact(Aaf.1 Dx).1
 have tF:X.N0+X.n<gs.size:=by rw[<-aI];exact(Aaf.1 Dy).1
 obtain⟨rM,qv⟩:=Mj (a:=X.N0+i) (b:=X.N0+X.n) (c:=X.cL) (s:=s) (r:=s) (cap:=0) (B:=w.heap.size) (N:=gs.size) h1 h2 h3 h4 h.wt.hL mA tF;obtain⟨c1,c2,c3⟩:=PL (w.at d) X.cL 0 #[] false (s+1) (s+1) false;have AP:=h.wt.mute (w':=(w.at d).setChan X.cL 0 #[] false (s+1) (s+1) false) rM c1 (λb hb _=>c2 b hb) rfl rfl rfl
 obtain⟨Tc,Dh⟩:=(hw.rely (OG (w':=(w.at d).setChan X.cL 0 #[] false (s+1) (s+1) false) c1 c2 (λb hb=>(h.wt.low _ _ Dj b hb).2.1) rfl rfl rfl)).tree
 have aw:X.N0+X.n≠X.N0+i:=by omega
 have Ed:=(AP.again Dj y).drop (X.N0+i);refine⟨{G with st:=upd G.st i .quit,cp:=.walk r,act:=eW (eW G.act (X.N0+X.n) (some ⟨Mc,y,(w.at d).setChan X.cL 0 #[] false (s+1) (s+1) false⟩)) (X.N0+i) none,q:=upd G.q (X.N0+i) m,tr:=upd G.tr (X.N0+X.n) Tc},?_,?_⟩
 ·refine h.zb aI rfl bj.symm Iff.rfl (λi' bu=>?_) ?_ (λi' bu=>?_) (λhc=>?_) (λg h1 h2=>⟨hgo g (by omega) (by omega),upd_ne _ _ (by omega),?_⟩) (λg hg=>?_) ?_ ?_ (λe i' bu=>?_) (λ⟨_,e⟩=>by cases e) (λ_=>rfl) Ed ?_ ?_ ⟨by rw[c1];exact h.base.size,h.base.tape,h.base.os,h.base.out⟩ qv (λi' bu hq=>?_) ?_
  ·by_cases e:i'=i
   ·subst e;simp only[upd_same];simp[hnn]
   ·simp only[upd_ne _ _ e]
  ·obtain⟨z,hz,aI⟩:=h.main
   refine⟨z,by rw[hgo 0 (by omega) (by omega)];exact hz,?_⟩
   exact fM.congr (G:=G) (by exact rfl) (by exact rfl) (by simp only[bP _ _ (show 0≠X.N0+i by omega),bP _ _ (show 0≠X.N0+X.n by omega)]) (by simp only[upd_ne _ _ (show 0≠X.N0+X.n by omega)]) aI
  ·by_cases e:i'=i
   ·subst e
    refine⟨x,Dx,?_⟩
    unfold WSit;simp only[upd_same,fE];exact⟨trivial,hq⟩
   ·obtain⟨y',dZ,cD⟩:=h.wk i' bu
    refine⟨y',by rw[hgo _ (by omega) (by omega)];exact dZ,?_⟩
    exact WSit.congr (G:=G) (by exact upd_ne _ _ e) (by simp only[bP _ _ (show X.N0+i'≠X.N0+i by omega),bP _ _ (show X.N0+i'≠X.N0+X.n by omega)]) (by simp only[upd_ne _ _ (show X.N0+i'≠X.N0+X.n by omega)]) (by simp only[upd_ne _ _ (show X.N0+i'≠X.N0+i by omega)]) cD
  ·refine⟨y,Dy,?_⟩
   unfold CSit;simp only[bP _ _ aw,fE,upd_same];exact⟨Mc,_,rfl,hy,Dh⟩
  ·simp only[bP _ _ (show g≠X.N0+i by omega),bP _ _ (show g≠X.N0+X.n by omega)]
   exact h.nN g h1 h2
  ·simp only[bP _ _ (show g≠X.N0+i by omega),bP _ _ (show g≠X.N0+X.n by omega)]
   exact h.mw g hg
  ·have hqs:=Bv G.st (show i<X.n by omega) .quit
   have e1:(G.st i).q=0:=by unfold WS.q;rw[if_neg DR]
   have e2:WS.q .quit=1:=rfl;have de:=h.cnt;have an8:(r+1)+sumTo X.n (λa=>(G.st a).q)=X.n:=by
    unfold mY at de;rcases o4 with e|e<;>rw[e] at de<;>exact de
   show r+sumTo X.n (λa=>(upd G.st i .quit a).q)=X.n
   omega
  ·have cA:=h.az
   unfold nf at cA |-
   simp only;cases hmm:G.mp with
   |spawn=>exact absurd (h.mc.2 bj) (by rw[hmm];rintro⟨_,_,e|e⟩<;>cases e)
   |walk f az=>
    rw[hmm] at cA;exact⟨cA.1,cA.2.1,λa=>by rw[cA.2.2 a];exact and_congr_right λ_=>(Hu a).symm⟩
   |db f az=>
    rw[hmm] at cA;exact⟨cA.1,cA.2.1,λa=>by rw[cA.2.2 a];exact and_congr_right λ_=>(Hu a).symm⟩
  ·by_cases e2:i'=i
   ·subst e2;simp only[upd_same];simp
   ·simp only[upd_ne _ _ e2];exact h.mL e i' bu
  ·exact⟨s+1,c3 h.wt.hL⟩
  ·obtain⟨s',e'⟩:=h.kV
   rw[eL] at e';exact⟨s',by rw[c2 _ (Agr h.neq)];exact e'⟩
  ·by_cases e:i'=i
   ·subst e
    intro k a vp hg;obtain⟨op,ab,cB⟩:=Aey vp;rcases Aez ab with⟨_,bG⟩ | ⟨_,dN⟩
    ·have hk:Knows t (X.N0+i') k:=sU.self t (X.N0+i') k a (by rw[Ae0 bG];exact cB) (by simpa [Afw,ab,bG] using hg)
     exact adX h.wt.nd h1 h2 h3 h4 hk
    ·rw[(qv op dN).1] at cB;cases cB
   ·simp only[upd_ne _ _ e] at hq
    exact(h.kq i' bu hq).app λop ab _=>(qv op ab).1
  ·rw[eL];rfl
 ·have hm:=AZ G.st (show i<X.n by omega) .quit
  have e2:WS.w .quit=0:=rfl;unfold Gh.mu;simp only;rcases o4 with e|e<;>rw[e]<;>simp only[CP.w]<;>omega
def Wx{i:Nat}(h:wI X G i\/G.st i=.iu):∀a,(X.eU a=true/\(upd G.st i .quit a).gD=true)↔(X.eU a=true/\(G.st a).gD=true):=by
 intro a;by_cases e:a=i
 ·subst e
  rw[upd_same];rcases h with h|h
  ·exact(h.facts.2.2.2.2 .quit rfl).symm
  ·rw[h];exact Iff.rfl
 ·rw[upd_ne _ _ e]
def alf(h:FI X wb gs w t G)(sl:Option (Nat×Nat)){i:Nat}(hi:i<G.j)(aQ:wI X G i){M:aaa}{aL:Abc}{x:Abo}(hx:gs[X.N0+i]?=some x)(ha:G.act (X.N0+i)=some ⟨M,x,aL⟩)
 (hS:W2 X M x w){r:Nat}(hp:G.cp=.db r):od X wb gs w sl t G (X.N0+i):=by
 obtain⟨_,_,⟨z,dq⟩,m,hq⟩:=hS;have jX:=h.n0;have rG:=h.jn;have bj:G.cp.gC=false:=by rw[hp];rfl
 have o8:=h.jc bj;obtain⟨f1,f2,f3,f4,f5⟩:=aQ.facts;obtain⟨y0,h0,dY⟩:=h.cl bj;unfold CSit at dY;rw[hp] at dY;obtain⟨r',Mc,v0,y,z0,rfl,Dj,rfl,hW⟩:=dY;obtain⟨s,hc⟩:=h.kU;have bz:=crowd_send_meets (P:=X.P) (sl:=sl) hx (by rw[h.sX];exact dq) hc (show X.N0+X.n≠X.N0+i by omega) h0 (ajz h (by omega) h0)
 rw[nM,Ael] at bz;have tF:X.N0+X.n<gs.size:=(Aaf.1 h0).1
 have mA:X.N0+i<gs.size:=(Aaf.1 hx).1
 obtain⟨G',hF,mC⟩:=heard h w.drawn hi f4 f3 (Wx (.inl aQ)) (.inl hp) ha Dj hq (Xi y (Ae4 false (.bool true) true)) (hW.rely (h.wt.keep _ _ Dj)) hc
  (x1:={g:=X.N0+i,fn:=x.frame.fn,pos:=x.frame.place,act:=.send X.cL s}) (x2:={g:=X.N0+X.n,fn:=y.frame.fn,pos:=y.frame.place,act:=.recv X.cL s 0})
  (x3:={g:=X.N0+i,fn:=x.frame.fn,pos:=x.frame.place,act:=.sendDone X.cL s}) (x4:={g:=X.N0+X.n,fn:=y.frame.fn,pos:=y.frame.place,act:=.recvDone X.cL s}) ⟨rfl,rfl⟩ ⟨rfl,rfl⟩ ⟨rfl,rfl⟩ ⟨rfl,rfl⟩
  (aT:=(gs.setIfInBounds (X.N0+X.n) (Ae2 y (Ae4 false (.bool true) true))).setIfInBounds (X.N0+i) (Ae2 x Aeq)) (by simp) (by rw[me,if_pos ⟨rfl,mA⟩]) (by rw[me,if_neg (by omega),if_pos ⟨rfl,tF⟩]) (λk h1 h2=>by rw[me,if_neg (λe=>h1 e.1),if_neg (λe=>h2 e.1)])
 exact⟨_,_,_,G',bz,hF,mC⟩
def ajT(h:FI X wb gs w t G)(sl:Option (Nat×Nat)){r:Nat}(hp:G.cp=.walk (r+1)){M:aaa}{aL:Abc}{x:Abo}(hx:gs[X.N0+X.n]?=some x)(ha:G.act (X.N0+X.n)=some ⟨M,x,aL⟩)
 (hS:pW X (r+1) M x w)(hex:∃i,i<X.n/\G.st i=.iu):od X wb gs w sl t G (X.N0+X.n):=by
 obtain⟨_,_,⟨z,dq⟩,hW⟩:=hS;have jX:=h.n0;have bj:G.cp.gC=false:=by rw[hp];rfl
 have o8:=h.jc bj;obtain⟨s,hc⟩:=h.kU;have MS:(X.N0+X.n==0)=false:=h.sX X.n;have aw:Aer (gs.setIfInBounds (X.N0+X.n) ph) X.cL true≠ []:=by
  obtain⟨i,hi,aQ⟩:=hex;obtain⟨y,hy,hs⟩:=h.wk i (by omega)
  unfold WSit at hs;rw[aQ] at hs;obtain⟨Mi,wi,y',z',_,hyp,_⟩:=hs;have:(X.N0+i,0)∈Aer (gs.setIfInBounds (X.N0+X.n) ph) X.cL true:=mem_partners.2 ⟨y,stand_get (by omega) hy,by rw[hyp,Afe,if_pos rfl];simp⟩
  exact List.ne_nil_of_mem this
 have nO:∀j k,(j,k)∈Aer (gs.setIfInBounds (X.N0+X.n) ph) X.cL true->k=0/\j≠X.N0+X.n/\∃gj vj zj Fx,gs[j]?=some (Ae5 gj #[Ae1 X.cL vj zj] Fx):=by
  intro j k hm;obtain⟨y,hy,hk⟩:=mem_partners.1 hm;rcases Aff gs _ j y hy with⟨_,rfl⟩ | ⟨hj,hy⟩
  ·rw[Afg] at hk;cases hk
  ·obtain⟨e,g,v,z,hyp⟩:=Wn h hy hk
   exact⟨e,hj,g,v,z,.send,by rw[hy,hyp]⟩
 obtain⟨j,gj,vj,zj,Fx,d,hj,Dw,bz⟩:=crowd_recv_meets_some (P:=X.P) (sl:=sl) hx (by rw[MS];exact dq) hc aw nO
 rw[nM,Ael] at bz;obtain⟨i,Mi,wi,yi,hi,rfl,aQ,rfl,rfl,G6,oD,m,hq⟩:=h.RD Dw;have tF:X.N0+X.n<gs.size:=(Aaf.1 hx).1
 have mA:X.N0+i<gs.size:=(Aaf.1 Dw).1
 obtain⟨G',hF,mC⟩:=heard h d hi (by rw[aQ];simp) (by rw[aQ];simp) (Wx (.inr aQ)) (.inr hp) G6 ha (x:=Ae2 gj Aeq) (by rw[oD];exact hq) (Xi x (Ae4 false (.bool true) true)) hW hc
  (x1:={g:=X.N0+i,fn:=gj.frame.fn,pos:=gj.frame.place,act:=.send X.cL s}) (x2:={g:=X.N0+X.n,fn:=x.frame.fn,pos:=x.frame.place,act:=.recv X.cL s 0})
  (x3:={g:=X.N0+i,fn:=gj.frame.fn,pos:=gj.frame.place,act:=.sendDone X.cL s}) (x4:={g:=X.N0+X.n,fn:=x.frame.fn,pos:=x.frame.place,act:=.recvDone X.cL s}) ⟨rfl,rfl⟩ ⟨rfl,rfl⟩ ⟨rfl,rfl⟩ ⟨rfl,rfl⟩
  (aT:=(gs.setIfInBounds (X.N0+i) (Ae2 gj Aeq)).setIfInBounds (X.N0+X.n) (Ae2 x (Ae4 false (.bool true) true))) (by simp) (by rw[me,if_neg (by omega),if_pos ⟨rfl,mA⟩]) (by rw[me,if_pos ⟨rfl,tF⟩]) (λk h1 h2=>by rw[me,if_neg (λe=>h2 e.1),if_neg (λe=>h1 e.1)])
 exact⟨_,_,_,G',bz,hF,mC⟩
def ajU(h:FI X wb gs w t G)(sl:Option (Nat×Nat)){r:Nat}(hp:G.cp=.walk (r+1)){M:aaa}{aL:Abc}{x:Abo}(hx:gs[X.N0+X.n]?=some x)(ha:G.act (X.N0+X.n)=some ⟨M,x,aL⟩)
 (hS:pW X (r+1) M x w)(hex:¬ ∃i,i<X.n/\G.st i=.iu):od X wb gs w sl t G (X.N0+X.n):=by
 obtain⟨_,_,⟨z,dq⟩,hW⟩:=hS;have jX:=h.n0;have bj:G.cp.gC=false:=by rw[hp];rfl
 have o8:=h.jc bj;obtain⟨s,hc⟩:=h.kU;have MS:(X.N0+X.n==0)=false:=h.sX X.n;have eL:G.closed=false:=by unfold Gh.closed;rw[hp]
 have xX:Aer (gs.setIfInBounds (X.N0+X.n) ph) X.cL true=[]:=by
  refine Afh λj y hy=>?_
  rcases Aff gs _ j y hy with⟨_,rfl⟩ | ⟨hj,hy⟩
  ·exact Afg _ _
  ·cases hl:Ae9 y X.cL true with
   |nil=>rfl
   |cons a l=>
    exfalso;obtain⟨e,g,v,z',hyp⟩:=Wn h (m:=a) hy (by rw[hl];simp)
    rw[hyp] at hy;obtain⟨i,_,_,_,hi,_,aQ,_⟩:=h.RD hy;exact hex ⟨i,by omega,aQ⟩
 have bz:=Afi (P:=X.P) (sl:=sl) hx (by rw[MS];exact dq) (λcc cX=>by
  simp only[Af0,Af1] at cX;subst cX;exact ways_recv_none hc xX)
 rw[nM] at bz;have tF:X.N0+X.n<gs.size:=(Aaf.1 hx).1
 refine⟨_,_,_,{G with cp:=.db (r+1),act:=eW G.act (X.N0+X.n) (some ⟨M,x,w⟩)},bz,?_,?_⟩
 ·refine h.zb (by simp) rfl bj.symm Iff.rfl (λi' bu=>Iff.rfl) ?_ (λi' bu=>?_) (λhc=>?_) (λg h1 h2=>⟨?_,rfl,?_⟩) (λg hg=>?_) ?_ h.az (λe=>h.mL e) (λ_ i' bu aQ=>hex ⟨i',bu,aQ⟩) (λ_=>rfl) (by simp only[Aag];exact h.wt.again ha x) h.kU (by obtain⟨s',e⟩:=h.kV;rw[eL] at e;exact⟨s',e⟩) h.base (by simp) (λi' bu hq=>by rw[Aag];exact h.kq i' bu hq) (by rw[eL];rfl)
  ·obtain⟨y,hy,hs⟩:=h.main
   refine⟨y,by rw[one_set,if_neg (by omega)];exact hy,?_⟩
   exact fM.congr (G:=G) (by exact rfl) (by exact rfl) (by simp only[bP _ _ (show 0≠X.N0+X.n by omega)]) (by exact rfl) hs
  ·obtain⟨y',dZ,cD⟩:=h.wk i' bu
   refine⟨y',by rw[one_set,if_neg (by omega)];exact dZ,?_⟩
   exact WSit.congr (G:=G) (by exact rfl) (by simp only[bP _ _ (show X.N0+i'≠X.N0+X.n by omega)]) (by exact rfl) (by exact rfl) cD
  ·refine⟨Ae5 x #[Ae3 X.cL z] (.recv false),by rw[one_set,if_pos ⟨rfl,tF⟩],?_⟩
   unfold CSit;simp only[fE];exact⟨r,M,w,x,z,rfl,rfl,rfl,hW⟩
  ·rw[one_set,if_neg (by omega)]
  ·simp only[bP _ _ (show g≠X.N0+X.n by omega)]
   exact h.nN g h1 h2
  ·simp only[bP _ _ (show g≠X.N0+X.n by omega)]
   exact h.mw g hg
  ·have de:=h.cnt
   unfold mY at de |-
   rw[hp] at de;exact de
 ·unfold Gh.mu
  simp only[hp,CP.w];omega
def ajW(h:FI X wb gs w t G)(sl:Option (Nat×Nat)){f:Nat}{az:List Nat}(hp:G.mp=.walk f az){M:aaa}{aL:Abc}{x y:Abo}(hx:gs[0]?=some x)(ha:G.act 0=some ⟨M,y,aL⟩)(ik:pV x y)
 (hS:∀aa,bN M aL aa->nj X f az M y aa)(eL:G.closed=false)(hex:¬ ∃i,i<X.n/\G.st i=.iR):od X wb gs w sl t G 0:=by
 obtain⟨_,_,z,dq,_⟩:=(hS w (h.wt.keep _ _ ha)).at;have jX:=h.n0;have rG:=h.jn;obtain⟨s,hc⟩:=h.kV;rw[eL] at hc;have xX:Aer (gs.setIfInBounds 0 ph) X.cN true=[]:=by
  refine Afh λj y hy=>?_
  rcases Aff gs _ j y hy with⟨_,rfl⟩ | ⟨hj,hy⟩
  ·exact Afg _ _
  ·cases hl:Ae9 y X.cN true with
   |nil=>rfl
   |cons a l=>
    exfalso;obtain⟨e,g,v,z',hyp⟩:=O6 h (m:=a) hy (by rw[hl];simp)
    rw[hyp] at hy;obtain⟨i,_,_,_,hi,_,aQ,_⟩:=h.Lt hy;exact hex ⟨i,by omega,aQ⟩
 have pf:Abv X.P (0==0) x w=.comm y #[Ae3 X.cN z] true (.recv true) w #[]:=by
  rw[Afj ik.1 ik.2.1 ik.2.2.1];exact dq
 have bz:=Afi (P:=X.P) (sl:=sl) hx pf (λcc cX=>by
  simp only[Af0,Af1] at cX;subst cX;exact ways_recv_none hc xX)
 rw[nM] at bz;have jW:0<gs.size:=(Aaf.1 hx).1
 refine⟨_,_,_,{G with mp:=.db f az},bz,?_,?_⟩
 ·refine h.zb (by simp) rfl rfl ⟨λ_=>⟨_,_,.inl hp⟩,λ_=>⟨_,_,.inr rfl⟩⟩ (λi' bu=>Iff.rfl) ?_ (λi' bu=>?_) (λhc=>?_) (λg h1 h2=>⟨?_,rfl,h.nN g h1 h2⟩) h.mw h.cnt ?_ (λ_ i' bu e=>hex ⟨i',bu,e⟩) (λe=>h.vN e) (λ_=>eL) (by simp only[Aag];exact h.wt) h.kU h.kV h.base (by simp) (λi' bu hq=>by rw[Aag];exact h.kq i' bu hq) rfl
  ·refine⟨Ae5 y #[Ae3 X.cN z] (.recv true),by rw[one_set,if_pos ⟨rfl,jW⟩],?_⟩
   unfold fM;exact⟨M,aL,y,z,ha,rfl,hS⟩
  ·obtain⟨y',dZ,cD⟩:=h.wk i' bu
   exact⟨y',by rw[one_set,if_neg (by omega)];exact dZ,WSit.congr (G:=G) (by exact rfl) (by exact rfl) (by exact rfl) (by exact rfl) cD⟩
  ·obtain⟨y',dZ,cD⟩:=h.cl hc
   exact⟨y',by rw[one_set,if_neg (by omega)];exact dZ,CSit.congr (G:=G) (by exact rfl) (by exact rfl) (by exact rfl) (by exact rfl) cD⟩
  ·rw[one_set,if_neg (by omega)]
  ·have cA:=h.az
   unfold nf at cA |-
   rw[hp] at cA;exact cA
 ·unfold Gh.mu
  simp only[hp,MP.w];omega
def ajV(h:FI X wb gs w t G)(sl:Option (Nat×Nat)){f:Nat}{az:List Nat}(hp:G.mp=.walk f az){M0:aaa}{v0:Abc}{x y:Abo}(h0:gs[0]?=some x)(qf:G.act 0=some ⟨M0,y,v0⟩)(ik:pV x y)
 (hR:∀aa,bN M0 v0 aa->nj X f az M0 y aa)(hex:∃i,i<X.n/\G.st i=.iR):od X wb gs w sl t G 0:=by
 have jX:=h.n0;have rG:=h.jn;have cA:=h.az;unfold nf at cA;rw[hp] at cA;obtain⟨g1,g2,g3⟩:=cA;have eL:G.closed=false:=by
  obtain⟨i,hi,aQ⟩:=hex;exact h.ady hi (by rw[aQ];simp)
 obtain⟨s,hc⟩:=h.kV;rw[eL] at hc;have aw:Aer (gs.setIfInBounds 0 ph) X.cN true≠ []:=by
  obtain⟨i,hi,aQ⟩:=hex;obtain⟨y,hy,hs⟩:=h.wk i (h.afc hi (by rw[aQ];simp))
  unfold WSit at hs;rw[aQ] at hs;obtain⟨Mi,wi,y',z',_,hyp,_⟩:=hs;have:(X.N0+i,0)∈Aer (gs.setIfInBounds 0 ph) X.cN true:=mem_partners.2 ⟨y,stand_get (by omega) hy,by rw[hyp,Afe,if_pos rfl];simp⟩
  exact List.ne_nil_of_mem this
 have nO:∀j k,(j,k)∈Aer (gs.setIfInBounds 0 ph) X.cN true->k=0/\j≠0/\∃gj vj zj Fx,gs[j]?=some (Ae5 gj #[Ae1 X.cN vj zj] Fx):=by
  intro j k hm;obtain⟨y,hy,hk⟩:=mem_partners.1 hm;rcases Aff gs _ j y hy with⟨_,rfl⟩ | ⟨hj,hy⟩
  ·rw[Afg] at hk;cases hk
  ·obtain⟨e,g,v,z,hyp⟩:=O6 h hy hk
   exact⟨e,hj,g,v,z,.send,by rw[hy,hyp]⟩
 obtain⟨_,_,z,dq,_⟩:=(hR w (h.wt.keep _ _ qf)).at;have pf:Abv X.P (0==0) x w=.comm y #[Ae3 X.cN z] true (.recv true) w #[]:=by
  rw[Afj ik.1 ik.2.1 ik.2.2.1];exact dq
 obtain⟨j,gj,vj,zj,Fx,d,hj,Dw,bz⟩:=crowd_recv_meets_some (P:=X.P) (sl:=sl) h0 pf hc aw nO;rw[nM,Ael] at bz;obtain⟨i,M,aL,yi,hi,rfl,aQ,rfl,rfl,hn,ha,oD,xV⟩:=h.Lt Dw;have xW:i ∉ az:=λe=>by have:=((g3 i).1 e).2.2;rw[aQ] at this;cases this
 obtain⟨f',rfl⟩:∃f',f=f'+1:=by
  have h1:=Ba X.n (i::az) (List.nodup_cons.2 ⟨xW,g1⟩) λa ha=>by
   rcases Af2.1 ha with rfl|ha
   ·omega
   ·exact((g3 a).1 ha).1
  simp only[List.length_cons] at h1;exact⟨f - 1,by omega⟩
 have jW:0<gs.size:=(Aaf.1 h0).1
 have mA:X.N0+i<gs.size:=(Aaf.1 Dw).1
 obtain⟨rM,qv⟩:=Mj (a:=X.N0+i) (b:=0) (c:=X.cN) (s:=s) (r:=s) (cap:=0) (B:=w.heap.size) (N:=gs.size)
  (x1:={g:=X.N0+i,fn:=gj.frame.fn,pos:=gj.frame.place,act:=.send X.cN s}) (x2:={g:=0,fn:=y.frame.fn,pos:=y.frame.place,act:=.recv X.cN s 0})
  (x3:={g:=X.N0+i,fn:=gj.frame.fn,pos:=gj.frame.place,act:=.sendDone X.cN s}) (x4:={g:=0,fn:=y.frame.fn,pos:=y.frame.place,act:=.recvDone X.cN s}) ⟨rfl,rfl⟩ ⟨rfl,rfl⟩ ⟨rfl,rfl⟩ ⟨rfl,rfl⟩ h.wt.hN mA jW
 obtain⟨c1,c2,c3⟩:=PL (w.at d) X.cN 0 #[] false (s+1) (s+1) false;obtain⟨_,_,z1,_,_,adW⟩:=hR w (h.wt.keep _ _ qf);have AP:=h.wt.mute (w':=(w.at d).setChan X.cN 0 #[] false (s+1) (s+1) false) rM c1 (λb _ hb=>c2 b hb) rfl rfl rfl
 obtain⟨T0,tt⟩:=((adW i (by omega) hn xW).rely (OG (w':=(w.at d).setChan X.cN 0 #[] false (s+1) (s+1) false) c1 c2 (λb hb=>(h.wt.low 0 _ qf b hb).2.2) rfl rfl rfl)).tree
 obtain⟨Ti,G4⟩:=((xV.rely (h.wt.keep _ _ ha)).rely (OG (w':=(w.at d).setChan X.cN 0 #[] false (s+1) (s+1) false) c1 c2 (λb hb=>(h.wt.low _ _ ha b hb).2.2) rfl rfl rfl)).tree
 rw[<-oD] at G4;have Ed:=(AP.again qf (Ae2 y (Ae4 true (X.val i) true))).again (g:=X.N0+i) (j:=⟨M,yi,aL⟩) (by rw[bP _ _ (by omega)];exact ha) (Ae2 gj Aeq)
 refine⟨_,_,_,{G with st:=upd G.st i .iz,mp:=.walk f' (az++ [i]),act:=eW (eW G.act 0 (some ⟨M0,Ae2 y (Ae4 true (X.val i) true),(w.at d).setChan X.cN 0 #[] false (s+1) (s+1) false⟩)) (X.N0+i) (some ⟨M,Ae2 gj Aeq,(w.at d).setChan X.cN 0 #[] false (s+1) (s+1) false⟩),tr:=upd (upd G.tr 0 T0) (X.N0+i) Ti},bz,?_,?_⟩
 ·refine h.zb (by simp) rfl rfl ?_ (λi' bu=>?_) ?_ (λi' bu=>?_) (λhc=>?_) (λg h1 h2=>⟨?_,rfl,?_⟩) (λg hg=>?_) ?_ ?_ (λ⟨_,_,e⟩=>by cases e) (λhr i' bu=>?_) (λ⟨_,_,e⟩=>by cases e) Ed ?_ ?_ ⟨by rw[c1];exact h.base.size,h.base.tape,h.base.os,h.base.out⟩ qv (λi' bu hq=>?_) rfl
  ·exact⟨λ_=>⟨_,_,.inl hp⟩,λ_=>⟨_,_,.inl rfl⟩⟩
  ·by_cases e:i'=i
   ·subst e;simp only[upd_same];rw[aQ];simp
   ·simp only[upd_ne _ _ e]
  ·refine⟨Ae2 y (Ae4 true (X.val i) true),?_,?_⟩
   ·rw[me,if_pos ⟨rfl,jW⟩];rfl
   ·exact⟨M0,(w.at d).setChan X.cN 0 #[] false (s+1) (s+1) false,Ae2 y (Ae4 true (X.val i) true),by simp only[bP _ _ (show 0≠X.N0+i by omega),fE],pV.refl rfl,by simp only[upd_ne _ _ (show 0≠X.N0+i by omega),upd_same];exact tt⟩
  ·by_cases e:i'=i
   ·subst e
    refine⟨Ae2 gj Aeq,?_,?_⟩
    ·rw[me,if_neg (by omega),if_pos ⟨rfl,mA⟩];rfl
    ·unfold WSit
     simp only[upd_same,fE];exact⟨M,_,rfl,rfl,G4⟩
   ·obtain⟨y',dZ,cD⟩:=h.wk i' bu
    refine⟨y',by rw[me,if_neg (by omega),if_neg (by omega)];exact dZ,?_⟩
    refine WSit.congr (G:=G) (by exact upd_ne _ _ e) ?_ ?_ (by exact rfl) cD
    ·simp only[bP _ _ (show X.N0+i'≠X.N0+i by omega),bP _ _ (show X.N0+i'≠0 by omega)]
    ·simp only[upd_ne _ _ (show X.N0+i'≠X.N0+i by omega),upd_ne _ _ (show X.N0+i'≠0 by omega)]
  ·obtain⟨y',dZ,cD⟩:=h.cl hc
   refine⟨y',by rw[me,if_neg (by omega),if_neg (by omega)];exact dZ,?_⟩
   refine CSit.congr (G:=G) (by exact rfl) ?_ ?_ (by exact rfl) cD
   ·simp only[bP _ _ (show X.N0+X.n≠X.N0+i by omega),bP _ _ (show X.N0+X.n≠0 by omega)]
   ·simp only[upd_ne _ _ (show X.N0+X.n≠X.N0+i by omega),upd_ne _ _ (show X.N0+X.n≠0 by omega)]
  ·rw[me,if_neg (by omega),if_neg (by omega)]
  ·simp only[bP _ _ (show g≠X.N0+i by omega),bP _ _ (show g≠0 by omega)]
   exact h.nN g h1 h2
  ·simp only[bP _ _ (show g≠X.N0+i by omega),bP _ _ (show g≠0 by omega)]
   exact h.mw g hg
  ·have hq:=Bv G.st (show i<X.n by omega) .iz
   have e1:(G.st i).q=0:=by rw[aQ];rfl
   have e2:WS.q .iz=0:=rfl;have de:=h.cnt;unfold mY at de |-
   simp only;rw[show sumTo X.n (λa=>(upd G.st i .iz a).q)=sumTo X.n (λa=>(G.st a).q) by omega]
   exact de
  ·refine⟨List.nodup_append.2 ⟨g1,by simp,λa Hj b hb=>?_⟩,by simp only[List.length_append,Af4];omega,λa=>?_⟩
   ·simp only[Af1] at hb
    subst hb
    exactλe=>xW (e▸Hj)
   ·by_cases e:a=i
    ·subst e
     simp only[Af5,Af1,or_true,upd_same,true_iff];exact⟨by omega,hn,rfl⟩
    ·simp only[Af5,Af1,e,or_false,upd_ne _ _ e]
     exact g3 a
  ·by_cases e:i'=i
   ·subst e;simp only[upd_same];simp
   ·simp only[upd_ne _ _ e];exact h.vN hr i' bu
  ·obtain⟨s',e'⟩:=h.kU
   exact⟨s',by rw[c2 _ h.neq];exact e'⟩
  ·exact⟨s+1,by rw[c3 h.wt.hN];unfold Gh.closed at eL |-;simp only;rw[eL]⟩
  ·have mD:G.st i'=.quit:=by
    by_cases e:i'=i
    ·subst e;simp only[upd_same] at hq;cases hq
    ·simp only[upd_ne _ _ e] at hq;exact hq
   exact(h.kq i' bu mD).app λop ab _=>(qv op ab).1
 ·have hm:=AZ G.st (show i<X.n by omega) .iz
  have e1:(G.st i).w=4:=by rw[aQ];rfl
  have e2:WS.w .iz=3:=rfl;unfold Gh.mu;simp only[hp,MP.w];omega
def uT{i:Nat}{x y:Abo}:((gs.setIfInBounds 0 x).push y)[i]?=if i=gs.size then some y else if i=0/\0<gs.size then some x else gs[i]?:=by
 rw[Array.getElem?_push,Aej]
 by_cases h:i=gs.size
 ·rw[if_pos h,if_pos h]
 ·rw[if_neg h,if_neg h,one_set]
def Xu{N:Nat}{x1 x2:Aep}(h1:x1.act=.go N)(h2:x2.act=.start):∀op∈#[x1,x2],op.act.touch? =none:=by
 intro op ab;simp only[Af0,Af2,Af3,or_false] at ab;rcases ab with rfl|rfl
 ·rw[h1];rfl
 ·rw[h2];rfl
def alN(h:FI X wb gs w t G)(sl:Option (Nat×Nat))(hp:G.mp=.spawn){r:Nat}(hr:X.n - G.j=r+1){M:aaa}{aL:Abc}{x:Abo}(hx:gs[0]?=some x)(ha:G.act 0=some ⟨M,x,aL⟩)
 (hS:StopA X (r+1) M x w):od X wb gs w sl t G 0:=by
 obtain⟨_,cg,child,dq,kG,xK,ZZ,eC⟩:=hS;have jX:=h.n0;have bj:G.cp.gC=true:=by
  cases e:G.cp.gC with
  |true=>rfl
  |false=>exact absurd (h.mc.2 e) (by rw[hp];rintro⟨_,_,e|e⟩<;>cases e)
 have yk:gs.size=X.N0+G.j:=by have:=h.size;rw[bj] at this;simpa using this
 have hi:X.n - (r+1)=G.j:=by omega
 rw[hi] at ZZ;have jZ:X.n - (G.j+1)=r:=by omega
 have jW:0<gs.size:=(Aaf.1 hx).1
 have bz:=runT_crowd_spawn (P:=X.P) (sl:=sl) (i:=0) hx (show Abv X.P (0==0) x w=_ from dq)
 rw[nM] at bz;have ya:(#[].push ({g:=0,fn:=x.frame.fn,pos:=x.frame.place,act:=.go gs.size}:Aep) |>.push {g:=gs.size,fn:=child.frame.fn,pos:=x.frame.place,act:=.start})=#[{g:=0,fn:=x.frame.fn,pos:=x.frame.place,act:=.go gs.size},{g:=gs.size,fn:=child.frame.fn,pos:=x.frame.place,act:=.start}]:=rfl
 rw[ya] at bz;obtain⟨T0,tt⟩:=eC.tree;obtain⟨Tc,Dh⟩:=ZZ.tree;have Dv:=h.mw gs.size (Ad4 _);have tO:=h.wt.spawn ha Dv (by omega) (x:={g:=0,fn:=x.frame.fn,pos:=x.frame.place,act:=.go gs.size}) (y:={g:=gs.size,fn:=child.frame.fn,pos:=x.frame.place,act:=.start}) ⟨rfl,rfl⟩ ⟨rfl,rfl⟩ cg child
 have mC:=Xu (N:=gs.size) (x1:={g:=0,fn:=x.frame.fn,pos:=x.frame.place,act:=.go gs.size}) (x2:={g:=gs.size,fn:=child.frame.fn,pos:=x.frame.place,act:=.start}) rfl rfl;generalize hu:(#[{g:=0,fn:=x.frame.fn,pos:=x.frame.place,act:=.go gs.size},{g:=gs.size,fn:=child.frame.fn,pos:=x.frame.place,act:=.start}]:Aeo)=u at bz tO mC;have Oe:∀op∈u,op.g<gs.size+1:=by
  rw[<-hu];intro op ab;simp only[Af0,Af2,Af3,or_false] at ab;rcases ab with rfl|rfl
  ·exact Nat.succ_pos _
  ·exact Nat.lt_succ_self _
 have eL:G.closed=false:=by
  unfold Gh.closed;cases e:G.cp with
  |quit=>rw[e] at bj;cases bj
  |_=>rfl
 have old:∀ {k a},Aex (t++u) k=some a->Aex t k=some a/\(t++u).g? k= t.g? k:=by
  intro k a ha;obtain⟨op,ab,cB⟩:=Aey ha;rcases Aez ab with⟨_,bG⟩ | ⟨_,dN⟩
  ·exact⟨by rw[Ae0 bG];exact cB,by simp[Afw,ab,bG]⟩
  ·rw[mC op dN] at cB;cases cB
 have Nt:G.j<X.n:=by omega
 have Vi:G.st G.j=.no:=(h.uh G.j Nt).2 (Ad4 _);refine⟨_,_,_,{G with j:=G.j+1,st:=upd G.st G.j .ku,act:=eW (eW G.act 0 (some ⟨M.shared,cg,w⟩)) gs.size (some ⟨M.shared,child,w⟩),tr:=upd (upd G.tr 0 T0) gs.size Tc},bz,?_,?_⟩
 ·refine⟨?_,jX,by simp only;omega,λhc=>(by have hc:G.cp.gC=false:=hc;rw[bj] at hc;cases hc),h.mc,λi hi=>?_,?_,λi hi=>?_,λhc=>(by have hc:G.cp.gC=false:=hc;rw[bj] at hc;cases hc),λg y h1 h2 hy=>?_,λg h1 h2=>?_,λg hg=>?_,?_,?_,λ⟨_,_,e⟩=>(by have e:G.mp=_:=e;rw[hp] at e;cases e),λ⟨r,e⟩=>?_,λ⟨_,_,e⟩=>(by have e:G.mp=_:=e;rw[hp] at e;cases e),tO,h.kU,h.kV,h.neq,h.base,λk a ha hm g hg al=>?_,λk g hg=>?_,λi hi hq=>?_,λhc k a ha=>?_,λhc=>(by rw[show Gh.closed {G with j:=G.j+1,st:=upd G.st G.j .ku,act:=eW (eW G.act 0 (some ⟨M.shared,cg,w⟩)) gs.size (some ⟨M.shared,child,w⟩),tr:=upd (upd G.tr 0 T0) gs.size Tc}=G.closed from rfl,eL] at hc;cases hc)⟩
  ·simp only[Aem,Aej,bj,if_true];omega
  ·by_cases e:i=G.j
   ·subst e;simp only[upd_same];simp
   ·simp only[upd_ne _ _ e]
    rw[h.uh i hi];omega
  ·refine⟨cg,by rw[uT,if_neg (by omega),if_pos ⟨rfl,jW⟩],?_⟩
   unfold fM;simp only[hp,bP _ _ (show 0≠gs.size by omega),fE,upd_ne _ _ (show 0≠gs.size by omega),upd_same]
   exact⟨_,_,rfl,kG,by rw[jZ];exact tt⟩
  ·by_cases e:i=G.j
   ·subst e
    refine⟨child,by rw[uT,if_pos yk.symm],?_⟩
    unfold WSit;simp only[upd_same,<-yk,fE];exact⟨_,_,rfl,xK,Dh⟩
   ·have vm:i<G.j+1:=hi
    obtain⟨y',dZ,cD⟩:=h.wk i (by omega)
    refine⟨y',by rw[uT,if_neg (by omega),if_neg (by omega)];exact dZ,?_⟩
    exact WSit.congr (G:=G) (by exact upd_ne _ _ e) (by simp only[bP _ _ (show X.N0+i≠gs.size by omega),bP _ _ (show X.N0+i≠0 by omega)]) (by simp only[upd_ne _ _ (show X.N0+i≠gs.size by omega),upd_ne _ _ (show X.N0+i≠0 by omega)]) (by exact rfl) cD
  ·rw[uT,if_neg (by omega),if_neg (by omega)] at hy
   exact h.old g y h1 h2 hy
  ·simp only[bP _ _ (show g≠gs.size by omega),bP _ _ (show g≠0 by omega)]
   exact h.nN g h1 h2
  ·simp only[Aem,Aej] at hg
   simp only[bP _ _ (show g≠gs.size by omega),bP _ _ (show g≠0 by omega)]
   exact h.mw g (by omega)
  ·have hq:=Bv G.st Nt .ku
   have e1:(G.st G.j).q=0:=by rw[Vi];rfl
   have e2:WS.q .ku=0:=rfl;have de:=h.cnt;unfold mY at de |-
   simp only;rw[show sumTo X.n (λa=>(upd G.st G.j .ku a).q)=sumTo X.n (λa=>(G.st a).q) by omega]
   exact de
  ·have cA:=h.az
   unfold nf at cA |-
   simp only;rw[hp] at cA |-
   intro i hi hn;by_cases e:i=G.j
   ·subst e;rw[upd_same];rfl
   ·rw[upd_ne _ _ e];exact cA i hi hn
  ·simp only at e
   rw[e] at bj;cases bj
  ·obtain⟨a1,a2⟩:=old ha
   rw[a2] at hg;exact(h.vP k a a1 hm g hg al).app u
  ·simp only[Aem,Aej]
   unfold Afw at hg;obtain⟨op,ab,e⟩:=Ags.1 hg;rcases Aez ab with⟨_,bG⟩ | ⟨_,dN⟩
   ·have:=h.tj k g (by simp[Afw,bG,e]);omega
   ·rw[<-e];exact Oe op dN
  ·by_cases e:i=G.j
   ·subst e;simp only[upd_same] at hq;cases hq
   ·simp only[upd_ne _ _ e] at hq
    exact(h.kq i hi hq).app λop ab _=>mC op ab
  ·exact h.yI eL k a (old ha).1
 ·have hm:=AZ G.st Nt .ku
  have e1:(G.st G.j).w=6:=by rw[Vi];rfl
  have e2:WS.w .ku=5:=rfl;unfold Gh.mu;simp only;omega
def alM(h:FI X wb gs w t G)(sl:Option (Nat×Nat))(hp:G.mp=.spawn)(hr:X.n - G.j=0){M:aaa}{aL:Abc}{x:Abo}(hx:gs[0]?=some x)(ha:G.act 0=some ⟨M,x,aL⟩)
 (hS:StopA X 0 M x w):od X wb gs w sl t G 0:=by
 obtain⟨_,cg,child,dq,kG,xK,ZZ,eC⟩:=hS;have jX:=h.n0;have rG:=h.jn;have hj:G.j=X.n:=by omega
 have bj:G.cp.gC=true:=by
  cases e:G.cp.gC with
  |true=>rfl
  |false=>exact absurd (h.mc.2 e) (by rw[hp];rintro⟨_,_,e|e⟩<;>cases e)
 have o4:G.cp=.no:=by
  cases e:G.cp with
  |no=>rfl
  |_=>rw[e] at bj;cases bj
 have yk:gs.size=X.N0+X.n:=by have:=h.size;rw[bj] at this;simp at this;omega
 have jW:0<gs.size:=(Aaf.1 hx).1
 have bz:=runT_crowd_spawn (P:=X.P) (sl:=sl) (i:=0) hx (show Abv X.P (0==0) x w=_ from dq)
 rw[nM] at bz;have ya:(#[].push ({g:=0,fn:=x.frame.fn,pos:=x.frame.place,act:=.go gs.size}:Aep) |>.push {g:=gs.size,fn:=child.frame.fn,pos:=x.frame.place,act:=.start})=#[{g:=0,fn:=x.frame.fn,pos:=x.frame.place,act:=.go gs.size},{g:=gs.size,fn:=child.frame.fn,pos:=x.frame.place,act:=.start}]:=rfl
 rw[ya] at bz;obtain⟨T0,tt⟩:=eC.tree;obtain⟨Tc,Dh⟩:=ZZ.tree;have Dv:=h.mw gs.size (Ad4 _);have tO:=h.wt.spawn ha Dv (by omega) (x:={g:=0,fn:=x.frame.fn,pos:=x.frame.place,act:=.go gs.size}) (y:={g:=gs.size,fn:=child.frame.fn,pos:=x.frame.place,act:=.start}) ⟨rfl,rfl⟩ ⟨rfl,rfl⟩ cg child
 have mC:=Xu (N:=gs.size) (x1:={g:=0,fn:=x.frame.fn,pos:=x.frame.place,act:=.go gs.size}) (x2:={g:=gs.size,fn:=child.frame.fn,pos:=x.frame.place,act:=.start}) rfl rfl;generalize hu:(#[{g:=0,fn:=x.frame.fn,pos:=x.frame.place,act:=.go gs.size},{g:=gs.size,fn:=child.frame.fn,pos:=x.frame.place,act:=.start}]:Aeo)=u at bz tO mC;have Oe:∀op∈u,op.g<gs.size+1:=by
  rw[<-hu];intro op ab;simp only[Af0,Af2,Af3,or_false] at ab;rcases ab with rfl|rfl
  ·exact Nat.succ_pos _
  ·exact Nat.lt_succ_self _
 have eL:G.closed=false:=by unfold Gh.closed;rw[o4]
 have old:∀ {k a},Aex (t++u) k=some a->Aex t k=some a/\(t++u).g? k= t.g? k:=by
  intro k a ha;obtain⟨op,ab,cB⟩:=Aey ha;rcases Aez ab with⟨_,bG⟩ | ⟨_,dN⟩
  ·exact⟨by rw[Ae0 bG];exact cB,by simp[Afw,ab,bG]⟩
  ·rw[mC op dN] at cB;cases cB
 refine⟨_,_,_,{G with mp:=.walk X.n [],cp:=.walk X.n,act:=eW (eW G.act 0 (some ⟨M.shared,cg,w⟩)) gs.size (some ⟨M.shared,child,w⟩),tr:=upd (upd G.tr 0 T0) gs.size Tc},bz,?_,?_⟩
 ·refine⟨?_,jX,rG,λ_=>hj,⟨λ_=>rfl,λ_=>⟨_,_,.inl rfl⟩⟩,h.uh,?_,λi hi=>?_,λ_=>?_,λg y h1 h2 hy=>?_,λg h1 h2=>?_,λg hg=>?_,?_,?_,λ⟨_,_,e⟩=>(by cases e),λ⟨r,e⟩=>(by cases e),λ⟨_,_,e⟩=>(by cases e),tO,h.kU,?_,h.neq,h.base,λk a ha hm g hg al=>?_,λk g hg=>?_,λi hi hq=>(h.kq i hi hq).app λop ab _=>mC op ab,λhc k a ha=>h.yI eL k a (old ha).1,λhc=>(by cases hc)⟩
  ·simp only[Aem,Aej,CP.gC];simp;omega
  ·refine⟨cg,by rw[uT,if_neg (by omega),if_pos ⟨rfl,jW⟩],?_⟩
   unfold fM;simp only[bP _ _ (show 0≠gs.size by omega),fE,upd_ne _ _ (show 0≠gs.size by omega),upd_same]
   exact⟨_,_,_,rfl,pV.refl kG,tt⟩
  ·have vm:i<G.j:=hi
   obtain⟨y',dZ,cD⟩:=h.wk i hi;refine⟨y',by rw[uT,if_neg (by omega),if_neg (by omega)];exact dZ,?_⟩
   exact WSit.congr (G:=G) (by exact rfl) (by simp only[bP _ _ (show X.N0+i≠gs.size by omega),bP _ _ (show X.N0+i≠0 by omega)]) (by simp only[upd_ne _ _ (show X.N0+i≠gs.size by omega),upd_ne _ _ (show X.N0+i≠0 by omega)]) (by exact rfl) cD
  ·refine⟨child,by rw[uT,if_pos yk.symm],?_⟩
   unfold CSit;simp only[<-yk,fE,upd_same];exact⟨_,_,rfl,xK,Dh⟩
  ·rw[uT,if_neg (by omega),if_neg (by omega)] at hy
   exact h.old g y h1 h2 hy
  ·simp only[bP _ _ (show g≠gs.size by omega),bP _ _ (show g≠0 by omega)]
   exact h.nN g h1 h2
  ·simp only[Aem,Aej] at hg
   simp only[bP _ _ (show g≠gs.size by omega),bP _ _ (show g≠0 by omega)]
   exact h.mw g (by omega)
  ·have de:=h.cnt
   unfold mY at de |-
   rw[o4] at de;simp only at de |-
   omega
  ·have cA:=h.az
   unfold nf at cA |-
   rw[hp] at cA;refine⟨List.nodup_nil,rfl,λi=>⟨λe=>(by cases e),λ⟨h1,h2,h3⟩=>?_⟩⟩
   rw[cA i h1 h2] at h3;cases h3
  ·obtain⟨s,e⟩:=h.kV
   rw[eL] at e;exact⟨s,e⟩
  ·obtain⟨a1,a2⟩:=old ha
   rw[a2] at hg;exact(h.vP k a a1 hm g hg al).app u
  ·simp only[Aem,Aej]
   unfold Afw at hg;obtain⟨op,ab,e⟩:=Ags.1 hg;rcases Aez ab with⟨_,bG⟩ | ⟨_,dN⟩
   ·have:=h.tj k g (by simp[Afw,bG,e]);omega
   ·rw[<-e];exact Oe op dN
 ·unfold Gh.mu
  simp only[hp,o4,MP.w,CP.w];omega
def WT.close{cL cN:Nat}{act:Nat->Option lH}(h:WT cL cN w t act)(dX:∀k a,Aex t k=some a->a.loc≠ .obj cN){x1 x2:Aep}(hg:x1.g=x2.g)(h1:x1.act=.access ⟨.obj cN,false,true⟩)(h2:x2.act=.close cN){w':Abc}
 (hs:w'.heap.size=w.heap.size)(hk:∀b,b≠cN->w'.heap[b]?=w.heap[b]?)(ht:w'.tape=w.tape)(ho:w'.os=w.os)(hp:w'.output=w.output):WT cL cN w' (t++#[x1,x2]) act:=by
 have mem:∀op∈#[x1,x2],op=x1\/op=x2:=λop ab=>by simpa using ab
 have sp:∀ {k a},Aex (t++#[x1,x2]) k=some a->Aex t k=some a\/a.loc=.obj cN:=by
  intro k a ha;obtain⟨op,ab,cB⟩:=Aey ha;rcases Aez ab with⟨_,bG⟩ | ⟨_,dN⟩
  ·exact .inl (by rw[Ae0 bG];exact cB)
  ·rcases mem op dN with rfl|rfl
   ·rw[h1] at cB;simp[Afo] at cB;subst cB;exact .inr rfl
   ·rw[h2] at cB;cases cB
 refine⟨λg j e=>(h.keep g j e).trans ⟨by rw[hs];exact Ad4 _,λb hb=>hk b (h.low g j e b hb).2.2,ht,ho,hp⟩,h.mq,λg j e b hb=>by rw[hs];exact h.low g j e b hb,λop ab=>?_,h.nd.app λop ab=>?_,λsaid=>?_,λg j e k a ha b hb hc=>?_,by rw[hs];exact h.hL,by rw[hs];exact h.hN⟩
 ·rw[hs]
  rcases Aad.1 ab with ab|ab
  ·exact h.tl op ab
  ·rcases mem op ab with rfl|rfl
   ·rw[h1];exact h.hN
   ·rw[h2];exact h.hN
 ·rcases mem op ab with rfl|rfl
  ·rw[h1];simp
  ·rw[h2];simp
 ·refine noRace_append (g:=x1.g) (h.clean said) (λop ab=>by rcases mem op ab with rfl|rfl;rfl;exact hg.symm) λk a ha op ab b hb hc=>?_
  rcases mem op ab with rfl|rfl
  ·rw[h1] at hb
   simp[Afo] at hb;subst hb;exact absurd hc.1 (dX k a ha)
  ·rw[h2] at hb;cases hb
 ·rcases sp ha with ha|ha
  ·exact(h.perm g j e k a ha b hb hc).app _
  ·exfalso
   have:rh a.loc cN:=.inl ha;obtain rfl:=OP hb this;exact(h.low g j e b (hc.imp id (·.1))).2.2 rfl
def closes(h:FI X wb gs w t G)(sl:Option (Nat×Nat))(hp:G.cp=.walk 0){M:aaa}{aL:Abc}{x:Abo}(hx:gs[X.N0+X.n]?=some x)(ha:G.act (X.N0+X.n)=some ⟨M,x,aL⟩)
 (hS:AtClose X M x w):od X wb gs w sl t G (X.N0+X.n):=by
 obtain⟨hrx,afR,fY⟩:=hS;have jX:=h.n0;have bj:G.cp.gC=false:=by rw[hp];rfl
 have o8:=h.jc bj;have eL:G.closed=false:=by unfold Gh.closed;rw[hp]
 obtain⟨s,hc⟩:=h.kV;rw[eL] at hc;obtain⟨cg,k,dq,hq⟩:=fY s s hc;have nO:∀i,i<X.n->G.st i=.quit:=by
  have de:=h.cnt;unfold mY at de;rw[hp] at de;exact P6 _ _ (by simpa using de)
 have tF:X.N0+X.n<gs.size:=(Aaf.1 hx).1
 have bz:=Aew (P:=X.P) (sl:=sl) (i:=X.N0+X.n) hx (by rw[h.sX];exact dq)
 have rF:Afp (X.N0+X.n) x.frame.fn x.frame.place #[⟨.obj X.cN,false,true⟩,⟨.obj X.cN,true,true⟩]=#[{g:=X.N0+X.n,fn:=x.frame.fn,pos:=x.frame.place,act:=.access ⟨.obj X.cN,false,true⟩},{g:=X.N0+X.n,fn:=x.frame.fn,pos:=x.frame.place,act:=.close X.cN}]:=by
  rw[ofEvents_eq];simp[Afn]
 rw[rF] at bz;have Vc:(w.shut X.cN s s false).heap.size=w.heap.size:=by simp[World.shut]
 have Vd:∀b,b≠X.cN->(w.shut X.cN s s false).heap[b]?=w.heap[b]?:=λb hb=>by simp only[World.shut];rw[Aeh (Agr hb)]
 have Ve:(w.shut X.cN s s false).heap[X.cN]?=some (.chan 0 #[] true s s false):=by simp[World.shut,h.wt.hN]
 have tO:=h.wt.close (h.yI eL) (x1:={g:=X.N0+X.n,fn:=x.frame.fn,pos:=x.frame.place,act:=.access ⟨.obj X.cN,false,true⟩}) (x2:={g:=X.N0+X.n,fn:=x.frame.fn,pos:=x.frame.place,act:=.close X.cN}) rfl rfl rfl (w':=w.shut X.cN s s false) Vc Vd rfl rfl rfl;have aeb:∃s',(w.shut X.cN s s false).heap[X.cL]?=some (.chan 0 #[] false s' s' false):=by
  obtain⟨s',e⟩:=h.kU;exact⟨s',by rw[Vd _ h.neq];exact e⟩
 have aez:cg.status=.running\/cg.status=.finished:=hq.status;have vE:∀y,Ae6 X.P x cg (w.shut X.cN s s false) y=y.again (w.shut X.cN s s false):=by
  intro y;unfold Ae6;rw[afR];rcases aez with e|e<;>rw[e]<;>rfl
 have gq:∀ {i:Nat} {y:Abo},i≠0->i≠X.N0+X.n->gs[i]?=some y->((gs.map (Ae6 X.P x cg (w.shut X.cN s s false))).setIfInBounds (X.N0+X.n) cg)[i]?=some y:=by
  intro i y cR DD hy;rw[Aeh (Agr DD),Aei,hy,Agt]
  have:∃n,Aeu X.P n y:=by
   rcases h.sI (Aaf.1 hy).1 with e| ⟨h1,h2⟩ | ⟨i',bu,rfl⟩ | ⟨e,_⟩
   ·exact absurd e cR
   ·exact⟨_,h.old i y h1 h2 hy⟩
   ·obtain⟨y',dZ,cD⟩:=h.wk i' bu
    rw[hy] at dZ;obtain rfl:=Aea dZ;unfold WSit at cD;rw[nO i' (by omega)] at cD
    exact⟨_,cD.2⟩
   ·exact absurd e DD
  obtain⟨n,hn⟩:=this;rw[woken_quits hn]
 have gc:((gs.map (Ae6 X.P x cg (w.shut X.cN s s false))).setIfInBounds (X.N0+X.n) cg)[X.N0+X.n]?=some cg:=Mn tF cg;have aI:((gs.map (Ae6 X.P x cg (w.shut X.cN s s false))).setIfInBounds (X.N0+X.n) cg).size=gs.size:=by simp
 have ND:∃y f az,(G.mp=.walk f az\/G.mp=.db f az)/\((gs.map (Ae6 X.P x cg (w.shut X.cN s s false))).setIfInBounds (X.N0+X.n) cg)[0]?=some y/\∃M aL y',G.act 0=some ⟨M,y',aL⟩/\pV y y'/\sZ X.P true (nj X f az) (G.tr 0) M y' aL:=by
  obtain⟨y,hy,hs⟩:=h.main;have Tz:((gs.map (Ae6 X.P x cg (w.shut X.cN s s false))).setIfInBounds (X.N0+X.n) cg)[0]?=some (Ae6 X.P x cg (w.shut X.cN s s false) y):=by
   rw[Aeh (by omega),Aei,hy,Agt]
  unfold fM at hs;cases e:G.mp with
  |spawn=>exact absurd (h.mc.2 bj) (by rw[e];rintro⟨_,_,e|e⟩<;>cases e)
  |walk f az=>
   rw[e] at hs;obtain⟨M,aL,y',h1,h2,h3⟩:=hs;exact⟨y,f,az,.inl rfl,by rw[Tz,woken_run h2.2.2.2],M,aL,y',h1,h2,h3⟩
  |db f az=>
   rw[e] at hs;obtain⟨M,aL,y',z,h1,h2,h3⟩:=hs;refine⟨{Ae5 y' #[Ae3 X.cN z] (.recv true) with status:=.running},f,az,.inr rfl,?_,M,aL,y',h1,⟨rfl,rfl,rfl,rfl⟩,.stop h3⟩
   rw[Tz,vE,h2,again_recv_closed Ve]
 obtain⟨y0,f,az,rO,Vo,M0,v0,y0',qf,ik,tt⟩:=ND;refine⟨_,_,_,{G with mp:=.walk f az,cp:=.quit,act:=eW G.act (X.N0+X.n) none,q:=upd G.q (X.N0+X.n) k},bz,?_,?_⟩
 ·refine⟨aI.trans ?_,jX,h.jn,λ_=>o8,⟨λ_=>rfl,λ_=>⟨_,_,.inl rfl⟩⟩,h.uh,⟨y0,Vo,?_⟩,λi hi=>?_,λ_=>⟨cg,gc,?_⟩,λg y h1 h2 hy=>?_,λg h1 h2=>?_,λg hg=>?_,?_,?_,λ⟨_,_,e⟩=>(by cases e),λ⟨r,e⟩=>(by cases e),λ⟨_,_,e⟩=>(by cases e),tO.drop _,aeb,⟨s,Ve⟩,h.neq,⟨by rw[Vc];exact h.base.size,h.base.tape,h.base.os,h.base.out⟩,λi a Nr hm g hg al=>?_,λi g hg=>?_,λi hi pe=>?_,(λhc=>by cases hc),λ_=>?_⟩
  ·rw[h.size,bj];rfl
  ·unfold fM
   simp only[bP _ _ (show 0≠X.N0+X.n by omega)]
   exact⟨M0,v0,y0',qf,ik,tt⟩
  ·have vm:i<G.j:=hi
   obtain⟨y',dZ,cD⟩:=h.wk i hi;refine⟨y',gq (by omega) (by omega) dZ,?_⟩
   exact WSit.congr (G:=G) (by exact rfl) (by simp only[bP _ _ (show X.N0+i≠X.N0+X.n by omega)]) (by exact rfl) (by simp only[upd_ne _ _ (show X.N0+i≠X.N0+X.n by omega)]) cD
  ·unfold CSit
   simp only[fE,upd_same];exact⟨trivial,hq⟩
  ·have qH:gs[g]?=some y:=by
    have al:g<gs.size:=by rw[<-aI];exact(Aaf.1 hy).1
    have e1:=gq (i:=g) (y:=gs[g]) (by omega) (by omega) (Aeg al)
    rw[hy] at e1;rw[Aeg al]
    exact e1.symm
   simp only[upd_ne _ _ (show g≠X.N0+X.n by omega)]
   exact h.old g y h1 h2 qH
  ·simp only[bP _ _ (show g≠X.N0+X.n by omega)]
   exact h.nN g h1 h2
  ·rw[aI] at hg
   simp only[bP _ _ (show g≠X.N0+X.n by omega)]
   exact h.mw g hg
  ·have de:=h.cnt
   unfold mY at de |-
   rw[hp] at de;simpa using de
  ·have cA:=h.az
   unfold nf at cA |-
   rcases rO with e|e<;>rw[e] at cA<;>exact cA
  ·obtain⟨op,ab,cB⟩:=Aey Nr
   rcases Aez ab with⟨_,bG⟩ | ⟨_,dN⟩
   ·exact(h.vP i a (by rw[Ae0 bG];exact cB) hm g (by simpa [Afw,ab,bG] using hg) al).app _
   ·exfalso
    have e:op.g=g:=by simpa [Afw,ab] using hg
    simp only[Af0,Af2,Af3,or_false] at dN;rcases dN with rfl|rfl<;>(simp only at e;omega)
  ·rw[aI]
   unfold Afw at hg;obtain⟨op,ab,e⟩:=Ags.1 hg;rcases Aez ab with⟨_,bG⟩ | ⟨_,dN⟩
   ·exact h.tj i g (by simp[Afw,bG,e])
   ·simp only[Af0,Af2,Af3,or_false] at dN
    rcases dN with rfl|rfl<;>(simp only at e;omega)
  ·refine(h.kq i hi pe).app λop ab e=>?_
   exfalso;simp only[Af0,Af2,Af3,or_false] at ab;rcases ab with rfl|rfl<;>(simp only at e;omega)
  ·have e1:(t++#[({g:=X.N0+X.n,fn:=x.frame.fn,pos:=x.frame.place,act:=.access ⟨.obj X.cN,false,true⟩}:Aep),{g:=X.N0+X.n,fn:=x.frame.fn,pos:=x.frame.place,act:=.close X.cN}])[t.size+1]?=some {g:=X.N0+X.n,fn:=x.frame.fn,pos:=x.frame.place,act:=.close X.cN}:=by
    rw[Aek (by omega)];simp
   refine⟨t.size+1,_,e1,rfl,rfl,λi a Nr g hg jU=>?_⟩
   obtain⟨op,ab,cB⟩:=Aey Nr;rcases Aez ab with⟨_,bG⟩ | ⟨aoj,dN⟩
   ·have D5:Aex t i=some a:=by rw[Ae0 bG];exact cB
    have As: t.g? i=some g:=by simpa [Afw,ab,bG] using hg
    have al:=h.tj i g As;have da:Knows t (X.N0+X.n) i:=by
     rcases h.sI al with e| ⟨_,e⟩ | ⟨i',bu,e⟩ | ⟨e,_⟩
     ·omega
     ·omega
     ·subst e;exact h.kq i' (by omega) (nO i' (by omega)) i a D5 As
     ·subst e;exact sU.self t _ i a D5 As
    exact .inr (da.hb_new (by omega) e1 rfl)
   ·have Dz:i=t.size:=by
     have:= Ae8 ab;simp at this;by_cases e:i=t.size
     ·exact e
     ·have e3:i=t.size+1:=by omega
      subst e3;rw[e1] at ab;obtain rfl:=Aea ab;cases cB
    subst Dz;exact .inr (hb_po (by omega) ab e1 (by simp only[Af0,Af2,Af3,or_false] at dN;rcases dN with rfl|rfl<;>rfl))
 ·unfold Gh.mu
  simp only[hp,CP.w,MP.w];rcases rO with e|e<;>rw[e]<;>simp only[MP.w]<;>omega
def Ends(X:Pm)(wb:Abc)(aT:Array Abo)(w':Abc)(t':Aeo):Prop:=
 ∃q' g' M az,Fr X.P aT w' t' q' g'/\X.End az M g' w'/\az.Nodup/\(∀i,i∈az↔i<X.n/\X.eU i=true)/\Base wb w'/\∀b,M.has b->b<w'.heap.size
def ends(h:FI X wb gs w t G)(sl:Option (Nat×Nat))(fY:G.closed=true){f:Nat}{az:List Nat}(hp:G.mp=.walk f az){M:aaa}{v0:Abc}{x y:Abo}(h0:gs[0]?=some x)(ha:G.act 0=some ⟨M,y,v0⟩)(ik:pV x y)
 (hR:nj X f az M y w):∃aT u,runT X.P (Aev gs w sl) 0=(.next (Aev aT w sl),u)/\Ends X wb aT w (t++u):=by
 obtain⟨_,_,z,dq,qk⟩:=hR.at;have jX:=h.n0;have bj:=CP.aaP fY;have o8:=h.jc bj;have nO:=h.Gk fY;obtain⟨s,hc⟩:=h.kV;rw[fY] at hc;have xX:Aer (gs.setIfInBounds 0 ph) X.cN true=[]:=by
  refine Afh λj y hy=>?_
  rcases Aff gs _ j y hy with⟨_,rfl⟩ | ⟨hj,hy⟩
  ·exact Afg _ _
  ·cases hl:Ae9 y X.cN true with
   |nil=>rfl
   |cons a l=>
    exfalso;obtain⟨e,g,v,z',hyp⟩:=O6 h (m:=a) hy (by rw[hl];simp)
    rw[hyp] at hy;obtain⟨i,_,_,_,hi,_,aQ,_⟩:=h.Lt hy;rw[nO i (by omega)] at aQ
    cases aQ
 have pf:Abv X.P (0==0) x w=.comm y #[Ae3 X.cN z] true (.recv true) w #[]:=by
  rw[Afj ik.1 ik.2.1 ik.2.2.1];exact dq
 have bz:=crowd_recv_closed (P:=X.P) (sl:=sl) h0 pf hc xX;rw[nM,Ael] at bz;have jW:0<gs.size:=(Aaf.1 h0).1
 let y1:Aep:={g:=0,fn:=y.frame.fn,pos:=y.frame.place,act:=.recvClosed X.cN}
 have hm:=h.wt.mute (u:=#[y1]) (w':=w) (λop ab=>by
  simp only[Af0,Af1] at ab;subst ab;exact⟨rfl,h.wt.hN,by simp[y1],by simp[y1]⟩) rfl (λ_ _ _=>rfl) rfl rfl rfl
 have e1:(t++#[y1])[t.size]?=some y1:=by rw[Aek (Ad4 _)];simp
 obtain⟨c,zc,c1,c2,c3,c4⟩:=h.CN fY;have ec:(t++#[y1])[c]?=some zc:=by rw[Ae7 (Ae8 c1)];exact c1
 have Uy:∀k a,Aex (t++#[y1]) k=some a->a.loc.isMemory=true->Knows (t++#[y1]) 0 k:=by
  intro k a vp hmm;obtain⟨op,ab,cB⟩:=Aey vp;rcases Aez ab with⟨hk,bG⟩ | ⟨_,dN⟩
  ·have D5:Aex t k=some a:=by rw[Ae0 bG];exact cB
   by_cases hg:op.g<X.N0
   ·exact(h.vP k a D5 hmm op.g (by simp[Afw,bG]) hg).app _
   ·have hb:=c4 k a D5 op.g (by simp[Afw,bG]) (by omega)
    have abI:HappensBefore (t++#[y1]) c t.size:=.single (.inr ⟨.closed (c:=X.cN) (by rw[act?_of ec,c2]) (by rw[act?_of e1]),IA hm.nd ec,IA hm.nd e1⟩)
    exact⟨t.size,y1,e1,rfl,.inr ((hb.app #[y1]).hb abI)⟩
  ·simp only[Af0,Af1] at dN
   subst dN;cases cB
 have Aq:∀op∈t++#[y1],op.g<(gs.setIfInBounds 0 (Ae2 y (Ae4 true z false))).size:=by
  intro op ab;rw[Aej];obtain⟨k,hk⟩:=Array.getElem?_of_mem ab
  rcases Aez hk with⟨_,rH⟩ | ⟨_,rH⟩
  ·exact h.tj k op.g (by simp[Afw,rH])
  ·simp only[Af0,Af1] at rH
   subst rH;exact jW
 refine⟨_,_,bz,G.q,Ae2 y (Ae4 true z false),M,az,⟨by rw[one_set,if_pos ⟨rfl,jW⟩];rfl,λi xi hi Ee=>?_,⟨hm.clean,λk a vp hmm=>.inl (Uy k a vp hmm),λk g hg aw de=>?_,EG hm.nd 0,hm.tl⟩,hm.nd,Aq⟩,qk,?_,?_,h.base,λb hb=>(h.wt.low 0 _ ha b hb).1⟩
 ·rw[one_set,if_neg (by omega)] at Ee
  rcases h.sI (Aaf.1 Ee).1 with e| ⟨h1,h2⟩ | ⟨i',bu,rfl⟩ | ⟨rfl,_⟩
  ·omega
  ·exact h.old i xi h1 h2 Ee
  ·obtain⟨y',dZ,cD⟩:=h.wk i' bu
   rw[Ee] at dZ;obtain rfl:=Aea dZ;unfold WSit at cD;rw[nO i' (by omega)] at cD
   exact cD.2
  ·obtain⟨y',dZ,cD⟩:=h.cl bj
   rw[Ee] at dZ;obtain rfl:=Aea dZ;unfold CSit at cD;unfold Gh.closed at fY;cases e:G.cp with
   |quit=>rw[e] at cD;exact cD.2
   |_=>rw[e] at fY;cases fY
 ·obtain⟨a,ha,hmm,_⟩:=de
  obtain⟨q,z',tH,tI,NW⟩:=Uy k a ha hmm;rcases NW with rfl|NW
  ·exfalso
   apply aw;have:(t++#[y1]).g? k=some z'.g:=by unfold Afw;rw[tH];rfl
   have e:some z'.g=some g:=this.symm.trans hg;rw[tI] at e;exact(Aea e).symm
  ·exact⟨q,by unfold Afw;rw[tH,Agt,tI],NW⟩
 ·have cA:=h.az
  unfold nf at cA;rw[hp] at cA;exact cA.1
 ·have cA:=h.az
  unfold nf at cA;rw[hp] at cA;intro i;rw[cA.2.2 i];exact⟨λ⟨a,b,_⟩=>⟨a,b⟩,λ⟨a,b⟩=>⟨a,b,by rw[nO i a];rfl⟩⟩
def Gc(X:Pm)(G' G:Gh):Prop:=
 G'.mu X<G.mu X\/(G'.mu X=G.mu X/\(zy (X.N0+X.n+1) G'.tr G.tr\/(G'.tr=G.tr/\sumTo (X.N0+X.n+1) G'.q<sumTo (X.N0+X.n+1) G.q)))
def acy(h:FI X wb gs w t G)(sl:Option (Nat×Nat)):
 (∃aT w' bm u,stepT X.P (Aev gs w sl)=(.next (Aev aT w' bm),u)/\Ends X wb aT w' (t++u))\/
 ∃aT w' bm u G',stepT X.P (Aev gs w sl)=(.next (Aev aT w' bm),u)/\FI X wb aT w' (t++u) G'/\Gc X G' G:=by
 obtain⟨k,x,d,bm,hx,bz,aQ⟩:=crowd_pick (P:=X.P) (w:=w) (sl:=sl) h.awake h.alx;have h1:=h.at d;have jX:=h.n0;have rG:=h.jn;have pX:od X wb gs (w.at d) bm t G k->∃aT w' bm u G',stepT X.P (Aev gs w sl)=(.next (Aev aT w' bm),u)/\FI X wb aT w' (t++u) G'/\Gc X G' G:=by
  rintro⟨aT,w',u,G',r1,r2,r3⟩;exact⟨aT,w',bm,u,G',aQ.trans r1,r2,.inl r3⟩
 have Cz:∀ {j:lH} {T':Tree} {g':Abo} {w':Abc} {es:Array Event},G.act k=some j->Abv X.P (k==0) x (w.at d)=.go g' w' es->eO j.M (w.at d) w' es->Tree.lt T' (G.tr k)->k<X.N0+X.n+1->
  Rp X {G with act:=eW G.act k (some ⟨j.M.grow (w.at d) w',g',w'⟩),tr:=upd G.tr k T'} k g'->∃aT w' bm u G',stepT X.P (Aev gs w sl)=(.next (Aev aT w' bm),u)/\FI X wb aT w' (t++u) G'/\Gc X G' G:=by
  intro j T' g' w' es ot dq hd hT hk qF;refine⟨_,w',bm,_,_,aQ.trans (Aew hx dq),h1.own hx ot hd T' _ _ qF,.inr ⟨rfl,.inl ⟨k,hk,?_,λi hi=>?_⟩⟩⟩
  ·show Tree.lt (upd G.tr k T' k) _
   rw[upd_same];exact hT
  ·exact upd_ne _ _ hi
 have LB:Aeu X.P (G.q k) x->k<X.N0+X.n+1->k≠0->((0<k/\k<X.N0)\/(∃i,i<G.j/\k=X.N0+i/\G.st i=.quit)\/(k=X.N0+X.n/\G.closed=true))->∃aT w' bm u G',stepT X.P (Aev gs w sl)=(.next (Aev aT w' bm),u)/\FI X wb aT w' (t++u) G'/\Gc X G' G:=by
  intro hq hk iM qF;have aeI:(k==0)=false:=by simpa using iM
  cases NY:G.q k with
  |zero=>rw[NY] at hq;rw[show x.status=.finished from hq] at bz;cases bz
  |succ m=>
   rw[NY] at hq;rcases hq with hf| ⟨_,g',D3,mD⟩
   ·rw[hf] at bz;cases bz
   have hr:=Aew (P:=X.P) (sl:=bm) (i:=k) hx (by rw[aeI];exact D3 (w.at d))
   rw[nM] at hr;refine⟨_,w.at d,bm,#[],{G with q:=upd G.q k m},aQ.trans hr,by rw[Aag];exact h1.ajL hx qF mD,.inr ⟨rfl,.inr ⟨rfl,?_⟩⟩⟩
   have Zb:sumTo (X.N0+X.n+1) (upd G.q k m)+(m+1)=sumTo (X.N0+X.n+1) G.q+m:=by
    have:=sumTo_upd G.q m id hk;simpa [NY] using this
   show sumTo (X.N0+X.n+1) (upd G.q k m)<_;omega
 rcases h.sI (Aaf.1 hx).1 with rfl| ⟨k1,k2⟩ | ⟨i,hi,rfl⟩ | ⟨rfl,bj⟩
 ·
  obtain⟨x',jz,hs⟩:=h.main;rw[hx] at jz;obtain rfl:=Aea jz;unfold fM at hs;cases e:G.mp with
  |spawn=>
   rw[e] at hs;obtain⟨M,aL,ha,hr,hT⟩:=hs;have hk:=h1.wt.keep 0 _ ha;rcases hT.rv with lS| ⟨_,hgo⟩
   ·right
    cases jZ:X.n - G.j with
    |zero=>exact pX (alM h1 bm e jZ hx ha (by rw[jZ] at lS;exact lS _ hk))
    |succ r=>exact pX (alN h1 bm e jZ hx ha (by rw[jZ] at lS;exact lS _ hk))
   ·right
    obtain⟨T',g',w',es,al,dq,hd,lO⟩:=hgo _ hk;refine Cz ha dq hd al (by omega) (.inl ⟨rfl,?_⟩)
    unfold fM;simp only[e,fE,upd_same];refine⟨_,_,rfl,?_,lO⟩
    rcases lO.rv with dD| ⟨jZ,_⟩
    ·have:=dD _ (bN.refl _ _)
     revert this
     cases X.n - G.j with
     |zero=>exactλh=>h.1
     |succ r=>exactλh=>h.1
    ·exact jZ
  |walk f az=>
   rw[e] at hs;obtain⟨M,aL,y,ha,ik,hT⟩:=hs;have hk:=h1.wt.keep 0 _ ha;rcases hT.rv with lS| ⟨_,hgo⟩
   ·by_cases fY:G.closed=true
    ·left
     obtain⟨aT,u,r1,r2⟩:=ends h1 bm fY e hx ha ik (lS _ hk);exact⟨aT,_,bm,u,aQ.trans r1,r2⟩
    ·right
     by_cases hex:∃i,i<X.n/\G.st i=.iR
     ·exact pX (ajV h1 bm e hx ha ik lS hex)
     ·exact pX (ajW h1 bm e hx ha ik lS (by simpa using fY) hex)
   ·right
    obtain⟨T',g',w',es,al,dq,hd,lO⟩:=hgo _ hk;have afB:Abv X.P (0==0) x (w.at d)=.go g' w' es:=by rw[Afj ik.1 ik.2.1 ik.2.2.1];exact dq
    refine Cz ha afB hd al (by omega) (.inl ⟨rfl,?_⟩)
    unfold fM;simp only[e,fE,upd_same];refine⟨_,_,_,rfl,pV.refl ?_,lO⟩
    rcases lO.rv with dD| ⟨jZ,_⟩
    ·exact(dD _ (bN.refl _ _)).at.1
    ·exact jZ
  |db f az=>
   rw[e] at hs;obtain⟨M,aL,y,z,ha,hr,hT⟩:=hs;rw[hr] at bz;cases bz
 ·right;exact LB (h.old k x k1 k2 hx) (by omega) (by omega) (.inl ⟨k1,k2⟩)
 ·
  right;obtain⟨x',jz,hs⟩:=h.wk i hi;rw[hx] at jz;obtain rfl:=Aea jz;have qh:(X.N0+i==0)=false:=h.sX i;have XI:∀ {M:aaa} {aL:Abc},wI X G i->G.act (X.N0+i)=some ⟨M,x,aL⟩->W2 X M x (w.at d)->od X wb gs (w.at d) bm t G (X.N0+i):=by
   intro M aL hd ha hW;by_cases hp:∃r,G.cp=.db r
   ·obtain⟨r,hp⟩:=hp
    exact alf h1 bm hi hd hx ha hW hp
   ·exact alg h1 bm hi hd hx ha hW hp
  unfold WSit at hs;cases e:G.st i with
  |no=>rw[e] at hs;exact hs.elim
  |ku=>
   rw[e] at hs;obtain⟨M,aL,ha,hr,hT⟩:=hs;have hk:=h1.wt.keep _ _ ha;rcases hT.rv with lS| ⟨_,hgo⟩
   ·rcases lS _ hk with⟨hn,hS⟩ | ⟨hn,hS⟩
    ·by_cases hp:∃f az,G.mp=.db f az
     ·obtain⟨f,az,hp⟩:=hp
      exact pX (alh h1 bm hi e hx ha hn hS hp)
     ·exact pX (ali h1 bm hi e hx ha hn hS hp)
    ·exact pX (XI (.inr ⟨e,hn⟩) ha hS)
   ·obtain⟨T',g',w',es,al,dq,hd,lO⟩:=hgo _ hk
    refine Cz ha (by rw[qh];exact dq) hd al (by omega) (.inr (.inl ⟨i,hi,rfl,?_⟩))
    unfold WSit;simp only[e,fE,upd_same];refine⟨_,_,rfl,?_,lO⟩
    rcases lO.rv with dD| ⟨jZ,_⟩
    ·rcases dD _ (bN.refl _ _) with⟨_,hS⟩ | ⟨_,hS⟩
     ·exact hS.1
     ·exact hS.1
    ·exact jZ
  |iR=>
   rw[e] at hs;obtain⟨M,aL,y,z,ha,hr,_⟩:=hs;rw[hr] at bz;cases bz
  |iz=>
   rw[e] at hs;obtain⟨M,aL,ha,hr,hT⟩:=hs;have hk:=h1.wt.keep _ _ ha;rcases hT.rv with lS| ⟨_,hgo⟩
   ·exact pX (XI (.inl e) ha (lS _ hk))
   ·obtain⟨T',g',w',es,al,dq,hd,lO⟩:=hgo _ hk
    refine Cz ha (by rw[qh];exact dq) hd al (by omega) (.inr (.inl ⟨i,hi,rfl,?_⟩))
    unfold WSit;simp only[e,fE,upd_same];refine⟨_,_,rfl,?_,lO⟩
    rcases lO.rv with dD| ⟨jZ,_⟩
    ·exact(dD _ (bN.refl _ _)).1
    ·exact jZ
  |iu=>
   rw[e] at hs;obtain⟨M,aL,y,z,ha,hr,_⟩:=hs;rw[hr] at bz;cases bz
  |quit=>
   rw[e] at hs;exact LB hs.2 (by omega) (by omega) (.inr (.inl ⟨i,hi,rfl,e⟩))
 ·
  right;obtain⟨x',jz,hs⟩:=h.cl bj;rw[hx] at jz;obtain rfl:=Aea jz;have qh:(X.N0+X.n==0)=false:=h.sX X.n;unfold CSit at hs;cases e:G.cp with
  |no=>rw[e] at hs;exact hs.elim
  |walk r=>
   rw[e] at hs;obtain⟨M,aL,ha,hr,hT⟩:=hs;have hk:=h1.wt.keep _ _ ha;rcases hT.rv with lS| ⟨_,hgo⟩
   ·cases r with
    |zero=>exact pX (closes h1 bm e hx ha (lS _ hk))
    |succ r=>
     by_cases hex:∃i,i<X.n/\G.st i=.iu
     ·exact pX (ajT h1 bm e hx ha (lS _ hk) hex)
     ·exact pX (ajU h1 bm e hx ha (lS _ hk) hex)
   ·obtain⟨T',g',w',es,al,dq,hd,lO⟩:=hgo _ hk
    refine Cz ha (by rw[qh];exact dq) hd al (by omega) (.inr (.inr ⟨rfl,bj,?_⟩))
    unfold CSit;simp only[e,fE,upd_same];refine⟨_,_,rfl,?_,lO⟩
    rcases lO.rv with dD| ⟨jZ,_⟩
    ·have:=dD _ (bN.refl _ _)
     revert this
     cases r with
     |zero=>exactλh=>h.1
     |succ r=>exactλh=>h.1
    ·exact jZ
  |db r=>
   rw[e] at hs;obtain⟨r',M,aL,y,z,_,ha,hr,_⟩:=hs;rw[hr] at bz;cases bz
  |quit=>
   rw[e] at hs;exact LB hs.2 (by omega) (by omega) (.inr (.inr ⟨rfl,by unfold Gh.closed;rw[e]⟩))
def acx:∀ {gs:Array Abo} {w:Abc} {t:Aeo} {G:Gh} (sl:Option (Nat×Nat)),FI X wb gs w t G->
 ∃N aT w' bm t',runNT X.P N (Aev gs w sl) t=(.next (Aev aT w' bm),t')/\Ends X wb aT w' t':=by
 have key:∀(m:Nat) (tr:Nat->Tree),Acc (zy (X.N0+X.n+1)) tr->∀(s:Nat) {gs:Array Abo} {w:Abc} {t:Aeo} {G:Gh} (sl:Option (Nat×Nat)),G.mu X=m->G.tr=tr->sumTo (X.N0+X.n+1) G.q=s->FI X wb gs w t G->
  ∃N aT w' bm t',runNT X.P N (Aev gs w sl) t=(.next (Aev aT w' bm),t')/\Ends X wb aT w' t':=by
  intro m;induction m using Nat.strongRecOn with
  |_ m ihm=>
   intro tr Dk;induction Dk with
   |intro tr _ af6=>
    intro s;induction s using Nat.strongRecOn with
    |_ s ihs=>
     intro gs w t G sl mC pg Zb hF;rcases acy hF sl with⟨aT,w',bm,u,r1,r2⟩ | ⟨aT,w',bm,u,G',r1,r2,r3⟩
     ·exact⟨1,aT,w',bm,t++u,by simp only[runNT,r1],r2⟩
     ·have fin:(∃N GS bq mQ t',runNT X.P N (Aev aT w' bm) (t++u)=(.next (Aev GS bq mQ),t')/\Ends X wb GS bq t')->∃N aT w' bm t',runNT X.P N (Aev gs w sl) t=(.next (Aev aT w' bm),t')/\Ends X wb aT w' t':=by
       rintro⟨N,GS,bq,mQ,t',q1,q2⟩;exact⟨N+1,GS,bq,mQ,t',by simp only[runNT,r1];exact q1,q2⟩
      apply fin;rcases r3 with al| ⟨he,dq| ⟨afJ,al⟩⟩
      ·exact ihm _ (by rw[<-mC];exact al) G'.tr (Xv _ _) _ bm rfl rfl rfl r2
      ·exact af6 G'.tr (by rw[<-pg];exact dq) _ bm (he.trans mC) rfl rfl r2
      ·exact ihs _ (by rw[<-Zb];exact al) bm (he.trans mC) (afJ.trans pg) rfl r2
 exactλ{gs w t G} sl hF=>key _ _ (Xv _ _) _ sl rfl rfl rfl hF
end
end Go.Sim
namespace Go.Tw
open Go Go.Proofs Go.Sim
class aR where
 I7:Func
variable [aR]
def dead:Func:={Tryz.f38 with name:= "left out",body:=none}
def bad:List Nat:=[0,1,21,38,120,121,124,218,219,220,221,222,223,224,225,226,227,228,229,230,231,232,233,237,238,239]
def vH(f:Nat):Bool:=bad.contains f
def F:Array Func:=(Afr.funcs.mapIdx λi fn=>if vH i then dead else fn).setIfInBounds 21 aR.I7
def prog:Abe:=tw Afr F
def amt(P:Abe)(F:Array Func):(tw P F).funcs=F:=rfl
def Pe:prog.funcs=F:=amt _ _
def ZN{P:Abe}{f:Nat}{fn:Func}(h:P.funcs[f]?=some fn)(hb:fn.body.isSome=true):∀g,P.funcs[f]?=some g->g.body.isSome=true:=by
 intro g hg;rw[h] at hg;cases hg;exact hb
def QU(f:Nat)(h:vH f=false):F[f]?=Afr.funcs[f]?:=by
 have rC:21≠f:=by rintro rfl;exact absurd h (by decide)
 unfold F;rw[Aai,if_neg rC,Aen]
 cases Afr.funcs[f]? with
 |none=>rfl
 |some fn=>simp only[Agt,h,Bool.false_eq_true,if_false]
def Ys(f:Nat)(h:vH f=true)(rC:21≠f):F[f]?=none\/F[f]?=some dead:=by
 unfold F;rw[Aai,if_neg rC,Aen]
 cases Afr.funcs[f]? with
 |none=>exact .inl rfl
 |some fn=>right;simp only[Agt,h,if_true]
def zh:F[21]?=some aR.I7:=by
 have hs:21<Afr.funcs.size:=by
  apply Aa1;intro h;have:=Tryz.func21;rw[Aan (by omega)] at this;exact absurd this (by simp)
 unfold F;rw[Aai,if_pos rfl,if_pos (by simpa using hs)]
def get(f:Nat)(h:vH f=false):prog.funcs[f]?=Afr.funcs[f]?:=by rw[Pe];exact QU f h
def gF{f:Nat}{g:Func}(h:vH f=false)(k:Afr.funcs[f]?=some g):prog.funcs[f]?=some g:=(get f h).trans k
def func20:=gF rfl Tryz.func20
def func22:=gF rfl Tryz.func22
def func24:=gF rfl Tryz.func24
def func26:=gF rfl Tryz.func26
def func28:=gF rfl Tryz.func28
def func30:=gF rfl Tryz.func30
def func31:=gF rfl Tryz.func31
def func33:=gF rfl Tryz.func33
def func35:=gF rfl Tryz.func35
def func36:=gF rfl Tryz.func36
def func40:=gF rfl Tryz.func40
def func41:=gF rfl Tryz.func41
def func42:=gF rfl Tryz.func42
def func43:=gF rfl Tryz.func43
def func47:=gF rfl Tryz.func47
def func48:=gF rfl Tryz.func48
def func49:=gF rfl Tryz.func49
def func50:=gF rfl Tryz.func50
def func51:=gF rfl Tryz.func51
def func53:=gF rfl Tryz.func53
def func56:=gF rfl Tryz.func56
def func57:=gF rfl Tryz.func57
def func61:=gF rfl Tryz.func61
def func62:=gF rfl Tryz.func62
def func66:=gF rfl Tryz.func66
def func67:=gF rfl Tryz.func67
def func68:=gF rfl Tryz.func68
def func69:=gF rfl Tryz.func69
def func75:=gF rfl Tryz.func75
def func94:=gF rfl Tryz.func94
def func95:=gF rfl Tryz.func95
def func96:=gF rfl Tryz.func96
def func98:=gF rfl Tryz.func98
def func99:=gF rfl Tryz.func99
def func100:=gF rfl Tryz.func100
def func101:=gF rfl Tryz.func101
def func102:=gF rfl Tryz.func102
def func104:=gF rfl Tryz.func104
def func107:=gF rfl Tryz.func107
def func108:=gF rfl Tryz.func108
def func109:=gF rfl Tryz.func109
def func110:=gF rfl Tryz.func110
def func113:=gF rfl Tryz.func113
def func114:=gF rfl Tryz.func114
def func115:=gF rfl Tryz.func115
def func117:=gF rfl Tryz.func117
def func119:=gF rfl Tryz.func119
def func122:=gF rfl Tryz.func122
def func123:=gF rfl Tryz.func123
def func126:=gF rfl Tryz.func126
def func127:=gF rfl Tryz.func127
def func128:=gF rfl Tryz.func128
def func132:=gF rfl Tryz.func132
def func133:=gF rfl Tryz.func133
def func134:=gF rfl Tryz.func134
def func135:=gF rfl Tryz.func135
def func136:=gF rfl Tryz.func136
def func138:=gF rfl Tryz.func138
def func139:=gF rfl Tryz.func139
def func141:=gF rfl Tryz.func141
def func142:=gF rfl Tryz.func142
def func143:=gF rfl Tryz.func143
def func144:=gF rfl Tryz.func144
def func145:=gF rfl Tryz.func145
def func146:=gF rfl Tryz.func146
def func147:=gF rfl Tryz.func147
def func150:=gF rfl Tryz.func150
def func154:=gF rfl Tryz.func154
def func155:=gF rfl Tryz.func155
def func158:=gF rfl Tryz.func158
def func162:=gF rfl Tryz.func162
def func163:=gF rfl Tryz.func163
def func164:=gF rfl Tryz.func164
def func165:=gF rfl Tryz.func165
def func166:=gF rfl Tryz.func166
def func169:=gF rfl Tryz.func169
def func170:=gF rfl Tryz.func170
def func171:=gF rfl Tryz.func171
def func172:=gF rfl Tryz.func172
def func173:=gF rfl Tryz.func173
def func174:=gF rfl Tryz.func174
def func175:=gF rfl Tryz.func175
def func176:=gF rfl Tryz.func176
def func177:=gF rfl Tryz.func177
def func178:=gF rfl Tryz.func178
def func179:=gF rfl Tryz.func179
def func180:=gF rfl Tryz.func180
def func181:=gF rfl Tryz.func181
def func182:=gF rfl Tryz.func182
def func183:=gF rfl Tryz.func183
def func184:=gF rfl Tryz.func184
def func185:=gF rfl Tryz.func185
def func186:=gF rfl Tryz.func186
def func187:=gF rfl Tryz.func187
def func188:=gF rfl Tryz.func188
def func189:=gF rfl Tryz.func189
def func190:=gF rfl Tryz.func190
def func191:=gF rfl Tryz.func191
def func192:=gF rfl Tryz.func192
def func193:=gF rfl Tryz.func193
def func194:=gF rfl Tryz.func194
def func195:=gF rfl Tryz.func195
def func196:=gF rfl Tryz.func196
def func197:=gF rfl Tryz.func197
def func198:=gF rfl Tryz.func198
def func199:=gF rfl Tryz.func199
def func200:=gF rfl Tryz.func200
def func201:=gF rfl Tryz.func201
def func202:=gF rfl Tryz.func202
def func203:=gF rfl Tryz.func203
def func204:=gF rfl Tryz.func204
def func205:=gF rfl Tryz.func205
def func206:=gF rfl Tryz.func206
def func207:=gF rfl Tryz.func207
def func208:=gF rfl Tryz.func208
def func209:=gF rfl Tryz.func209
def func210:=gF rfl Tryz.func210
def func211:=gF rfl Tryz.func211
def func212:=gF rfl Tryz.func212
def func213:=gF rfl Tryz.func213
def func214:=gF rfl Tryz.func214
def func215:=gF rfl Tryz.func215
def func216:=gF rfl Tryz.func216
def func217:=gF rfl Tryz.func217
def func234:=gF rfl Tryz.func234
def func235:=gF rfl Tryz.func235
def func236:=gF rfl Tryz.func236
section
variable (P:Abe)(F:Array Func)
def XR(t:Aa8)(w:Abc):(typeInfo t).run (tw P F) w=(typeInfo t).run P w:=by
 simp only[typeInfo,Go.program,Sem.run,bind,Sem.bind,ly];cases P.info? t<;>rfl
def XP(t:Aa8)(w:Abc):(Go.underlying t).run (tw P F) w=(Go.underlying t).run P w:=by
 simp only[Go.underlying,Go.program,Sem.run,bind,Sem.bind,jH];cases P.underlying t<;>rfl
def amv(t:Aa8)(w:Abc):(sizeOf t).run (tw P F) w=(sizeOf t).run P w:=by
 simp only[sizeOf,Afu,XR,Afv]
def amy(t:Aa8)(w:Abc):(zeroValue t).run (tw P F) w=(zeroValue t).run P w:=by
 unfold zeroValue;rw[Afu,Afu,XR];congr 1;funext i w;cases i.zero with
 |none=>simp only[unsupported,Sem.run]
 |some v=>simp only[Afv]
def amu(t:Aa8)(w:Abc):(isAgg t).run (tw P F) w=(isAgg t).run P w:=by
 unfold isAgg;rw[Afu,Afu,XP];congr 1;funext i w;cases i<;>simp only[Afv]
def amr{P:Abe}{F:Array Func}{f:Nat}(h:(tw P F).funcs[f]?=P.funcs[f]?)(args:Array Value)(w:Abc)(hs:∀fn,P.funcs[f]?=some fn->fn.body.isSome=true){r:Result Next}(hr:(callFunc f args).run P w=r):(callFunc f args).run (tw P F) w=r:=by
 rw[<-hr];simp only[callFunc,Go.program,Sem.run,bind,Sem.bind,h];cases e:P.funcs[f]? with
 |none=>rfl
 |some fn=>
  have hb:=hs fn e;obtain⟨c,hc⟩:=Option.isSome_iff_exists.1 hb;simp only[hc,Option.isNone_some,Bool.false_eq_true,if_false];split<;>rfl
end
@[simp]theorem Jh(t:Aa8):prog.underlying t=Afr.underlying t:=jH _ _ _
@[simp]theorem pB(t:Aa8): prog.info? t= Afr.info? t:=ly _ _ _
@[simp]theorem apk(t:Aa8)(w:Abc):(Go.underlying t).run prog w=(Go.underlying t).run Afr w:=XP _ _ _ _
@[simp]theorem amo(t:Aa8)(w:Abc):(sizeOf t).run prog w=(sizeOf t).run Afr w:=amv _ _ _ _
@[simp]theorem Qb(t:Aa8)(w:Abc):(zeroValue t).run prog w=(zeroValue t).run Afr w:=amy _ _ _ _
@[simp]theorem amn(t:Aa8)(w:Abc):(isAgg t).run prog w=(isAgg t).run Afr w:=amu _ _ _ _
@[simp]theorem XK(t:Aa8):prog.stoodInHeld t=Afr.stoodInHeld t:=XQ _ _ _
@[simp]theorem apj(d:Nat)(t:Aa8):prog.eqGuardType d t=Afr.eqGuardType d t:=Jk _ _ _ _
@[simp]theorem api:prog.depth=Afr.depth:=BF _ _
def aU{f:Nat}{fn:Func}(h:vH f=false)(hf:Afr.funcs[f]?=some fn)(hb:fn.body.isSome=true)(args:Array Value)(w:Abc)(hc:(callFunc f args).run Afr w=.ok (.enter f args) w):(callFunc f args).run prog w=.ok (.enter f args) w:=amr (get f h) args w (ZN hf hb) hc
variable (args:Array Value)(w:Abc)
@[simp]def call20:=aU rfl Tryz.func20 rfl args w (Tryz.call20 args w)
@[simp]def call22:=aU rfl Tryz.func22 rfl args w (Tryz.call22 args w)
@[simp]def call24:=aU rfl Tryz.func24 rfl args w (Tryz.call24 args w)
@[simp]def call26:=aU rfl Tryz.func26 rfl args w (Tryz.call26 args w)
@[simp]def call28:=aU rfl Tryz.func28 rfl args w (Tryz.call28 args w)
@[simp]def call30:=aU rfl Tryz.func30 rfl args w (Tryz.call30 args w)
@[simp]def call31:=aU rfl Tryz.func31 rfl args w (Tryz.call31 args w)
@[simp]def call33:=aU rfl Tryz.func33 rfl args w (Tryz.call33 args w)
@[simp]def call35:=aU rfl Tryz.func35 rfl args w (Tryz.call35 args w)
@[simp]def call36:=aU rfl Tryz.func36 rfl args w (Tryz.call36 args w)
@[simp]def call40:=aU rfl Tryz.func40 rfl args w (Tryz.call40 args w)
@[simp]def call41:=aU rfl Tryz.func41 rfl args w (Tryz.call41 args w)
@[simp]def call42:=aU rfl Tryz.func42 rfl args w (Tryz.call42 args w)
@[simp]def call43:=aU rfl Tryz.func43 rfl args w (Tryz.call43 args w)
@[simp]def call47:=aU rfl Tryz.func47 rfl args w (Tryz.call47 args w)
@[simp]def call48:=aU rfl Tryz.func48 rfl args w (Tryz.call48 args w)
@[simp]def call49:=aU rfl Tryz.func49 rfl args w (Tryz.call49 args w)
@[simp]def call50:=aU rfl Tryz.func50 rfl args w (Tryz.call50 args w)
@[simp]def call51:=aU rfl Tryz.func51 rfl args w (Tryz.call51 args w)
@[simp]def call53:=aU rfl Tryz.func53 rfl args w (Tryz.call53 args w)
@[simp]def call56:=aU rfl Tryz.func56 rfl args w (Tryz.call56 args w)
@[simp]def call57:=aU rfl Tryz.func57 rfl args w (Tryz.call57 args w)
@[simp]def call61:=aU rfl Tryz.func61 rfl args w (Tryz.call61 args w)
@[simp]def call62:=aU rfl Tryz.func62 rfl args w (Tryz.call62 args w)
@[simp]def call66:=aU rfl Tryz.func66 rfl args w (Tryz.call66 args w)
@[simp]def call67:=aU rfl Tryz.func67 rfl args w (Tryz.call67 args w)
@[simp]def call68:=aU rfl Tryz.func68 rfl args w (Tryz.call68 args w)
@[simp]def call69:=aU rfl Tryz.func69 rfl args w (Tryz.call69 args w)
@[simp]def call75:=aU rfl Tryz.func75 rfl args w (Tryz.call75 args w)
@[simp]def call94:=aU rfl Tryz.func94 rfl args w (Tryz.call94 args w)
@[simp]def call95:=aU rfl Tryz.func95 rfl args w (Tryz.call95 args w)
@[simp]def call96:=aU rfl Tryz.func96 rfl args w (Tryz.call96 args w)
@[simp]def call98:=aU rfl Tryz.func98 rfl args w (Tryz.call98 args w)
@[simp]def call99:=aU rfl Tryz.func99 rfl args w (Tryz.call99 args w)
@[simp]def call100:=aU rfl Tryz.func100 rfl args w (Tryz.call100 args w)
@[simp]def call101:=aU rfl Tryz.func101 rfl args w (Tryz.call101 args w)
@[simp]def call102:=aU rfl Tryz.func102 rfl args w (Tryz.call102 args w)
@[simp]def call107:=aU rfl Tryz.func107 rfl args w (Tryz.call107 args w)
@[simp]def call108:=aU rfl Tryz.func108 rfl args w (Tryz.call108 args w)
@[simp]def call109:=aU rfl Tryz.func109 rfl args w (Tryz.call109 args w)
@[simp]def call110:=aU rfl Tryz.func110 rfl args w (Tryz.call110 args w)
@[simp]def call113:=aU rfl Tryz.func113 rfl args w (Tryz.call113 args w)
@[simp]def call114:=aU rfl Tryz.func114 rfl args w (Tryz.call114 args w)
@[simp]def call115:=aU rfl Tryz.func115 rfl args w (Tryz.call115 args w)
@[simp]def call117:=aU rfl Tryz.func117 rfl args w (Tryz.call117 args w)
@[simp]def call119:=aU rfl Tryz.func119 rfl args w (Tryz.call119 args w)
@[simp]def call122:=aU rfl Tryz.func122 rfl args w (Tryz.call122 args w)
@[simp]def call123:=aU rfl Tryz.func123 rfl args w (Tryz.call123 args w)
@[simp]def call126:=aU rfl Tryz.func126 rfl args w (Tryz.call126 args w)
@[simp]def call127:=aU rfl Tryz.func127 rfl args w (Tryz.call127 args w)
@[simp]def call128:=aU rfl Tryz.func128 rfl args w (Tryz.call128 args w)
@[simp]def call132:=aU rfl Tryz.func132 rfl args w (Tryz.call132 args w)
@[simp]def call133:=aU rfl Tryz.func133 rfl args w (Tryz.call133 args w)
@[simp]def call134:=aU rfl Tryz.func134 rfl args w (Tryz.call134 args w)
@[simp]def call135:=aU rfl Tryz.func135 rfl args w (Tryz.call135 args w)
@[simp]def call136:=aU rfl Tryz.func136 rfl args w (Tryz.call136 args w)
@[simp]def call138:=aU rfl Tryz.func138 rfl args w (Tryz.call138 args w)
@[simp]def call139:=aU rfl Tryz.func139 rfl args w (Tryz.call139 args w)
@[simp]def call141:=aU rfl Tryz.func141 rfl args w (Tryz.call141 args w)
@[simp]def call142:=aU rfl Tryz.func142 rfl args w (Tryz.call142 args w)
@[simp]def call143:=aU rfl Tryz.func143 rfl args w (Tryz.call143 args w)
@[simp]def call144:=aU rfl Tryz.func144 rfl args w (Tryz.call144 args w)
@[simp]def call145:=aU rfl Tryz.func145 rfl args w (Tryz.call145 args w)
@[simp]def call146:=aU rfl Tryz.func146 rfl args w (Tryz.call146 args w)
@[simp]def call147:=aU rfl Tryz.func147 rfl args w (Tryz.call147 args w)
@[simp]def call150:=aU rfl Tryz.func150 rfl args w (Tryz.call150 args w)
@[simp]def call154:=aU rfl Tryz.func154 rfl args w (Tryz.call154 args w)
@[simp]def call155:=aU rfl Tryz.func155 rfl args w (Tryz.call155 args w)
@[simp]def call158:=aU rfl Tryz.func158 rfl args w (Tryz.call158 args w)
@[simp]def call162:=aU rfl Tryz.func162 rfl args w (Tryz.call162 args w)
@[simp]def call165:=aU rfl Tryz.func165 rfl args w (Tryz.call165 args w)
@[simp]def call166:=aU rfl Tryz.func166 rfl args w (Tryz.call166 args w)
@[simp]def call169:=aU rfl Tryz.func169 rfl args w (Tryz.call169 args w)
@[simp]def call170:=aU rfl Tryz.func170 rfl args w (Tryz.call170 args w)
@[simp]def call171:=aU rfl Tryz.func171 rfl args w (Tryz.call171 args w)
@[simp]def call172:=aU rfl Tryz.func172 rfl args w (Tryz.call172 args w)
@[simp]def call173:=aU rfl Tryz.func173 rfl args w (Tryz.call173 args w)
@[simp]def call174:=aU rfl Tryz.func174 rfl args w (Tryz.call174 args w)
@[simp]def call175:=aU rfl Tryz.func175 rfl args w (Tryz.call175 args w)
@[simp]def call176:=aU rfl Tryz.func176 rfl args w (Tryz.call176 args w)
@[simp]def call177:=aU rfl Tryz.func177 rfl args w (Tryz.call177 args w)
@[simp]def call178:=aU rfl Tryz.func178 rfl args w (Tryz.call178 args w)
@[simp]def call179:=aU rfl Tryz.func179 rfl args w (Tryz.call179 args w)
@[simp]def call180:=aU rfl Tryz.func180 rfl args w (Tryz.call180 args w)
@[simp]def call181:=aU rfl Tryz.func181 rfl args w (Tryz.call181 args w)
@[simp]def call182:=aU rfl Tryz.func182 rfl args w (Tryz.call182 args w)
@[simp]def call183:=aU rfl Tryz.func183 rfl args w (Tryz.call183 args w)
@[simp]def call184:=aU rfl Tryz.func184 rfl args w (Tryz.call184 args w)
@[simp]def call185:=aU rfl Tryz.func185 rfl args w (Tryz.call185 args w)
@[simp]def call186:=aU rfl Tryz.func186 rfl args w (Tryz.call186 args w)
@[simp]def call187:=aU rfl Tryz.func187 rfl args w (Tryz.call187 args w)
@[simp]def call188:=aU rfl Tryz.func188 rfl args w (Tryz.call188 args w)
@[simp]def call189:=aU rfl Tryz.func189 rfl args w (Tryz.call189 args w)
@[simp]def call201:=aU rfl Tryz.func201 rfl args w (Tryz.call201 args w)
@[simp]def call202:=aU rfl Tryz.func202 rfl args w (Tryz.call202 args w)
@[simp]def call204:=aU rfl Tryz.func204 rfl args w (Tryz.call204 args w)
@[simp]def call205:=aU rfl Tryz.func205 rfl args w (Tryz.call205 args w)
@[simp]def call206:=aU rfl Tryz.func206 rfl args w (Tryz.call206 args w)
@[simp]def call207:=aU rfl Tryz.func207 rfl args w (Tryz.call207 args w)
@[simp]def call208:=aU rfl Tryz.func208 rfl args w (Tryz.call208 args w)
@[simp]def call209:=aU rfl Tryz.func209 rfl args w (Tryz.call209 args w)
@[simp]def call215:=aU rfl Tryz.func215 rfl args w (Tryz.call215 args w)
@[simp]def call216:=aU rfl Tryz.func216 rfl args w (Tryz.call216 args w)
@[simp]def call234:=aU rfl Tryz.func234 rfl args w (Tryz.call234 args w)
@[simp]def call235:=aU rfl Tryz.func235 rfl args w (Tryz.call235 args w)
@[simp]def call236:=aU rfl Tryz.func236 rfl args w (Tryz.call236 args w)
end Go.Tw
namespace Go.Tw
open Go Go.RowKit
def cq(a:Addr)(n:Nat):(a.add n).block=a.block:=by unfold Addr.add;split<;>rfl
def Rt(a:Addr)(i j:Nat):(a.add i).add j=a.add (i+j):=by
 unfold Addr.add;by_cases hi:i=0<;>by_cases hj:j=0<;>simp[hi,hj,Nat.add_assoc]
def Still(B:Nat)(w w':Abc):Prop:=∀p:Addr,p.block<B-> w'.cell? p= w.cell? p
def Still.refl{B:Nat}(w:Abc):Still B w w:=λ_ _=>rfl
def Still.trans{B:Nat}{a b c:Abc}(h:Still B a b)(k:Still B b c):Still B a c:=λp hp=>(k p hp).trans (h p hp)
def Still.aK{B B':Nat}{w w':Abc}(h:Below B' w w')(hB:B<=B'):Still B w w':=λ_ hp=>h.cell (by omega)
def Still.alloc{B:Nat}{a w:Abc}(h:Still B a w)(hB:B<=w.heap.size)(o:Obj):Still B a (w.alloc o):=λp hp=>(Afy w o p (by omega)).trans (h p hp)
def Row{α:Type}(w:Abc)(B sz:Nat)(R:α->List Value->Prop)(v:Value)(xs:List α):Prop:=
 ∃A c,v=.slice A xs.length c/\xs.length<=c/\c<=Aes/\(xs≠ []->∃ad,A=some ad/\ad.block<B/\
  ∀i x,xs[i]?=some x->∃cs,R x cs/\cs.length=sz/\∀j u,cs[j]?=some u-> w.cell? (ad.add (i * sz+j))=some u)
section
variable {α:Type}{w w':Abc}{B B' sz:Nat}{R R':α->List Value->Prop}{v:Value}{xs:List α}
def Row.still(h:Row w B sz R v xs)(hs:Still B w w')(hR:∀x cs,R x cs->R' x cs):Row w' B sz R' v xs:=by
 obtain⟨A,c,hv,h1,h2,h3⟩:=h;refine⟨A,c,hv,h1,h2,λhx=>?_⟩
 obtain⟨ad,ha,hb,hc⟩:=h3 hx;refine⟨ad,ha,hb,λi x hi=>?_⟩
 obtain⟨cs,r,hl,au⟩:=hc i x hi;exact⟨cs,hR _ _ r,hl,λj u hu=>(hs _ (by rw[cq];exact hb)).trans (au j u hu)⟩
def Row.more(h:Row w B sz R v xs)(hB:B<=B'):Row w B' sz R v xs:=by
 obtain⟨A,c,hv,h1,h2,h3⟩:=h;refine⟨A,c,hv,h1,h2,λhx=>?_⟩
 obtain⟨ad,ha,hb,hc⟩:=h3 hx;exact⟨ad,ha,by omega,hc⟩
def Row.nil:Row w B sz R (.slice none 0 0) ([]:List α):=⟨none,0,rfl,Ad4 _,by unfold Aes;omega,λh=>absurd rfl h⟩
def Row.open_(h:Row w B sz R v xs):∃A n c,v=.slice A n c/\xs.length=n/\n<=c/\c<=Aes/\
 ∀i,i<n->∃ad x cs,A=some ad/\ad.block<B/\xs[i]?=some x/\R x cs/\cs.length=sz/\∀j u,cs[j]?=some u-> w.cell? (ad.add (i * sz+j))=some u:=by
 obtain⟨A,c,hv,h1,h2,h3⟩:=h;refine⟨A,xs.length,c,hv,rfl,h1,h2,λi hi=>?_⟩
 obtain⟨ad,ha,hb,hc⟩:=h3 (by intro e;subst e;simp at hi)
 obtain⟨cs,r,hl,au⟩:=hc i xs[i] (Af6 hi)
 exact⟨ad,xs[i],cs,ha,hb,Af6 hi,r,hl,au⟩
end
def cC{w w':Abc}{B:Nat}{ad:Addr}{k:Nat}{cs:List Value}(h:∀j u,cs[j]?=some u-> w.cell? (ad.add (k+j))=some u)(hs:Still B w w')(hb:ad.block<B){u:Value}(hu:cs[0]?=some u): w'.cell? (ad.add k)=some u:=
 (hs _ (by rw[cq];exact hb)).trans (h 0 u hu)
def bK{w w':Abc}{B:Nat}{ad:Addr}{k:Nat}{cs:List Value}(h:∀j u,cs[j]?=some u-> w.cell? (ad.add (k+j))=some u)(hs:Still B w w')(hb:ad.block<B)(j:Nat){u:Value}(hu:cs[j+1]?=some u): w'.cell? ⟨(ad.add k).block,(ad.add k).off+(j+1),none⟩=some u:=by
 have e:(⟨(ad.add k).block,(ad.add k).off+(j+1),none⟩:Addr)=ad.add (k+(j+1)):=by rw[<-Rt];rfl
 rw[e];exact(hs _ (by rw[cq];exact hb)).trans (h (j+1) u hu)
def iY{B:Nat}{a w:Abc}(h:Below B a w):Below B a w.drew:=⟨h.os,h.tape,h.output,h.size,h.block⟩
def jq{B:Nat}{a w:Abc}(h:Below B a w)(n:Nat):Below B a (w.drewN n):=⟨h.os,h.tape,h.output,h.size,h.block⟩
def aX{a b:Int}(h:a=b):Ending.returned (.int .i64 a)=.returned (.int .i64 b):=by rw[h]
def b9{a b:Bool}(h:a=b):Ending.returned (.bool a)=.returned (.bool b):=by rw[h]
structure Span where
 lo:Int
 hi:Int
 deriving DecidableEq
structure Piece where
 name:ByteArray
 len:Span
 bears:Int
structure bR where
 name:ByteArray
 aH:Int
 cM:List Span
structure Tape where
 pieces:List Int
 sum:Span
structure ao where
 ag:Int
 pieces:List Piece
 aF:List bR
 aJ:List Tape
structure Cut where
 bp:Int
 from_:Int
 deriving DecidableEq
def Span.R(x:Span)(cs:List Value):Prop:=cs=[.int .i64 x.lo,.int .i64 x.hi]
structure an where
 a:Int
 b:Int
 c:Int
 deriving DecidableEq
def an.R(x:an)(cs:List Value):Prop:=cs=[.int .i64 x.a,.int .i64 x.b,.int .i64 x.c]
def pj{α:Type}(p:α->Bool)(l:List α):Int:=match l.findIdx? p with
 |some i=>i
 |none=> -1
def Ej{α:Type}{p:α->Bool}{l:List α}{i:Nat}{x:α}(hx:l[i]?=some x)(hp:p x=true)(h:∀(j:Nat) (y:α),j<i->l[j]?=some y->p y=false):pj p l=i:=by
 have hl:=(Af7.1 hx)
 obtain⟨al,e⟩:=hl;have: l.findIdx? p=some i:=by
  rw[Af8]
  exact⟨al,by rw[e];exact hp,λj hj=>by simpa using h j _ hj (Af6 (by omega))⟩
 unfold pj;rw[this]
def Ei{α:Type}{p:α->Bool}{l:List α}(h:∀(j:Nat) (y:α),l[j]?=some y->p y=false):pj p l= -1:=by
 have: l.findIdx? p=none:=by
  rw[Af9]
  intro x hx;obtain⟨j,hj⟩:=List.getElem?_of_mem hx
  simpa using h j x hj
 unfold pj;rw[this]
def AR{α:Type}{p:α->Bool}{l:List α}:l.any p=true↔0<=pj p l:=by
 unfold pj;cases h: l.findIdx? p with
 |none=>rw[Af9] at h;simp;exactλx hx=>by simpa using h x hx
 |some i=>
  rw[Af8] at h
  obtain⟨hi,hp,_⟩:=h;simp only[List.any_eq_true];exact⟨λ_=>by simp,λ_=>⟨_,List.getElem_mem hi,hp⟩⟩
def Eh{α:Type}{p:α->Bool}{l:List α}:l.any p=false↔pj p l<0:=by
 have:=AR (p:=p) (l:=l);rw[<-Int.not_le,<-this];simp
def cH(n:Int)(cs:List Value):Prop:=cs=[.int .i64 n]
def Cut.R(x:Cut)(cs:List Value):Prop:=cs=[.int .i64 x.bp,.int .i64 x.from_]
def Piece.R(x:Piece)(cs:List Value):Prop:=cs=[.string x.name,.int .i64 x.len.lo,.int .i64 x.len.hi,.int .i64 x.bears]/\x.name.size<=Aes
def bR.R(w:Abc)(B:Nat)(x:bR)(cs:List Value):Prop:=∃kv,cs=[.string x.name,.int .i64 x.aH,kv]/\x.name.size<=Aes/\Row w B 2 Span.R kv x.cM
def Tape.R(w:Abc)(B:Nat)(x:Tape)(cs:List Value):Prop:=∃pv,cs=[pv,.int .i64 x.sum.lo,.int .i64 x.sum.hi]/\Row w B 1 cH pv x.pieces
def bR.R.still{w w':Abc}{B:Nat}{x:bR}{cs:List Value}(h:bR.R w B x cs)(hs:Still B w w'):bR.R w' B x cs:=by
 obtain⟨kv,h1,h2,h3⟩:=h;exact⟨kv,h1,h2,h3.still hs λ_ _ h=>h⟩
def Tape.R.still{w w':Abc}{B:Nat}{x:Tape}{cs:List Value}(h:Tape.R w B x cs)(hs:Still B w w'):Tape.R w' B x cs:=by
 obtain⟨kv,h1,h3⟩:=h;exact⟨kv,h1,h3.still hs λ_ _ h=>h⟩
structure bg(w:Abc)(B:Nat)(b:ao)(pv bv tv:Value):Prop where
 pieces:Row w B 4 Piece.R pv b.pieces
 aF:Row w B 3 (bR.R w B) bv b.aF
 aJ:Row w B 3 (Tape.R w B) tv b.aJ
def bg.still{w w':Abc}{B:Nat}{b:ao}{pv bv tv:Value}(h:bg w B b pv bv tv)(hs:Still B w w'):bg w' B b pv bv tv:=
 ⟨h.pieces.still hs λ_ _ h=>h,h.aF.still hs λ_ _ h=>h.still hs,h.aJ.still hs λ_ _ h=>h.still hs⟩
end Go.Tw
namespace Go.Tw
variable [Go.Tw.aR]
open Go Go.Proofs Go.RowKit
def bX(n lo hi:Int):Bool:=decide (lo<=n) && decide (n<=hi)
def inside(n lo hi:Int)(w:Abc):Aet prog 134 #[.int .i64 n,.int .i64 lo,.int .i64 hi] w λe w'=>e=.returned (.bool (bX n lo hi))/\w=w':=by
 go_enter func134,Tryz.ntmps134;go_wp2;all_goals go_ret
 all_goals (refine⟨b9 ?_,rfl⟩;unfold bX;first| (simp;done) | (simp;omega))
def jr(i:Nat)(c:Int):Bool:=(decide (97<=c) && decide (c<=122)) || (decide (0<i) && (decide (48<=c) && decide (c<=57)))
def uN:Nat->List UInt8->Bool
 |_,[]=>true
 |i,c::l=>jr i c.toNat && uN (i+1) l
def mK(l:List UInt8):Bool:=uN 0 l && bX l.length 1 10
def Sm:∀(l:List UInt8) (i k:Nat) (c:UInt8),uN i l=true->l[k]?=some c->jr (i+k) c.toNat=true
 | [],_,_,_,_,h=>by simp at h
 |d::l,i,0,c,h,hk=>by simp at hk;subst hk;simp[uN] at h;exact h.1
 |d::l,i,k+1,c,h,hk=>by
  simp[uN] at h;have:=Sm l (i+1) k c h.2 (by simpa using hk)
  rwa[show i+(k+1)=i+1+k by omega]
def LR:∀(l:List UInt8) (i:Nat),(∀k c,l[k]?=some c->jr (i+k) c.toNat=true)->uN i l=true
 | [],_,_=>rfl
 |d::l,i,h=>by
  simp only[uN,Bool.and_eq_true];exact⟨h 0 d rfl,LR l (i+1) λk c hk=>by have:=h (k+1) c (by simpa using hk);rwa[show i+(k+1)=i+1+k by omega] at this⟩
def aaY(s:ByteArray)(w:Abc):∃C cap m,(convert 9 228 (.string s)).run prog w=.ok (.slice (some ⟨w.heap.size,0,none⟩) s.size cap) (w.drew.alloc (.cells C 5 m))/\
 ∀i (h:i<s.size),C[i]?=some (.int .u8 (s[i].toNat:Int)):=by
 refine⟨_,_,_,run_bytes_of_string (P:=prog) w 9 228 5 s ((Jh _).trans Tryz.underlying9) ((Jh _).trans Tryz.underlying228) ((Jh _).trans Tryz.underlying5),λi h=>?_⟩
 rw[bytesRow,Array.getElem?_append_left (by simpa using h)]
 simp[Aei]
 exact⟨_,Aeg (by simpa using h),rfl⟩
def CF{s:ByteArray}{n:Nat}(h:n<s.size):s.data.toList[n]?=some s[n]:=by
 rw[Af6 (by simpa using h)];rfl
def O2{l:List UInt8}{n:Nat}{c:UInt8}(h:l[n]?=some c)(hb:jr n c.toNat=false):mK l=false:=by
 unfold mK;cases e:uN 0 l with
 |false=>rfl
 |true=>have:=Sm l 0 n c e h;rw[Nat.zero_add,hb] at this;cases this
def isName{s:ByteArray}(hs:s.size<=Aes)(w:Abc):
 Aet prog 182 #[.string s] w λe w'=>e=.returned (.bool (mK s.data.toList))/\Below w.heap.size w w':=by
 unfold Aes at hs;obtain⟨C,cap,m,aee,hC⟩:=aaY s w;have H:=Afl hC;clear hC;go_enter func182,Tryz.ntmps182;go_wp2;clear aee
 go_loop [3,4,8] (λi c k=>∃n:Nat,n<=s.size/\k=.int .i64 n/\∀j c,j<n->s.data.toList[j]?=some c->jr j c.toNat=true) (λ_ _ k=>s.size - (Afs k).toNat)
 case atStart=>exact⟨0,Agl _,rfl,λj _ hj=>by omega⟩
 case round=>
  obtain⟨n,hn,rfl,bt⟩:=hrel;have HA:=Afl bt;clear bt;by_cases al:n<s.size
  ·have hc:(w.alloc (.cells C 5 m)).cell? ⟨w.heap.size,n,none⟩=some (.int .u8 (s[n].toNat:Int)):=by
    rw[Afz];exact H.out n al
   go_wp2;all_goals try simp only[Bool.not_eq_true',Bool.not_eq_false',decide_eq_true_eq,decide_eq_false_iff_not] at *
   all_goals first
    | (go_round
       case rel=>
        refine⟨n+1,by omega,by go_num,λj c hj o8=>?_⟩
        rcases Agm.1 hj with h|rfl
        ·exact HA.out j c h o8
        ·have e:c=s[j]:=by simpa using((CF al).symm.trans o8).symm
         subst e;simp only[jr,Bool.or_eq_true,Bool.and_eq_true,decide_eq_true_eq];omega
       case measure=>simp[Afs];omega)
    | (go_ret
       refine⟨b9 (Eq.symm (O2 (CF al) ?_)),iY ((Aft _ _).alloc (Ad4 _) _)⟩
       simp only[jr,Bool.or_eq_false_iff,Bool.and_eq_false_iff,decide_eq_false_iff_not];omega)
  ·obtain rfl:n=s.size:=by omega
   go_wp2_with (first
    | (go_at_call 134;refine(inside _ _ _ _).mono ?_;rintro e w' ⟨rfl,rfl⟩))
   go_ret;refine⟨b9 ?_,iY ((Aft _ _).alloc (Ad4 _) _)⟩
   simp[mK,LR s.data.toList 0 (λk c hk=>by
    have:=HA.out k c (by have:=(Af7.1 hk).1;simpa using this) hk;simpa using this)]
def Ex(a b:Int)(k:Span):Bool:=decide (k.lo<=b) && decide (a<=k.hi)
def lh(l:List Span)(a b:Int):Int:=(l.filter (Ex a b)).length
def ah5(l:List Span)(a b:Int):0<=lh l a b/\lh l a b<=l.length:=by
 unfold lh;have:=Aga (Ex a b) l;omega
def ah6(l:List Span)(x:Span)(a b:Int):lh (l++ [x]) a b=lh l a b+if Ex a b x then 1 else 0:=by
 unfold lh;by_cases h:Ex a b x<;>simp[h]
def oJ{α:Type}{l:List α}{i:Nat}{x:α}(h:l[i]?=some x):l.take (i+1)=l.take i++ [x]:=by
 rw[List.take_add_one,h];rfl
def met{nm:ByteArray}{aH a b:Int}{ks:List Span}{kv:Value}{w:Abc}{B:Nat}(hk:Row w B 2 Span.R kv ks)(hB:B<=w.heap.size):
 Aet prog 132 #[.agg #[.string nm,.int .i64 aH,kv],.agg #[.int .i64 a,.int .i64 b]] w λe w'=>e=.returned (.int .i64 (lh ks a b))/\Below w.heap.size w w':=by
 obtain⟨A,n,c,rfl,hl,dX,hc,hr⟩:=hk.open_;unfold Aes at hc;have H:=Afl hl;have H2:=Afl hr;clear hl hr hk;go_enter func132,Tryz.ntmps132;go_wp2;go_loopw [5,7,11] (λm t k wr=>∃i:Nat,i<=n/\k=.int .i64 i/\m=.int .i64 (lh (ks.take i) a b)/\Below (w.heap.size+2) ((w.alloc (Afq #[Value.string nm,Afx Adf aH,Value.slice A n c] 59)).alloc
 (Afq #[Afx Adf a,Afx Adf b] 37)) wr) (λ_ _ k _=>n - (Afs k).toNat)
 case atStart=>exact⟨0,Agl _,rfl,rfl,Aft _ _⟩
 case round=>
  obtain⟨i,hi,rfl,rfl,hb⟩:=hrel;have hm:=ah5 (ks.take i) a b;have hml:(ks.take i).length<=i:=Agb _ _;by_cases al:i<n
  ·obtain⟨ad,x,cs,rfl,aC,hx,rfl,-,au⟩:=H2.out i al
   have st:=(Still.aK hb (by omega:B<=w.heap.size+2))
   have P1:=((Still.refl (B:=B) w).alloc hB (Afq #[Value.string nm,Afx Adf aH,Value.slice (some ad) n c] 59)).alloc (by simp;omega) (Afq #[Afx Adf a,Afx Adf b] 37)
   have h0:=cC au (P1.trans st) aC rfl;have h1:=bK au (P1.trans st) aC 0 rfl;have h2: wr.cell? ⟨w.heap.size+1,0,none⟩=some (.int .i64 a):=(hb.cell (p:=⟨w.heap.size+1,0,none⟩) (by simp)).trans (by simp[go_sem])
   have h3: wr.cell? ⟨w.heap.size+1,1,none⟩=some (.int .i64 b):=(hb.cell (p:=⟨w.heap.size+1,1,none⟩) (by simp)).trans (by simp[go_sem])
   have hz:w.heap.size+1<wr.heap.size:=by have:=hb.size;simp at this;omega
   have HH:=Afl (Aee hx hb);clear hx hb au st P1;go_wp2;all_goals
    go_roundw;case rel=>
     have hb:=HH.out.2;refine⟨i+1,by omega,by go_num,?_,hb.trans ((Aft _ _).alloc (by omega) _)⟩
     rw[oJ HH.out.1,ah6];have e:Ex a b x=(decide (x.lo<=b) && decide (a<=x.hi)):=rfl
     first
      | (rw[if_pos (by rw[e];simp;omega)])
      | (rw[if_neg (by rw[e];simp;omega)];go_num)
    case measure=>simp[Afs];omega
  ·have dL:i=n:=by omega
   subst dL;go_wp2;go_ret;refine⟨aX ?_,?_⟩
   ·have:=H.out
    simp[Agc (Agn this)]
   ·exact(((Aft _ _).alloc (Ad4 _) _).alloc (by simp) _).trans (hb.mono (by simp))
abbrev fv(K:Nat)(lb:Array Value):Value:=.func (.func K) #[] lb
def VB{K:Nat}{lb:Array Value}{v:Value}{w:Abc}{B:Nat}{l:List Piece}(p:Piece->Bool)(eg:∀args w,(callFunc K args).run prog w=.ok (.enter K args) w)
 (hv:Row w B 4 Piece.R v l)(hB:B<=w.heap.size)
 (hK:∀(W:Abc) (x:Piece),Below w.heap.size w W->x.name.size<=Aes->x∈l->Aet prog K (#[.agg #[.string x.name,.int .i64 x.len.lo,.int .i64 x.len.hi,.int .i64 x.bears]]++lb) W λe W'=>e=.returned (.bool (p x))/\Below W.heap.size W W'):
 Aet prog 204 #[v,fv K lb] w λe w'=>e=.returned (.int .i64 (pj p l))/\Below w.heap.size w w':=by
 obtain⟨A,n,c,rfl,hl,dX,hc,hr⟩:=hv.open_;unfold Aes at hc;have H:=Afl hl;have H2:=Afl hr;have HK:=Afl hK;clear hl hr hv hK;go_enter func204,Tryz.ntmps204;go_wp2;go_loopw [5,8] (λt k wr=>∃i:Nat,i<=n/\k=.int .i64 i/\(∀j x,j<i->l[j]?=some x->p x=false)/\Below w.heap.size w wr) (λ_ k _=>n - (Afs k).toNat)
 case atStart=>exact⟨0,Agl _,rfl,λj _ hj=>by omega,Aft _ _⟩
 case round=>
  obtain⟨i,hi,rfl,bt,hb⟩:=hrel;have HH:=Afl (Aee bt hb);by_cases al:i<n
  ·obtain⟨ad,x,cs,rfl,aC,hx,⟨rfl,dH⟩,-,au⟩:=H2.out i al
   have st:=Still.aK hb hB;have h0:=cC au st aC rfl;have h1:=bK au st aC 0 rfl;have h2:=bK au st aC 1 rfl;have h3:=bK au st aC 2 rfl;have HX:=Afl hx;clear bt hb hx au st;go_wp2;refine(HK.out wr x HH.out.2 dH (Agd HX.out)).mono ?_
   rintro e w1 ⟨rfl,ae⟩;have HB:=Afl ae;clear ae;cases hp:p x with
   |true=>
    go_wp2;go_ret;exact⟨aX (Ej HX.out hp HH.out.1).symm,HH.out.2.trans (HB.out.mono HH.out.2.size)⟩
   |false=>
    go_wp2;go_roundw;case rel=>exact⟨i+1,by omega,by go_num,λj y hj hy=>by
     rcases Agm.1 hj with h|rfl
     ·exact HH.out.1 j y h hy
     ·rw[HX.out] at hy;cases hy;exact hp,HH.out.2.trans (HB.out.mono HH.out.2.size)⟩
    case measure=>simp[Afs];omega
  ·have dL:i=n:=by omega
   subst dL;go_wp2;go_ret;exact⟨aX (Ei (λj x hj=>HH.out.1 j x (by have:=(Af7.1 hj).1;have:=H.out;omega) hj)).symm,HH.out.2⟩
def GC{K:Nat}{lb:Array Value}{v:Value}{w:Abc}{B:Nat}{l:List Piece}(p:Piece->Bool)(eg:∀args w,(callFunc K args).run prog w=.ok (.enter K args) w)
 (hv:Row w B 4 Piece.R v l)(hB:B<=w.heap.size)
 (hK:∀(W:Abc) (x:Piece),Below w.heap.size w W->x.name.size<=Aes->x∈l->Aet prog K (#[.agg #[.string x.name,.int .i64 x.len.lo,.int .i64 x.len.hi,.int .i64 x.bears]]++lb) W λe W'=>e=.returned (.bool (p x))/\Below W.heap.size W W'):
 Aet prog 183 #[v,fv K lb] w λe w'=>e=.returned (.bool (l.any p))/\Below w.heap.size w w':=by
 have HV:=Afl hv;have HK:=Afl hK;clear hv hK;cases hp:l.any p with
 |true=>
  have hi:=(AR (l:=l) (p:=p)).1 hp;go_enter func183,Tryz.ntmps183;go_wp2;refine(VB p eg HV.out hB HK.out).mono ?_
  rintro e w1 ⟨rfl,ae⟩;go_wp2;go_ret;exact⟨b9 rfl,ae⟩
 |false=>
  have hi:=(Eh (l:=l) (p:=p)).1 hp;go_enter func183,Tryz.ntmps183;go_wp2;refine(VB p eg HV.out hB HK.out).mono ?_
  rintro e w1 ⟨rfl,ae⟩;go_wp2;go_ret;exact⟨b9 (by simp;omega),ae⟩
def VC{K:Nat}{lb:Array Value}{v:Value}{w:Abc}{B:Nat}{l:List bR}(p:bR->Bool)(eg:∀args w,(callFunc K args).run prog w=.ok (.enter K args) w)
 (hv:Row w B 3 (bR.R w B) v l)(hB:B<=w.heap.size)
 (hK:∀(W:Abc) (x:bR) (kv:Value),Below w.heap.size w W->x.name.size<=Aes->Row w B 2 Span.R kv x.cM->x∈l->Aet prog K (#[.agg #[.string x.name,.int .i64 x.aH,kv]]++lb) W λe W'=>e=.returned (.bool (p x))/\Below W.heap.size W W'):
 Aet prog 215 #[v,fv K lb] w λe w'=>e=.returned (.int .i64 (pj p l))/\Below w.heap.size w w':=by
 obtain⟨A,n,c,rfl,hl,dX,hc,hr⟩:=hv.open_;unfold Aes at hc;have H:=Afl hl;have H2:=Afl hr;have HK:=Afl hK;clear hl hr hv hK;go_enter func215,Tryz.ntmps215;go_wp2;go_loopw [5,8] (λt k wr=>∃i:Nat,i<=n/\k=.int .i64 i/\(∀j x,j<i->l[j]?=some x->p x=false)/\Below w.heap.size w wr) (λ_ k _=>n - (Afs k).toNat)
 case atStart=>exact⟨0,Agl _,rfl,λj _ hj=>by omega,Aft _ _⟩
 case round=>
  obtain⟨i,hi,rfl,bt,hb⟩:=hrel;have HH:=Afl (Aee bt hb);by_cases al:i<n
  ·obtain⟨ad,x,cs,rfl,aC,hx,⟨kv,rfl,dH,dj⟩,-,au⟩:=H2.out i al
   have st:=Still.aK hb hB;have h0:=cC au st aC rfl;have h1:=bK au st aC 0 rfl;have h2:=bK au st aC 1 rfl;have HX:=Afl hx;clear bt hb hx au st;go_wp2;refine(HK.out wr x kv HH.out.2 dH dj (Agd HX.out)).mono ?_
   rintro e w1 ⟨rfl,ae⟩;have HB:=Afl ae;clear ae;cases hp:p x with
   |true=>
    go_wp2;go_ret;exact⟨aX (Ej HX.out hp HH.out.1).symm,HH.out.2.trans (HB.out.mono HH.out.2.size)⟩
   |false=>
    go_wp2;go_roundw;case rel=>exact⟨i+1,by omega,by go_num,λj y hj hy=>by
     rcases Agm.1 hj with h|rfl
     ·exact HH.out.1 j y h hy
     ·rw[HX.out] at hy;cases hy;exact hp,HH.out.2.trans (HB.out.mono HH.out.2.size)⟩
    case measure=>simp[Afs];omega
  ·have dL:i=n:=by omega
   subst dL;go_wp2;go_ret;exact⟨aX (Ei (λj x hj=>HH.out.1 j x (by have:=(Af7.1 hj).1;have:=H.out;omega) hj)).symm,HH.out.2⟩
def GD{K:Nat}{lb:Array Value}{v:Value}{w:Abc}{B:Nat}{l:List bR}(p:bR->Bool)(eg:∀args w,(callFunc K args).run prog w=.ok (.enter K args) w)
 (hv:Row w B 3 (bR.R w B) v l)(hB:B<=w.heap.size)
 (hK:∀(W:Abc) (x:bR) (kv:Value),Below w.heap.size w W->x.name.size<=Aes->Row w B 2 Span.R kv x.cM->x∈l->Aet prog K (#[.agg #[.string x.name,.int .i64 x.aH,kv]]++lb) W λe W'=>e=.returned (.bool (p x))/\Below W.heap.size W W'):
 Aet prog 205 #[v,fv K lb] w λe w'=>e=.returned (.bool (l.any p))/\Below w.heap.size w w':=by
 have HV:=Afl hv;have HK:=Afl hK;clear hv hK;cases hp:l.any p with
 |true=>
  have hi:=(AR (l:=l) (p:=p)).1 hp;go_enter func205,Tryz.ntmps205;go_wp2;refine(VC p eg HV.out hB HK.out).mono ?_
  rintro e w1 ⟨rfl,ae⟩;go_wp2;go_ret;exact⟨b9 rfl,ae⟩
 |false=>
  have hi:=(Eh (l:=l) (p:=p)).1 hp;go_enter func205,Tryz.ntmps205;go_wp2;refine(VC p eg HV.out hB HK.out).mono ?_
  rintro e w1 ⟨rfl,ae⟩;go_wp2;go_ret;exact⟨b9 (by simp;omega),ae⟩
def VD{K:Nat}{lb:Array Value}{v:Value}{w:Abc}{B:Nat}{l:List Tape}(p:Tape->Bool)(eg:∀args w,(callFunc K args).run prog w=.ok (.enter K args) w)
 (hv:Row w B 3 (Tape.R w B) v l)(hB:B<=w.heap.size)
 (hK:∀(W:Abc) (x:Tape) (kv:Value),Below w.heap.size w W->Row w B 1 cH kv x.pieces->x∈l->Aet prog K (#[.agg #[kv,.int .i64 x.sum.lo,.int .i64 x.sum.hi]]++lb) W λe W'=>e=.returned (.bool (p x))/\Below W.heap.size W W'):
 Aet prog 216 #[v,fv K lb] w λe w'=>e=.returned (.int .i64 (pj p l))/\Below w.heap.size w w':=by
 obtain⟨A,n,c,rfl,hl,dX,hc,hr⟩:=hv.open_;unfold Aes at hc;have H:=Afl hl;have H2:=Afl hr;have HK:=Afl hK;clear hl hr hv hK;go_enter func216,Tryz.ntmps216;go_wp2;go_loopw [5,8] (λt k wr=>∃i:Nat,i<=n/\k=.int .i64 i/\(∀j x,j<i->l[j]?=some x->p x=false)/\Below w.heap.size w wr) (λ_ k _=>n - (Afs k).toNat)
 case atStart=>exact⟨0,Agl _,rfl,λj _ hj=>by omega,Aft _ _⟩
 case round=>
  obtain⟨i,hi,rfl,bt,hb⟩:=hrel;have HH:=Afl (Aee bt hb);by_cases al:i<n
  ·obtain⟨ad,x,cs,rfl,aC,hx,⟨kv,rfl,dj⟩,-,au⟩:=H2.out i al
   have st:=Still.aK hb hB;have h0:=cC au st aC rfl;have h1:=bK au st aC 0 rfl;have h2:=bK au st aC 1 rfl;have HX:=Afl hx;clear bt hb hx au st;go_wp2;refine(HK.out wr x kv HH.out.2 dj (Agd HX.out)).mono ?_
   rintro e w1 ⟨rfl,ae⟩;have HB:=Afl ae;clear ae;cases hp:p x with
   |true=>
    go_wp2;go_ret;exact⟨aX (Ej HX.out hp HH.out.1).symm,HH.out.2.trans (HB.out.mono HH.out.2.size)⟩
   |false=>
    go_wp2;go_roundw;case rel=>exact⟨i+1,by omega,by go_num,λj y hj hy=>by
     rcases Agm.1 hj with h|rfl
     ·exact HH.out.1 j y h hy
     ·rw[HX.out] at hy;cases hy;exact hp,HH.out.2.trans (HB.out.mono HH.out.2.size)⟩
    case measure=>simp[Afs];omega
  ·have dL:i=n:=by omega
   subst dL;go_wp2;go_ret;exact⟨aX (Ei (λj x hj=>HH.out.1 j x (by have:=(Af7.1 hj).1;have:=H.out;omega) hj)).symm,HH.out.2⟩
def aaX{K:Nat}{lb:Array Value}{v:Value}{w:Abc}{B:Nat}{l:List Tape}(p:Tape->Bool)(eg:∀args w,(callFunc K args).run prog w=.ok (.enter K args) w)
 (hv:Row w B 3 (Tape.R w B) v l)(hB:B<=w.heap.size)
 (hK:∀(W:Abc) (x:Tape) (kv:Value),Below w.heap.size w W->Row w B 1 cH kv x.pieces->x∈l->Aet prog K (#[.agg #[kv,.int .i64 x.sum.lo,.int .i64 x.sum.hi]]++lb) W λe W'=>e=.returned (.bool (p x))/\Below W.heap.size W W'):
 Aet prog 208 #[v,fv K lb] w λe w'=>e=.returned (.bool (l.any p))/\Below w.heap.size w w':=by
 have HV:=Afl hv;have HK:=Afl hK;clear hv hK;cases hp:l.any p with
 |true=>
  have hi:=(AR (l:=l) (p:=p)).1 hp;go_enter func208,Tryz.ntmps208;go_wp2;refine(VD p eg HV.out hB HK.out).mono ?_
  rintro e w1 ⟨rfl,ae⟩;go_wp2;go_ret;exact⟨b9 rfl,ae⟩
 |false=>
  have hi:=(Eh (l:=l) (p:=p)).1 hp;go_enter func208,Tryz.ntmps208;go_wp2;refine(VD p eg HV.out hB HK.out).mono ?_
  rintro e w1 ⟨rfl,ae⟩;go_wp2;go_ret;exact⟨b9 (by simp;omega),ae⟩
def VA{K:Nat}{lb:Array Value}{v:Value}{w:Abc}{B:Nat}{l:List Int}(p:Int->Bool)(eg:∀args w,(callFunc K args).run prog w=.ok (.enter K args) w)
 (hv:Row w B 1 cH v l)(hB:B<=w.heap.size)
 (hK:∀(W:Abc) (x:Int),Below w.heap.size w W->x∈l->Aet prog K (#[.int .i64 x]++lb) W λe W'=>e=.returned (.bool (p x))/\Below W.heap.size W W'):
 Aet prog 202 #[v,fv K lb] w λe w'=>e=.returned (.int .i64 (pj p l))/\Below w.heap.size w w':=by
 obtain⟨A,n,c,rfl,hl,dX,hc,hr⟩:=hv.open_;unfold Aes at hc;have H:=Afl hl;have H2:=Afl hr;have HK:=Afl hK;clear hl hr hv hK;go_enter func202,Tryz.ntmps202;go_wp2;go_loopw [5,8] (λt k wr=>∃i:Nat,i<=n/\k=.int .i64 i/\(∀j x,j<i->l[j]?=some x->p x=false)/\Below w.heap.size w wr) (λ_ k _=>n - (Afs k).toNat)
 case atStart=>exact⟨0,Agl _,rfl,λj _ hj=>by omega,Aft _ _⟩
 case round=>
  obtain⟨i,hi,rfl,bt,hb⟩:=hrel;have HH:=Afl (Aee bt hb);by_cases al:i<n
  ·obtain⟨ad,x,cs,rfl,aC,hx,rfl,-,au⟩:=H2.out i al
   have st:=Still.aK hb hB;have h0:=cC au st aC rfl;rw[Ago] at h0;have HX:=Afl hx;clear bt hb hx au st;go_wp2;refine(HK.out wr x HH.out.2 (Agd HX.out)).mono ?_
   rintro e w1 ⟨rfl,ae⟩;have HB:=Afl ae;clear ae;cases hp:p x with
   |true=>
    go_wp2;go_ret;exact⟨aX (Ej HX.out hp HH.out.1).symm,HH.out.2.trans (HB.out.mono HH.out.2.size)⟩
   |false=>
    go_wp2;go_roundw;case rel=>exact⟨i+1,by omega,by go_num,λj y hj hy=>by
     rcases Agm.1 hj with h|rfl
     ·exact HH.out.1 j y h hy
     ·rw[HX.out] at hy;cases hy;exact hp,HH.out.2.trans (HB.out.mono HH.out.2.size)⟩
    case measure=>simp[Afs];omega
  ·have dL:i=n:=by omega
   subst dL;go_wp2;go_ret;exact⟨aX (Ei (λj x hj=>HH.out.1 j x (by have:=(Af7.1 hj).1;have:=H.out;omega) hj)).symm,HH.out.2⟩
def SD{K:Nat}{lb:Array Value}{v:Value}{w:Abc}{B:Nat}{l:List Int}(p:Int->Bool)(eg:∀args w,(callFunc K args).run prog w=.ok (.enter K args) w)
 (hv:Row w B 1 cH v l)(hB:B<=w.heap.size)
 (hK:∀(W:Abc) (x:Int),Below w.heap.size w W->x∈l->Aet prog K (#[.int .i64 x]++lb) W λe W'=>e=.returned (.bool (p x))/\Below W.heap.size W W'):
 Aet prog 177 #[v,fv K lb] w λe w'=>e=.returned (.bool (l.any p))/\Below w.heap.size w w':=by
 have HV:=Afl hv;have HK:=Afl hK;clear hv hK;cases hp:l.any p with
 |true=>
  have hi:=(AR (l:=l) (p:=p)).1 hp;go_enter func177,Tryz.ntmps177;go_wp2;refine(VA p eg HV.out hB HK.out).mono ?_
  rintro e w1 ⟨rfl,ae⟩;go_wp2;go_ret;exact⟨b9 rfl,ae⟩
 |false=>
  have hi:=(Eh (l:=l) (p:=p)).1 hp;go_enter func177,Tryz.ntmps177;go_wp2;refine(VA p eg HV.out hB HK.out).mono ?_
  rintro e w1 ⟨rfl,ae⟩;go_wp2;go_ret;exact⟨b9 (by simp;omega),ae⟩
def Vz{K:Nat}{lb:Array Value}{v:Value}{w:Abc}{B:Nat}{l:List an}(p:an->Bool)(eg:∀args w,(callFunc K args).run prog w=.ok (.enter K args) w)
 (hv:Row w B 3 an.R v l)(hB:B<=w.heap.size)
 (hK:∀(W:Abc) (x:an),Below w.heap.size w W->x∈l->Aet prog K (#[.agg #[.int .i64 x.a,.int .i64 x.b,.int .i64 x.c]]++lb) W λe W'=>e=.returned (.bool (p x))/\Below W.heap.size W W'):
 Aet prog 187 #[v,fv K lb] w λe w'=>e=.returned (.int .i64 (pj p l))/\Below w.heap.size w w':=by
 obtain⟨A,n,c,rfl,hl,dX,hc,hr⟩:=hv.open_;unfold Aes at hc;have H:=Afl hl;have H2:=Afl hr;have HK:=Afl hK;clear hl hr hv hK;go_enter func187,Tryz.ntmps187;go_wp2;go_loopw [5,8] (λt k wr=>∃i:Nat,i<=n/\k=.int .i64 i/\(∀j x,j<i->l[j]?=some x->p x=false)/\Below w.heap.size w wr) (λ_ k _=>n - (Afs k).toNat)
 case atStart=>exact⟨0,Agl _,rfl,λj _ hj=>by omega,Aft _ _⟩
 case round=>
  obtain⟨i,hi,rfl,bt,hb⟩:=hrel;have HH:=Afl (Aee bt hb);by_cases al:i<n
  ·obtain⟨ad,x,cs,rfl,aC,hx,rfl,-,au⟩:=H2.out i al
   have st:=Still.aK hb hB;have h0:=cC au st aC rfl;have h1:=bK au st aC 0 rfl;have h2:=bK au st aC 1 rfl;have HX:=Afl hx;clear bt hb hx au st;go_wp2;refine(HK.out wr x HH.out.2 (Agd HX.out)).mono ?_
   rintro e w1 ⟨rfl,ae⟩;have HB:=Afl ae;clear ae;cases hp:p x with
   |true=>
    go_wp2;go_ret;exact⟨aX (Ej HX.out hp HH.out.1).symm,HH.out.2.trans (HB.out.mono HH.out.2.size)⟩
   |false=>
    go_wp2;go_roundw;case rel=>exact⟨i+1,by omega,by go_num,λj y hj hy=>by
     rcases Agm.1 hj with h|rfl
     ·exact HH.out.1 j y h hy
     ·rw[HX.out] at hy;cases hy;exact hp,HH.out.2.trans (HB.out.mono HH.out.2.size)⟩
    case measure=>simp[Afs];omega
  ·have dL:i=n:=by omega
   subst dL;go_wp2;go_ret;exact⟨aX (Ei (λj x hj=>HH.out.1 j x (by have:=(Af7.1 hj).1;have:=H.out;omega) hj)).symm,HH.out.2⟩
def aaW{K:Nat}{lb:Array Value}{v:Value}{w:Abc}{B:Nat}{l:List an}(p:an->Bool)(eg:∀args w,(callFunc K args).run prog w=.ok (.enter K args) w)
 (hv:Row w B 3 an.R v l)(hB:B<=w.heap.size)
 (hK:∀(W:Abc) (x:an),Below w.heap.size w W->x∈l->Aet prog K (#[.agg #[.int .i64 x.a,.int .i64 x.b,.int .i64 x.c]]++lb) W λe W'=>e=.returned (.bool (p x))/\Below W.heap.size W W'):
 Aet prog 150 #[v,fv K lb] w λe w'=>e=.returned (.bool (l.any p))/\Below w.heap.size w w':=by
 have HV:=Afl hv;have HK:=Afl hK;clear hv hK;cases hp:l.any p with
 |true=>
  have hi:=(AR (l:=l) (p:=p)).1 hp;go_enter func150,Tryz.ntmps150;go_wp2;refine(Vz p eg HV.out hB HK.out).mono ?_
  rintro e w1 ⟨rfl,ae⟩;go_wp2;go_ret;exact⟨b9 rfl,ae⟩
 |false=>
  have hi:=(Eh (l:=l) (p:=p)).1 hp;go_enter func150,Tryz.ntmps150;go_wp2;refine(Vz p eg HV.out hB HK.out).mono ?_
  rintro e w1 ⟨rfl,ae⟩;go_wp2;go_ret;exact⟨b9 (by simp;omega),ae⟩
def fy{B:Nat}{W w1:Abc}(hb:Below B W w1)(hB:B=W.heap.size):(∀b o,b<W.heap.size-> w1.cell? ⟨b,o,none⟩= W.cell? ⟨b,o,none⟩)/\(∀b o,b<W.heap.size-> w1.frozen? ⟨b,o,none⟩= W.frozen? ⟨b,o,none⟩):=by
 subst hB;exact⟨λb o h=>hb.cell (p:=⟨b,o,none⟩) h,λb o h=>hb.frozen (p:=⟨b,o,none⟩) h⟩
def Row.take{α:Type}{w:Abc}{B sz:Nat}{R:α->List Value->Prop}{A:Option Addr}{n c:Nat}{l:List α}(h:Row w B sz R (.slice A n c) l){i:Nat}(hi:i<=n):Row w B sz R (.slice A i c) (l.take i):=by
 obtain⟨A',c',hv,h1,h2,h3⟩:=h;injection hv with e1 e2 e3
 subst e1;subst e3;subst e2
 have e:(l.take i).length=i:=by rw[List.length_take];omega
 refine⟨A,c,by rw[e],by omega,h2,λhx=>?_⟩
 obtain⟨ad,ha,hb,hc⟩:=h3 (by rintro rfl;simp at hx)
 refine⟨ad,ha,hb,λj x hj=>hc j x ?_⟩
 rw[List.getElem?_take] at hj;split at hj<;>simp_all
def scan{α:Type}(f:List α->α->Int):List α->List α->Int
 |_,[]=>0
 |dw,x::l=>if f dw x≠0 then f dw x else scan f (dw++ [x]) l
def W9{α:Type}{f:List α->α->Int}:∀(l dw:List α) (i:Nat) (x:α),l[i]?=some x->(∀(j:Nat) (y:α),j<i->l[j]?=some y->f (dw++l.take j) y=0)->f (dw++l.take i) x≠0->scan f dw l=f (dw++l.take i) x
 | [],_,_,_,h,_,_=>by simp at h
 |a::l,dw,0,x,h,_,hf=>by simp at h;subst h;simp at hf;simp[scan,hf]
 |a::l,dw,i+1,x,h,hz,hf=>by
  have h0:=hz 0 a (by omega) rfl
  simp at h0;have:=W9 l (dw++ [a]) i x (by simpa using h) (λj y hj hy=>by simpa using hz (j+1) y (by omega) (by simpa using hy)) (by simpa using hf)
  simp[scan,h0,this]
def sf{α:Type}{f:List α->α->Int}{l:List α}{i:Nat}{x:α}(h:l[i]?=some x)(hz:∀(j:Nat) (y:α),j<i->l[j]?=some y->f (l.take j) y=0)(hf:f (l.take i) x≠0):scan f [] l=f (l.take i) x:=by
 simpa using W9 l [] i x h (by simpa using hz) (by simpa using hf)
def W8{α:Type}{f:List α->α->Int}:∀(l dw:List α),(∀(j:Nat) (y:α),l[j]?=some y->f (dw++l.take j) y=0)->scan f dw l=0
 | [],_,_=>rfl
 |a::l,dw,hz=>by
  have h0:=hz 0 a rfl;simp at h0;have:=W8 l (dw++ [a]) (λj y hy=>by simpa using hz (j+1) y (by simpa using hy))
  simp[scan,h0,this]
def se{α:Type}{f:List α->α->Int}{l:List α}(hz:∀(j:Nat) (y:α),l[j]?=some y->f (l.take j) y=0):scan f [] l=0:=W8 l [] (by simpa using hz)
def ma(a b lo hi many:Int):Bool:=decide (lo<=a) && decide (a<=b) && decide (b<=hi) && decide (b - a<many)
def yu{a b lo hi many:Int}(pb:0<=lo)(Un:hi<=1000000)(w:Abc):Aet prog 154 #[.agg #[.int .i64 a,.int .i64 b],.int .i64 lo,.int .i64 hi,.int .i64 many] w λe w'=>e=.returned (.bool (ma a b lo hi many))/\Below w.heap.size w w':=by
 go_enter func154,Tryz.ntmps154;go_wp2;all_goals go_ret
 all_goals (refine⟨b9 ?_,(Aft _ _).alloc (Ad4 _) _⟩;unfold ma;first| (simp;done) | (simp;omega) | (simp[*];omega) | (simp[*];done))
def ag{n:Int}{pv bv tv:Value}(w:Abc):Aet prog 141 #[.agg #[.int .i64 n,pv,bv,tv]] w λe w'=>e=.returned (.int .i64 (if bX n 0 3 then 0 else 1))/\Below w.heap.size w w':=by
 cases h:bX n 0 3;all_goals
  go_enter func141,Tryz.ntmps141;go_wp2_with (first
   | (go_at_call 134;refine(inside _ _ _ _).mono ?_;rintro e w' ⟨rfl,rfl⟩))
  go_ret;exact⟨aX rfl,(Aft _ _).alloc (Ad4 _) _⟩
def there(k n:Int)(hn:0<=n)(w:Abc)(TI:n<=9223372036854775807):Aet prog 100 #[.int .i64 k,.int .i64 n] w λe w'=>e=.returned (.int .i64 (if bX k 0 (n - 1) then 0 else 6))/\w=w':=by
 cases h:bX k 0 (n - 1);all_goals
  go_enter func100,Tryz.ntmps100;go_wp2_with (first
   | (go_at_call 134;refine(inside _ _ _ _).mono ?_;rintro e w' ⟨rfl,rfl⟩))
  go_ret;exact⟨aX rfl,rfl⟩
def jF(a b:ByteArray):Bool:=a.toList==b.toList
def I5{nm EE:ByteArray}{a b c:Int}{w:Abc}{p:Addr}(hp: w.cell? p=some (.string EE))(DW:p.block<w.heap.size):
 Aet prog 184 #[.agg #[.string nm,.int .i64 a,.int .i64 b,.int .i64 c],.pointer (some p)] w λe w'=>e=.returned (.bool (jF nm EE))/\Below w.heap.size w w':=by
 go_enter func184,Tryz.ntmps184;go_wp2;go_ret;exact⟨b9 rfl,(Aft _ _).alloc (Ad4 _) _⟩
def I6{nm EE:ByteArray}{a:Int}{kv:Value}{w:Abc}{p:Addr}(hp: w.cell? p=some (.string EE))(DW:p.block<w.heap.size):
 Aet prog 206 #[.agg #[.string nm,.int .i64 a,kv],.pointer (some p)] w λe w'=>e=.returned (.bool (jF nm EE))/\Below w.heap.size w w':=by
 go_enter func206,Tryz.ntmps206;go_wp2;go_ret;exact⟨b9 rfl,(Aft _ _).alloc (Ad4 _) _⟩
def cU{B:Nat}{w wr w1:Abc}{o:Obj}(h:Below B w wr)(h1:Below (wr.alloc o).heap.size (wr.alloc o) w1)(hB:B<=wr.heap.size):Below B w w1:=
 h.trans (((Aft _ _).alloc hB _).trans (h1.mono (by simp;omega)))
def chain{B:Nat}{w wr w1:Abc}(h:Below B w wr)(h1:Below wr.heap.size wr w1)(hB:B<=wr.heap.size):Below B w w1:=h.trans (h1.mono hB)
def oE{wr w1:Abc}{o:Obj}{B:Nat}(h:Below B (wr.alloc o) w1):wr.heap.size<w1.heap.size:=by have:=h.size;simp at this;omega
def app1{P:Abe}{f:Nat}{a b:Value}{w:Abc}{R:Ending->Abc->Prop}(h:Aet P f #[a,b] w R):Aet P f (#[a]++#[b]) w R:=by
 have e:(#[a]++#[b]:Array Value)=#[a,b]:=by simp
 rw[e];exact h
def iU{B:Nat}{a w:Abc}(h:Below B a.drew w):Below B a w:=⟨h.os,h.tape,h.output,h.size,h.block⟩
def iH{w wr:Abc}{o:Obj}(h:Below (w.heap.size+1) (w.alloc o) wr):Below w.heap.size w wr:=((Aft _ _).alloc (Ad4 _) _).trans (h.mono (by omega))
def kJ(dw:List Piece)(p:Piece):Int:=
 if mK p.name.data.toList then if dw.any (λq=>jF q.name p.name) then 5 else if ma p.len.lo p.len.hi 1 40 3 then if bX p.bears 0 2 then 0 else 1 else 1 else 4
def iw(l:List Piece):Int:=if bX l.length 1 3 then scan kJ [] l else 2
def pieces{n:Int}{pv bv tv:Value}{w:Abc}{B:Nat}{l:List Piece}(hv:Row w B 4 Piece.R pv l)(hB:B<=w.heap.size):
 Aet prog 142 #[.agg #[.int .i64 n,pv,bv,tv]] w λe w'=>e=.returned (.int .i64 (iw l))/\Below w.heap.size w w':=by
 have HV:=Afl hv;obtain⟨A,m,c,rfl,hl,dX,hc,hr⟩:=hv.open_;have dC:=Afl hl;unfold Aes at hc;have H2:=Afl hr;clear hl hr hv;cases hlen:bX m 1 3 with
 |false=>
  go_enter func142,Tryz.ntmps142;go_wp2_with (first
   | (go_at_call 134;refine(inside _ _ _ _).mono ?_;rintro e w' ⟨rfl,rfl⟩))
  go_ret;exact⟨aX (by unfold iw;rw[dC.out,hlen];rfl),(Aft _ _).alloc (Ad4 _) _⟩
 |true=>
  go_enter func142,Tryz.ntmps142;go_wp2_with (first
   | (go_at_call 134;refine(inside _ _ _ _).mono ?_;rintro e w' ⟨rfl,rfl⟩))
  go_loopw [2,3,4,15] (λr t q k wr=>∃i:Nat,i<=m/\k=.int .i64 i/\(∀(j:Nat) (x:Piece),j<i->l[j]?=some x->kJ (l.take j) x=0)/\Below (w.heap.size+1) (w.alloc (Afq #[.int .i64 n,.slice A m c,bv,tv] 117)) wr) (λ_ _ _ k _=>m - (Afs k).toNat)
  case atStart=>exact⟨0,Agl _,rfl,λj _ hj=>by omega,Aft _ _⟩
  case round=>
   obtain⟨i,hi,rfl,bt,hb⟩:=hrel;have HH:=Afl (Aee bt hb);have dY:=hb.size;have aI:w.heap.size+1<=wr.heap.size:=by simpa using dY
   have tL:w.heap.size<=wr.heap.size:=by omega
   have DZ:w.heap.size<wr.heap.size:=by omega
   have ho: wr.cell? ⟨w.heap.size,1,none⟩=some (.slice A m c):=(hb.cell (p:=⟨w.heap.size,1,none⟩) (by simp)).trans (by simp[go_sem])
   by_cases al:i<m
   ·obtain⟨ad,x,cs,rfl,aC,hx,⟨rfl,dH⟩,-,au⟩:=H2.out i al
    have st:Still B w wr:=((Still.refl w).alloc hB _).trans (Still.aK hb (by omega))
    have ST:=Afl st;have h0:=cC au st aC rfl;have h1:=bK au st aC 0 rfl;have h2:=bK au st aC 1 rfl;have h3:=bK au st aC 2 rfl;have HX:=Afl hx;clear bt hb hx au st dY;have iC:=Afl HH.out.2;have bad:∀s:Int,kJ (l.take i) x=s->s≠0->s=iw l:=λs hs h0=>by
     unfold iw;rw[dC.out,hlen,if_pos rfl,sf HX.out HH.out.1 (by rw[hs];exact h0),hs]
    have fG:=Afl bad;clear bad;cases ea:mK x.name.data.toList with
    |false=>
     go_wp2_with (first
      | (go_at_call 182;refine(isName dH _).mono ?_;rintro e w1 ⟨rfl,ae⟩;obtain⟨ff,gM⟩:=fy ae rfl))
     go_ret;exact⟨aX (fG.out 4 (by unfold kJ;rw[ea];rfl) (by omega)),iH (cU iC.out ae aI)⟩
    |true=>
     cases ld:(l.take i).any (λq=>jF q.name x.name) with
     |true=>
      go_wp2_with (first
       | (go_at_call 182;refine(isName dH _).mono ?_;rintro e w1 ⟨rfl,ae⟩;obtain⟨ff,gM⟩:=fy ae rfl;have aN:wr.heap.size<w1.heap.size:=oE ae;have jA:w.heap.size<w1.heap.size:=Agp tL aN;have dO:=Afl (cU iC.out ae aI);have kQ:Hid (w1.cell? ⟨wr.heap.size,0,none⟩=some (.string x.name)):=Afl ((ff wr.heap.size 0 (by simp)).trans (Afz wr _ _ _ 0));clear ae)
       | (go_at_call 183;have HS:=Afl ((HV.out.take hi).still (Still.aK (iH dO.out) hB) λ_ _ h=>h);refine(GC (λq=>jF q.name x.name) call184 HS.out (Ad5 hB (Agq jA)) (λW y hW _ _=>app1 (I5 (p:=⟨wr.heap.size,0,none⟩) ((hW.cell (p:=⟨wr.heap.size,0,none⟩) aN).trans kQ.out) (Ad6 aN hW.size)))).mono ?_;rintro e w2 ⟨rfl,ak⟩;obtain⟨ef,nD⟩:=fy ak rfl;have ba:wr.heap.size<w2.heap.size:=Ad6 aN ak.size;have qH:w.heap.size<w2.heap.size:=Ad6 jA ak.size;have dI:=Afl (chain dO.out ak jA);clear ak))
      go_ret;exact⟨aX (fG.out 5 (by unfold kJ;rw[ea,ld];rfl) (by omega)),iH dI.out⟩
     |false=>
      cases ij:ma x.len.lo x.len.hi 1 40 3 with
      |false=>
       go_wp2_with (first
           | (go_at_call 182;refine(isName dH _).mono ?_;rintro e w1 ⟨rfl,ae⟩;obtain⟨ff,gM⟩:=fy ae rfl;have aN:wr.heap.size<w1.heap.size:=oE ae;have jA:w.heap.size<w1.heap.size:=Agp tL aN;have dO:=Afl (cU iC.out ae aI);have kQ:Hid (w1.cell? ⟨wr.heap.size,0,none⟩=some (.string x.name)):=Afl ((ff wr.heap.size 0 (by simp)).trans (Afz wr _ _ _ 0));clear ae)
           | (go_at_call 183;have HS:=Afl ((HV.out.take hi).still (Still.aK (iH dO.out) hB) λ_ _ h=>h);refine(GC (λq=>jF q.name x.name) call184 HS.out (Ad5 hB (Agq jA)) (λW y hW _ _=>app1 (I5 (p:=⟨wr.heap.size,0,none⟩) ((hW.cell (p:=⟨wr.heap.size,0,none⟩) aN).trans kQ.out) (Ad6 aN hW.size)))).mono ?_;rintro e w2 ⟨rfl,ak⟩;obtain⟨ef,nD⟩:=fy ak rfl;have ba:wr.heap.size<w2.heap.size:=Ad6 aN ak.size;have qH:w.heap.size<w2.heap.size:=Ad6 jA ak.size;have dI:=Afl (chain dO.out ak jA);clear ak)
           | (go_at_call 154;refine(yu (by omega) (by omega) _).mono ?_;rintro e w3 ⟨rfl,bD⟩;obtain⟨He,xM⟩:=fy bD rfl;have B1:=Afl (chain dI.out bD qH);have jB:wr.heap.size<w3.heap.size:=Ad6 ba bD.size;have Vq:w.heap.size<w3.heap.size:=Ad6 qH bD.size;clear bD))
       go_ret;exact⟨aX (fG.out 1 (by unfold kJ;rw[ea,ld,ij];rfl) (by omega)),iH B1.out⟩
      |true=>
       cases yb:bX x.bears 0 2 with
       |false=>
        go_wp2_with (first
                | (go_at_call 182;refine(isName dH _).mono ?_;rintro e w1 ⟨rfl,ae⟩;obtain⟨ff,gM⟩:=fy ae rfl;have aN:wr.heap.size<w1.heap.size:=oE ae;have jA:w.heap.size<w1.heap.size:=Agp tL aN;have dO:=Afl (cU iC.out ae aI);have kQ:Hid (w1.cell? ⟨wr.heap.size,0,none⟩=some (.string x.name)):=Afl ((ff wr.heap.size 0 (by simp)).trans (Afz wr _ _ _ 0));clear ae)
                | (go_at_call 183;have HS:=Afl ((HV.out.take hi).still (Still.aK (iH dO.out) hB) λ_ _ h=>h);refine(GC (λq=>jF q.name x.name) call184 HS.out (Ad5 hB (Agq jA)) (λW y hW _ _=>app1 (I5 (p:=⟨wr.heap.size,0,none⟩) ((hW.cell (p:=⟨wr.heap.size,0,none⟩) aN).trans kQ.out) (Ad6 aN hW.size)))).mono ?_;rintro e w2 ⟨rfl,ak⟩;obtain⟨ef,nD⟩:=fy ak rfl;have ba:wr.heap.size<w2.heap.size:=Ad6 aN ak.size;have qH:w.heap.size<w2.heap.size:=Ad6 jA ak.size;have dI:=Afl (chain dO.out ak jA);clear ak)
                | (go_at_call 154;refine(yu (by omega) (by omega) _).mono ?_;rintro e w3 ⟨rfl,bD⟩;obtain⟨He,xM⟩:=fy bD rfl;have B1:=Afl (chain dI.out bD qH);have jB:wr.heap.size<w3.heap.size:=Ad6 ba bD.size;have Vq:w.heap.size<w3.heap.size:=Ad6 qH bD.size;clear bD)
                | (go_at_call 134;refine(inside _ _ _ _).mono ?_;rintro e w' ⟨rfl,rfl⟩))
        go_ret;exact⟨aX (fG.out 1 (by unfold kJ;rw[ea,ld,ij,yb];rfl) (by omega)),iH B1.out⟩
       |true=>
        go_wp2_with (first
                | (go_at_call 182;refine(isName dH _).mono ?_;rintro e w1 ⟨rfl,ae⟩;obtain⟨ff,gM⟩:=fy ae rfl;have aN:wr.heap.size<w1.heap.size:=oE ae;have jA:w.heap.size<w1.heap.size:=Agp tL aN;have dO:=Afl (cU iC.out ae aI);have kQ:Hid (w1.cell? ⟨wr.heap.size,0,none⟩=some (.string x.name)):=Afl ((ff wr.heap.size 0 (by simp)).trans (Afz wr _ _ _ 0));clear ae)
                | (go_at_call 183;have HS:=Afl ((HV.out.take hi).still (Still.aK (iH dO.out) hB) λ_ _ h=>h);refine(GC (λq=>jF q.name x.name) call184 HS.out (Ad5 hB (Agq jA)) (λW y hW _ _=>app1 (I5 (p:=⟨wr.heap.size,0,none⟩) ((hW.cell (p:=⟨wr.heap.size,0,none⟩) aN).trans kQ.out) (Ad6 aN hW.size)))).mono ?_;rintro e w2 ⟨rfl,ak⟩;obtain⟨ef,nD⟩:=fy ak rfl;have ba:wr.heap.size<w2.heap.size:=Ad6 aN ak.size;have qH:w.heap.size<w2.heap.size:=Ad6 jA ak.size;have dI:=Afl (chain dO.out ak jA);clear ak)
                | (go_at_call 154;refine(yu (by omega) (by omega) _).mono ?_;rintro e w3 ⟨rfl,bD⟩;obtain⟨He,xM⟩:=fy bD rfl;have B1:=Afl (chain dI.out bD qH);have jB:wr.heap.size<w3.heap.size:=Ad6 ba bD.size;have Vq:w.heap.size<w3.heap.size:=Ad6 qH bD.size;clear bD)
                | (go_at_call 134;refine(inside _ _ _ _).mono ?_;rintro e w' ⟨rfl,rfl⟩))
        go_roundw;case rel=>exact⟨i+1,by omega,by go_num,λj y hj hy=>by
                rcases Agm.1 hj with h|rfl
                ·exact HH.out.1 j y h hy
                ·rw[HX.out] at hy;cases hy;unfold kJ;rw[ea,ld,ij,yb];rfl,B1.out⟩
        case measure=>simp[Afs];omega
   ·obtain rfl:i=m:=by omega
    go_wp2;go_ret;refine⟨aX ?_,iH HH.out.2⟩
    unfold iw;rw[dC.out,hlen,if_pos rfl,se (λj x hj=>HH.out.1 j x (by have:=(Af7.1 hj).1;have:=dC.out;omega) hj)]
def nJ{n a b:Int}(h:bX n a b=true):a<=n/\n<=b:=by simpa [bX] using h
def lX(aH:Int):Int->List Span->Int
 |_,[]=>0
 |last,k::l=>if ma k.lo k.hi 0 (aH - 1) aH then if k.lo<=last then 7 else lX aH k.hi l else 1
def gJ(dw:List bR)(x:bR):Int:=
 if mK x.name.data.toList then if dw.any (λq=>jF q.name x.name) then 5 else if bX x.aH 1 40 then if 3<x.cM.length then 2 else lX x.aH (-1) x.cM else 1 else 4
def drop_cons{α:Type}{l:List α}{i:Nat}{x:α}(h:l[i]?=some x):l.drop i=x::l.drop (i+1):=by
 obtain⟨hi,e⟩:=Af7.1 h
 rw[List.drop_eq_getElem_cons hi,e]
def bp{x:bR}{kv v:Value}{w:Abc}{B:Nat}{l:List bR}(dH:x.name.size<=Aes)(hk:Row w B 2 Span.R kv x.cM)(hv:Row w B 3 (bR.R w B) v l)(hB:B<=w.heap.size):
 Aet prog 185 #[.agg #[.string x.name,.int .i64 x.aH,kv],v] w λe w'=>e=.returned (.int .i64 (gJ l x))/\Below w.heap.size w w':=by
 have HV:=Afl hv;have HK:=Afl hk;obtain⟨A,m,c,rfl,hl,dX,hc,hr⟩:=hk.open_;have dC:=Afl hl;unfold Aes at hc;have H2:=Afl hr;have tL:w.heap.size<=w.heap.size:=Ad4 _;clear hl hr hk hv;cases ea:mK x.name.data.toList with
 |false=>
  go_enter func185,Tryz.ntmps185;go_wp2_with (first
   | (go_at_call 182;refine(isName dH _).mono ?_;rintro e w1 ⟨rfl,ae⟩;obtain⟨ff,gM⟩:=fy ae rfl))
  go_ret;exact⟨aX (by unfold gJ;rw[ea];rfl),cU (Aft _ _) ae (Ad4 _)⟩
 |true=>
  cases ld:l.any (λq=>jF q.name x.name) with
  |true=>
   go_enter func185,Tryz.ntmps185;go_wp2_with (first
    | (go_at_call 182;refine(isName dH _).mono ?_;rintro e w1 ⟨rfl,ae⟩;obtain⟨ff,gM⟩:=fy ae rfl;have aN:w.heap.size<w1.heap.size:=oE ae;have dO:=Afl (cU (Aft w.heap.size w) ae (Ad4 _));have kQ:Hid (w1.cell? ⟨w.heap.size,0,none⟩=some (.string x.name)):=Afl ((ff w.heap.size 0 (by simp)).trans (Afz w _ _ _ 0));clear ae)
    | (go_at_call 205;have HS:=Afl (HV.out.still (Still.aK dO.out hB) λ_ _ h=>h.still (Still.aK dO.out hB));refine(GD (λq=>jF q.name x.name) call206 HS.out (Ad5 hB (Agq aN)) (λW y kv hW _ _ _=>app1 (I6 (p:=⟨w.heap.size,0,none⟩) ((hW.cell (p:=⟨w.heap.size,0,none⟩) aN).trans kQ.out) (Ad6 aN hW.size)))).mono ?_;rintro e w2 ⟨rfl,ak⟩;obtain⟨ef,nD⟩:=fy ak rfl;have ba:w.heap.size<w2.heap.size:=Ad6 aN ak.size;have dI:=Afl (chain dO.out ak (Agq aN));clear ak))
   go_ret;exact⟨aX (by unfold gJ;rw[ea,ld];rfl),dI.out⟩
  |false=>
   cases ij:bX x.aH 1 40 with
   |false=>
    go_enter func185,Tryz.ntmps185;go_wp2_with (first
     | (go_at_call 182;refine(isName dH _).mono ?_;rintro e w1 ⟨rfl,ae⟩;obtain⟨ff,gM⟩:=fy ae rfl;have aN:w.heap.size<w1.heap.size:=oE ae;have dO:=Afl (cU (Aft w.heap.size w) ae (Ad4 _));have kQ:Hid (w1.cell? ⟨w.heap.size,0,none⟩=some (.string x.name)):=Afl ((ff w.heap.size 0 (by simp)).trans (Afz w _ _ _ 0));clear ae)
     | (go_at_call 205;have HS:=Afl (HV.out.still (Still.aK dO.out hB) λ_ _ h=>h.still (Still.aK dO.out hB));refine(GD (λq=>jF q.name x.name) call206 HS.out (Ad5 hB (Agq aN)) (λW y kv hW _ _ _=>app1 (I6 (p:=⟨w.heap.size,0,none⟩) ((hW.cell (p:=⟨w.heap.size,0,none⟩) aN).trans kQ.out) (Ad6 aN hW.size)))).mono ?_;rintro e w2 ⟨rfl,ak⟩;obtain⟨ef,nD⟩:=fy ak rfl;have ba:w.heap.size<w2.heap.size:=Ad6 aN ak.size;have dI:=Afl (chain dO.out ak (Agq aN));clear ak)
     | (go_at_call 134;refine(inside _ _ _ _).mono ?_;rintro e w' ⟨rfl,rfl⟩))
    go_ret;exact⟨aX (by unfold gJ;rw[ea,ld,ij];rfl),dI.out⟩
   |true=>
    obtain⟨pb,Un⟩:=nJ ij;by_cases h3:3<m
    ·go_enter func185,Tryz.ntmps185
     go_wp2_with (first
      | (go_at_call 182;refine(isName dH _).mono ?_;rintro e w1 ⟨rfl,ae⟩;obtain⟨ff,gM⟩:=fy ae rfl;have aN:w.heap.size<w1.heap.size:=oE ae;have dO:=Afl (cU (Aft w.heap.size w) ae (Ad4 _));have kQ:Hid (w1.cell? ⟨w.heap.size,0,none⟩=some (.string x.name)):=Afl ((ff w.heap.size 0 (by simp)).trans (Afz w _ _ _ 0));clear ae)
      | (go_at_call 205;have HS:=Afl (HV.out.still (Still.aK dO.out hB) λ_ _ h=>h.still (Still.aK dO.out hB));refine(GD (λq=>jF q.name x.name) call206 HS.out (Ad5 hB (Agq aN)) (λW y kv hW _ _ _=>app1 (I6 (p:=⟨w.heap.size,0,none⟩) ((hW.cell (p:=⟨w.heap.size,0,none⟩) aN).trans kQ.out) (Ad6 aN hW.size)))).mono ?_;rintro e w2 ⟨rfl,ak⟩;obtain⟨ef,nD⟩:=fy ak rfl;have ba:w.heap.size<w2.heap.size:=Ad6 aN ak.size;have dI:=Afl (chain dO.out ak (Agq aN));clear ak)
      | (go_at_call 134;refine(inside _ _ _ _).mono ?_;rintro e w' ⟨rfl,rfl⟩))
     go_ret;exact⟨aX (by unfold gJ;rw[ea,ld,ij,dC.out];simp[h3]),dI.out⟩
    ·go_enter func185,Tryz.ntmps185
     go_wp2_with (first
      | (go_at_call 182;refine(isName dH _).mono ?_;rintro e w1 ⟨rfl,ae⟩;obtain⟨ff,gM⟩:=fy ae rfl;have aN:w.heap.size<w1.heap.size:=oE ae;have dO:=Afl (cU (Aft w.heap.size w) ae (Ad4 _));have kQ:Hid (w1.cell? ⟨w.heap.size,0,none⟩=some (.string x.name)):=Afl ((ff w.heap.size 0 (by simp)).trans (Afz w _ _ _ 0));have YL:Hid (w1.cell? ⟨w.heap.size,1,none⟩=some (.int .i64 x.aH)):=Afl ((ff w.heap.size 1 (by simp)).trans (Afz w _ _ _ 1));clear ae)
      | (go_at_call 205;have HS:=Afl (HV.out.still (Still.aK dO.out hB) λ_ _ h=>h.still (Still.aK dO.out hB));refine(GD (λq=>jF q.name x.name) call206 HS.out (Ad5 hB (Agq aN)) (λW y kv hW _ _ _=>app1 (I6 (p:=⟨w.heap.size,0,none⟩) ((hW.cell (p:=⟨w.heap.size,0,none⟩) aN).trans kQ.out) (Ad6 aN hW.size)))).mono ?_;rintro e w2 ⟨rfl,ak⟩;obtain⟨ef,nD⟩:=fy ak rfl;have ba:w.heap.size<w2.heap.size:=Ad6 aN ak.size;have dI:=Afl (chain dO.out ak (Agq aN));have YM:Hid (w2.cell? ⟨w.heap.size,1,none⟩=some (.int .i64 x.aH)):=Afl ((ef w.heap.size 1 aN).trans YL.out);clear ak)
      | (go_at_call 134;refine(inside _ _ _ _).mono ?_;rintro e w' ⟨rfl,rfl⟩))
     clear ff gM ef nD;go_loopw [4,5,7,30] (λr la q k wr=>∃(i:Nat) (z:Int),i<=m/\k=.int .i64 i/\la=.int .i64 z/\lX x.aH (-1) x.cM=lX x.aH z (x.cM.drop i)/\Below w2.heap.size w2 wr) (λ_ _ _ k _=>m - (Afs k).toNat)
     case atStart=>exact⟨0,-1,Agl _,rfl,rfl,rfl,Aft _ _⟩
     case round=>
      obtain⟨i,z,hi,rfl,rfl,bt,hb⟩:=hrel;have HH:=Afl (Aee bt hb);have dY:=hb.size;have DZ:w.heap.size<wr.heap.size:=Ad6 ba dY;have hlg: wr.cell? ⟨w.heap.size,1,none⟩=some (.int .i64 x.aH):=(hb.cell (p:=⟨w.heap.size,1,none⟩) ba).trans YM.out;by_cases al:i<m
      ·obtain⟨ad,y,cs,rfl,aC,hx,rfl,-,au⟩:=H2.out i al
       have st:Still B w wr:=(Still.aK dI.out hB).trans (Still.aK hb (by omega))
       have h0:=cC au st aC rfl;have h1:=bK au st aC 0 rfl;have HX:=Afl (drop_cons hx);clear bt hb hx au st;cases hq:ma y.lo y.hi 0 (x.aH - 1) x.aH with
       |false=>
        go_wp2_with (first
            | (go_at_call 154;refine(yu (by omega) (by omega) _).mono ?_;rintro e w3 ⟨rfl,bD⟩;obtain⟨He,xM⟩:=fy bD rfl))
        go_ret;exact⟨aX (by unfold gJ;rw[ea,ld,ij,dC.out];simp[h3,HH.out.1,HX.out,lX,hq]),chain dI.out (cU HH.out.2 bD dY) (Agq ba)⟩
       |true=>
        go_wp2_with (first
            | (go_at_call 154;refine(yu (by omega) (by omega) _).mono ?_;rintro e w3 ⟨rfl,bD⟩;obtain⟨He,xM⟩:=fy bD rfl;have jB:wr.heap.size<w3.heap.size:=oE bD))
        ·have hz:y.lo<=z:=by assumption
         go_ret;exact⟨aX (by unfold gJ;rw[ea,ld,ij,dC.out];simp[h3,HH.out.1,HX.out,lX,hq,hz]),chain dI.out (cU HH.out.2 bD dY) (Agq ba)⟩
        ·have hz:z<y.lo:=by assumption
         go_roundw;case rel=>exact⟨i+1,y.hi,by omega,by go_num,rfl,by rw[HH.out.1,HX.out];simp[lX,hq];omega,cU HH.out.2 bD dY⟩
         case measure=>simp[Afs];omega
      ·obtain rfl:i=m:=by omega
       go_wp2;go_ret;refine⟨aX ?_,chain dI.out HH.out.2 (Agq ba)⟩
       unfold gJ;rw[ea,ld,ij,dC.out];simp[h3,HH.out.1]
       rw[Age (Agn dC.out)];rfl
def ua{P:Abe}{id:Nat}{Q:Exit->Act->Abc->Prop}{a:Act}{w:Abc}{l:List Oper}(n:Nat)(hm:P.follows .mixedOrders=true)(hB:Region.lexTailB .any l.toArray n=true)
 (h:wpStill P l.toArray w.drew (λa'=>wpList P l.toArray Q (l.drop n) a' w.drew) (l.take n) a):(Code.region id l.toArray true).wp P Q a w:=
 wp_region_still_tail n hm hB h
def kC(l:List bR):Int:=if 3<l.length then 2 else scan gJ [] l
def aF{n:Int}{pv bv tv:Value}{w:Abc}{B:Nat}{l:List bR}(hv:Row w B 3 (bR.R w B) bv l)(hB:B<=w.heap.size):
 Aet prog 143 #[.agg #[.int .i64 n,pv,bv,tv]] w λe w'=>e=.returned (.int .i64 (kC l))/\Below w.heap.size w w':=by
 have HV:=Afl hv;obtain⟨A,m,c,rfl,hl,dX,hc,hr⟩:=hv.open_;have dC:=Afl hl;unfold Aes at hc;have H2:=Afl hr;clear hl hr hv;by_cases hlen:3<m
 ·go_enter func143,Tryz.ntmps143
  go_wp2;go_ret;exact⟨aX (by unfold kC;rw[dC.out,if_pos hlen]),(Aft _ _).alloc (Ad4 _) _⟩
 ·go_enter func143,Tryz.ntmps143
  go_wp2;go_loopw [2,3,4,5,15] (λr t q s k wr=>∃i:Nat,i<=m/\k=.int .i64 i/\(∀(j:Nat) (x:bR),j<i->l[j]?=some x->gJ (l.take j) x=0)/\Below (w.heap.size+1) (w.alloc (Afq #[.int .i64 n,pv,.slice A m c,tv] 117)) wr) (λ_ _ _ _ k _=>m - (Afs k).toNat)
  case atStart=>exact⟨0,Agl _,rfl,λj _ hj=>by omega,Aft _ _⟩
  case round=>
   obtain⟨i,hi,rfl,bt,hb⟩:=hrel;have HH:=Afl (Aee bt hb);have dY:=hb.size;have aI:w.heap.size+1<=wr.heap.size:=by simpa using dY
   have tL:w.heap.size<=wr.heap.size:=by omega
   have DZ:w.heap.size<wr.heap.size:=by omega
   have ho: wr.cell? ⟨w.heap.size,2,none⟩=some (.slice A m c):=(hb.cell (p:=⟨w.heap.size,2,none⟩) (by simp)).trans (by simp[go_sem])
   by_cases al:i<m
   ·obtain⟨ad,x,cs,rfl,aC,hx,⟨kv,rfl,dH,dj⟩,-,au⟩:=H2.out i al
    have st:Still B w wr:=((Still.refl w).alloc hB _).trans (Still.aK hb (by omega))
    have ST:=Afl st;obtain⟨A2,c2,rfl,-⟩:=id dj;obtain⟨n2,dM⟩:∃n2,n2=x.cM.length:=⟨_,rfl⟩
    rw[<-dM] at dj au;clear dM;have yV:=Afl dj;have h0:=cC au st aC rfl;have h1:=bK au st aC 0 rfl;have h2:=bK au st aC 1 rfl;have HX:=Afl hx;clear bt hb hx au st dY dj;have iC:=Afl HH.out.2;have DD:i<=c:=by omega
    go_wp2;refine ua 6 (by kernel_rfl) (by kernel_rfl) ?_
    simp only[Agf,Agg,Agh,Agi];repeat still_step
    refine wpStill_nil ?_
    have HS:Hid (Still B w (wr.alloc (Afq #[Value.string x.name,Afx Adf x.aH,Value.slice A2 n2 c2] 59)).drew):=Afl λp hp=>(Afy wr _ p (by omega)).trans (ST.out p hp)
    have HR:=Afl ((HV.out.take hi).still HS.out λ_ _ h=>h.still HS.out)
    have F7:=Afl (yV.out.still HS.out λ_ _ h=>h)
    by_cases hz:gJ (l.take i) x=0
    ·go_wp2_with (first
      | (go_at_call 185;refine(bp dH F7.out HR.out (by simp;omega)).mono ?_;rintro e w1 ⟨rfl,ae⟩;have dO:=Afl (cU iC.out (iU ae) aI);clear ae))
     go_roundw;case rel=>exact⟨i+1,by omega,by go_num,λj y hj hy=>by
      rcases Agm.1 hj with h|rfl
      ·exact HH.out.1 j y h hy
      ·rw[HX.out] at hy;cases hy;exact hz,dO.out⟩
     case measure=>simp[Afs];omega
    ·go_wp2_with (first
      | (go_at_call 185;refine(bp dH F7.out HR.out (by simp;omega)).mono ?_;rintro e w1 ⟨rfl,ae⟩;have dO:=Afl (cU iC.out (iU ae) aI);clear ae))
     go_ret;exact⟨aX (by unfold kC;rw[dC.out,if_neg hlen,sf HX.out HH.out.1 hz]),iH dO.out⟩
   ·obtain rfl:i=m:=by omega
    go_wp2;go_ret;refine⟨aX ?_,iH HH.out.2⟩
    unfold kC;rw[dC.out,if_neg hlen,se (λj x hj=>HH.out.1 j x (by have:=(Af7.1 hj).1;have:=dC.out;omega) hj)]
def eE(np:Int):Option Int->List Int->Int
 |_,[]=>0
 |none,k::l=>if bX k 0 (np - 1) then eE np (some k) l else 6
 |some p,k::l=>if bX k 0 (np - 1) then if k<=p then 7 else eE np (some k) l else 6
def kh(np:Int)(t:Tape):Int:=
 if t.pieces.length=0 then 2 else if eE np none t.pieces≠0 then eE np none t.pieces else if ma t.sum.lo t.sum.hi 0 120 121 then 0 else 1
def kK(np:Int)(l:List Tape):Int:=if 4<l.length then 2 else scan (λ_ t=>kh np t) [] l
def l8(l:List Int)(i:Nat):Option Int:=if i=0 then none else l[i - 1]?
def aJ{n:Int}{pv bv tv:Value}{w:Abc}{B:Nat}{lp:List Piece}{l:List Tape}(hp:Row w B 4 Piece.R pv lp)(hv:Row w B 3 (Tape.R w B) tv l)(hB:B<=w.heap.size):
 Aet prog 144 #[.agg #[.int .i64 n,pv,bv,tv]] w λe w'=>e=.returned (.int .i64 (kK lp.length l))/\Below w.heap.size w w':=by
 obtain⟨PA,np,pc,rfl,kH,Hv,vw,-⟩:=hp.open_;obtain⟨A,m,c,rfl,hl,dX,hc,hr⟩:=hv.open_;have dC:=Afl hl;have DQ:=Afl kH;unfold Aes at hc vw;have H2:=Afl hr;clear hl hr hv kH hp;by_cases hlen:4<m
 ·go_enter func144,Tryz.ntmps144
  go_wp2;go_ret;exact⟨aX (by unfold kK;rw[dC.out,if_pos hlen]),(Aft _ _).alloc (Ad4 _) _⟩
 ·go_enter func144,Tryz.ntmps144
  go_wp2;go_loopw [2,4,5,6,16] (λr t q s k wr=>∃i:Nat,i<=m/\k=.int .i64 i/\(∀(j:Nat) (x:Tape),j<i->l[j]?=some x->kh np x=0)/\Below (w.heap.size+1) (w.alloc (Afq #[.int .i64 n,.slice PA np pc,bv,.slice A m c] 117)) wr) (λ_ _ _ _ k _=>m - (Afs k).toNat)
  case atStart=>exact⟨0,Agl _,rfl,λj _ hj=>by omega,Aft _ _⟩
  case round=>
   obtain⟨i,hi,rfl,bt,hb⟩:=hrel;have HH:=Afl (Aee bt hb);have dY:=hb.size;have aI:w.heap.size+1<=wr.heap.size:=by simpa using dY
   have tL:w.heap.size<=wr.heap.size:=by omega
   have DZ:w.heap.size<wr.heap.size:=by omega
   have ho: wr.cell? ⟨w.heap.size,1,none⟩=some (.slice PA np pc):=(hb.cell (p:=⟨w.heap.size,1,none⟩) (by simp)).trans (by simp[go_sem])
   by_cases al:i<m
   ·obtain⟨ad,x,cs,rfl,aC,hx,⟨kv,rfl,dj⟩,-,au⟩:=H2.out i al
    have st:Still B w wr:=((Still.refl w).alloc hB _).trans (Still.aK hb (by omega))
    obtain⟨KA,kn,kc,rfl,da,Uu,DJ,xS⟩:=dj.open_;unfold Aes at DJ;have ST:=Afl st;have KL:=Afl da;have KR:=Afl xS;have h0:=cC au st aC rfl;have h1:=bK au st aC 0 rfl;have h2:=bK au st aC 1 rfl;have HX:=Afl hx;clear bt hb hx au st dY dj da xS;have iC:=Afl HH.out.2;have bad:∀s:Int,kh np x=s->s≠0->s=kK lp.length l:=λs hs h0=>by
     unfold kK;rw[dC.out,if_neg hlen,DQ.out,sf (f:=λ_ t=>kh np t) HX.out HH.out.1 (by rw[hs];exact h0),hs]
    have fG:=Afl bad;clear bad;by_cases iM:kn=0
    ·subst iM
     go_wp2;go_ret;exact⟨aX (fG.out 2 (by unfold kh;rw[KL.out];rfl) (by omega)),iH (iC.out.trans ((Aft _ _).alloc aI _))⟩
    ·have Hn:0<kn:=by omega
     have ig:((kn:Int)==0)=false:=by simp;omega
     go_wp2
     go_loop [2,5,6,27] (λr q s k=>∃j:Nat,j<=kn/\k=.int .i64 j/\eE np none x.pieces=eE np (l8 x.pieces j) (x.pieces.drop j)) (λ_ _ _ k=>kn - (Afs k).toNat)
     case atStart=>exact⟨0,Agl _,rfl,rfl⟩
     case round=>
      obtain⟨j,hj,rfl,vx⟩:=hrel;have RE:=Afl vx;clear vx;by_cases nE:j<kn
      ·obtain⟨kd,y,jQ,rfl,qt,hy,rfl,-,ie⟩:=KR.out j nE
       have g0:=cC ie ST.out qt rfl;rw[Ago] at g0;have g1:(wr.alloc (Afq #[Value.slice (some kd) kn kc,Afx Adf x.sum.lo,Afx Adf x.sum.hi] 95)).cell? (kd.add j)=some (.int .i64 y):=(Afy wr _ _ (by rw[cq];omega)).trans g0
       clear g0;have HY:=Afl hy;clear hy ie;cases dL:bX y 0 (np - 1) with
       |false=>
        go_wp2_with (first
            | (go_at_call 134;refine(inside _ _ _ _).mono ?_;rintro e w' ⟨rfl,rfl⟩))
        go_ret;refine⟨aX (fG.out 6 ?_ (by omega)),iH (iC.out.trans ((Aft _ _).alloc aI _))⟩
        have e:eE np none x.pieces=6:=by
            rw[RE.out,drop_cons HY.out];cases l8 x.pieces j<;>simp[eE,dL]
        unfold kh;rw[KL.out,if_neg iM,e];rfl
       |true=>
        rcases Agk j with uW|uW
        ·subst uW
         rw[show kd.add 0=kd from rfl] at g1
         go_wp2_with (first
            | (go_at_call 134;refine(inside _ _ _ _).mono ?_;rintro e w' ⟨rfl,rfl⟩))
         have hrel:eE np none x.pieces=eE np (l8 x.pieces 1) (x.pieces.drop 1):=by rw[RE.out,drop_cons HY.out];simp[l8,eE,dL,HY.out]
         go_round
         case rel=>exact⟨1,nE,by go_num,hrel⟩
         case measure=>simp[Afs];omega
        ·obtain⟨q,rfl⟩:∃q,j=q+1:=⟨j - 1,by omega⟩
         obtain⟨eT,z,SF,CQ,Uv,hz,rfl,-,vd⟩:=KR.out q (by omega)
         cases CQ;rw[show kd.add (q+1)=⟨kd.block,kd.off+(q+1),none⟩ from rfl] at g1
         have g2:=cC vd ST.out qt rfl;rw[Ago] at g2;have g3:(wr.alloc (Afq #[Value.slice (some kd) kn kc,Afx Adf x.sum.lo,Afx Adf x.sum.hi] 95)).cell? (kd.add q)=some (.int .i64 z):=(Afy wr _ _ (by rw[cq];omega)).trans g2
         have HZ:=Afl hz;clear g2 hz vd;go_wp2_with (first
            | (go_at_call 134;refine(inside _ _ _ _).mono ?_;rintro e w' ⟨rfl,rfl⟩))
         ·have qI:y<=z:=by assumption
          go_ret;refine⟨aX (fG.out 7 ?_ (by omega)),iH (iC.out.trans ((Aft _ _).alloc aI _))⟩
          have e:eE np none x.pieces=7:=by
              rw[RE.out,drop_cons HY.out];simp[l8,HZ.out,eE,dL,qI]
          unfold kh;rw[KL.out,if_neg iM,e];rfl
         ·have qI:z<y:=by assumption
          have hrel:eE np none x.pieces=eE np (l8 x.pieces (q+2)) (x.pieces.drop (q+2)):=by rw[RE.out,drop_cons HY.out];simp[l8,HZ.out,HY.out,eE,dL];omega
          go_round
          case rel=>exact⟨q+2,by omega,by go_num,hrel⟩
          case measure=>simp[Afs];omega
      ·obtain rfl:j=kn:=by omega
       have e:eE np none x.pieces=0:=by
           rw[RE.out,Age (Agn KL.out)];cases l8 x.pieces j<;>rfl
       have HE:=Afl e;clear e;cases rR:ma x.sum.lo x.sum.hi 0 120 121 with
       |false=>
        go_wp2_with (first
            | (go_at_call 154;refine(yu (by omega) (by omega) _).mono ?_;rintro e w3 ⟨rfl,bD⟩))
        go_ret;exact⟨aX (fG.out 1 (by unfold kh;rw[KL.out,if_neg iM,HE.out,rR];rfl) (by omega)),iH (cU iC.out bD aI)⟩
       |true=>
        go_wp2_with (first
            | (go_at_call 154;refine(yu (by omega) (by omega) _).mono ?_;rintro e w3 ⟨rfl,bD⟩))
        go_roundw;case rel=>exact⟨i+1,by omega,by go_num,λk y hk hy=>by
            rcases Agm.1 hk with h|rfl
            ·exact HH.out.1 k y h hy
            ·rw[HX.out] at hy;cases hy;unfold kh;rw[KL.out,if_neg iM,HE.out,rR];rfl,cU iC.out bD aI⟩
        case measure=>simp[Afs];omega
   ·obtain rfl:i=m:=by omega
    go_wp2;go_ret;refine⟨aX ?_,iH HH.out.2⟩
    unfold kK;rw[dC.out,if_neg hlen,DQ.out,se (f:=λ_ t=>kh np t) (λj x hj=>HH.out.1 j x (by have:=(Af7.1 hj).1;have:=dC.out;omega) hj)]
end Go.Tw
namespace Go.Tw
variable [Go.Tw.aR]
open Go Go.Proofs Go.RowKit
def jP(b:ao):List Int:=[if bX b.ag 0 3 then 0 else 1,iw b.pieces,kC b.aF,kK b.pieces.length b.aJ]
def dF(b:ao):Int:=scan (λ_ s=>s) [] (jP b)
def pE(w:Abc)(s:Int)(p q r:Value):Abc:=
 ((w.alloc (Afq #[Afx Adf s,p,q,r] 26)).alloc (Afq #[Afx Adf s,p,q,r] 117)).alloc
   (Afq #[Value.func (Fn.func 141) #[Value.agg #[Afx Adf s,p,q,r]] #[],Value.func (Fn.func 142) #[Value.agg #[Afx Adf s,p,q,r]] #[],Value.func (Fn.func 143) #[Value.agg #[Afx Adf s,p,q,r]] #[],Value.func (Fn.func 144) #[Value.agg #[Afx Adf s,p,q,r]] #[]] 175)
section
variable (w:Abc)(s:Int)(p q r:Value)
def amM:(pE w s p q r).heap.size=w.heap.size+3:=by simp[pE]
def amH:Below w.heap.size w (pE w s p q r):=(((Aft _ _).alloc (Ad4 _) _).alloc (by simp) _).alloc (by simp;omega) _
def amI:(pE w s p q r).cell? ⟨w.heap.size+1+1,0,none⟩=some (Value.func (Fn.func 141) #[Value.agg #[Afx Adf s,p,q,r]] #[]):=by simp[pE,go_sem]
def amJ:(pE w s p q r).cell? ⟨w.heap.size+1+1,1,none⟩=some (Value.func (Fn.func 142) #[Value.agg #[Afx Adf s,p,q,r]] #[]):=by simp[pE,go_sem]
def amK:(pE w s p q r).cell? ⟨w.heap.size+1+1,2,none⟩=some (Value.func (Fn.func 143) #[Value.agg #[Afx Adf s,p,q,r]] #[]):=by simp[pE,go_sem]
def amL:(pE w s p q r).cell? ⟨w.heap.size+1+1,3,none⟩=some (Value.func (Fn.func 144) #[Value.agg #[Afx Adf s,p,q,r]] #[]):=by simp[pE,go_sem]
end
def LS{b:ao}{pv bv tv:Value}{w:Abc}{B:Nat}(hb:bg w B b pv bv tv)(hB:B<=w.heap.size):
 Aet prog 68 #[.agg #[.int .i64 b.ag,pv,bv,tv]] w λe w'=>e=.returned (.int .i64 (dF b))/\Below w.heap.size w w':=by
 have HB:=Afl hb;obtain⟨A1,c1,e1,-⟩:=id hb.pieces;obtain⟨A2,c2,e2,-⟩:=id hb.aF;obtain⟨A3,c3,e3,-⟩:=id hb.aJ;obtain⟨n1,h1⟩:∃n,n=b.pieces.length:=⟨_,rfl⟩
 obtain⟨n2,h2⟩:∃n,n=b.aF.length:=⟨_,rfl⟩
 obtain⟨n3,h3⟩:∃n,n=b.aJ.length:=⟨_,rfl⟩
 rw[<-h1] at e1;rw[<-h2] at e2;rw[<-h3] at e3
 subst e1;subst e2;subst e3
 clear hb h1 h2 h3;go_enter func68,Tryz.ntmps68;go_wp2;go_loopw [2,5,6,19] (λa f u k wr=>∃i:Nat,i<=4/\k=.int .i64 i/\(∀(j:Nat) (x:Int),j<i->(jP b)[j]?=some x->x=0)/\Below (w.heap.size+3) (pE w b.ag (.slice A1 n1 c1) (.slice A2 n2 c2) (.slice A3 n3 c3)) wr) (λ_ _ _ k _=>4 - (Afs k).toNat)
 case atStart=>exact⟨0,Agl _,rfl,λj _ hj=>by omega,Aft _ _⟩
 case round=>
  obtain⟨i,hi,rfl,bt,fX⟩:=hrel;have HH:=Afl (Aee bt fX);have aI:w.heap.size+3<=wr.heap.size:=by have:=fX.size;rw[amM] at this;exact this
  have pN:=Afl ((amH w b.ag (.slice A1 n1 c1) (.slice A2 n2 c2) (.slice A3 n3 c3)).trans (fX.mono (by omega)))
  have bT:=Afl (HB.out.still (Still.aK pN.out hB));have Mw:B<=wr.heap.size:=by omega
  clear bt;have done:∀(s:Int),(jP b)[i]?=some s->s≠0->s=dF b:=λs hs h0=>(sf (f:=λ_ s=>s) hs HH.out.1 h0).symm
  have F0:=Afl done;clear done;have next:∀(s:Int),(jP b)[i]?=some s->s=0->∀(j:Nat) (x:Int),j<i+1->(jP b)[j]?=some x->x=0:=λs hs h0 j x hj hx=>by
   rcases Agm.1 hj with h|rfl
   ·exact HH.out.1 j x h hx
   ·rw[hs] at hx;cases hx;exact h0
  have Ge:=Afl next
  clear next
  by_cases al:i<4
  ·match i,al with
   |0,_=>
    have g:=(fX.cell (p:=⟨w.heap.size+1+1,0,none⟩) (by simp)).trans (amI _ _ _ _ _)
    clear fX;have call:Aet prog 141 #[.agg #[.int .i64 b.ag,.slice A1 n1 c1,.slice A2 n2 c2,.slice A3 n3 c3]] wr λe w'=>e=.returned (.int .i64 (if bX b.ag 0 3 then 0 else 1))/\Below wr.heap.size wr w':=(ag _)
    obtain⟨s,hs⟩:∃s:Int,s=(if bX b.ag 0 3 then 0 else 1):=⟨_,rfl⟩
    rw[<-hs] at call;have cD:(jP b)[0]?=some s:=by rw[hs];rfl
    have HS:=Afl cD;have aB:=Afl call;clear hs cD call;by_cases h0:s=0
    ·go_wp2_with (first
      | (go_at_call 141;refine aB.out.mono ?_;rintro e w1 ⟨rfl,ae⟩;have aY:=Afl ae;clear ae))
     go_roundw;case rel=>exact⟨0+1,by omega,by go_num,Ge.out s HS.out h0,HH.out.2.trans (aY.out.mono aI)⟩
     case measure=>simp[Afs]
    ·go_wp2_with (first
      | (go_at_call 141;refine aB.out.mono ?_;rintro e w1 ⟨rfl,ae⟩;have aY:=Afl ae;clear ae))
     go_ret;exact⟨aX (F0.out s HS.out h0),pN.out.trans (aY.out.mono (by omega))⟩
   |1,_=>
    have g:=(fX.cell (p:=⟨w.heap.size+1+1,1,none⟩) (by simp)).trans (amJ _ _ _ _ _)
    clear fX;have call:Aet prog 142 #[.agg #[.int .i64 b.ag,.slice A1 n1 c1,.slice A2 n2 c2,.slice A3 n3 c3]] wr λe w'=>e=.returned (.int .i64 (iw b.pieces))/\Below wr.heap.size wr w':=(pieces bT.out.pieces Mw)
    obtain⟨s,hs⟩:∃s:Int,s=(iw b.pieces):=⟨_,rfl⟩
    rw[<-hs] at call;have cD:(jP b)[1]?=some s:=by rw[hs];rfl
    have HS:=Afl cD;have aB:=Afl call;clear hs cD call;by_cases h0:s=0
    ·go_wp2_with (first
      | (go_at_call 142;refine aB.out.mono ?_;rintro e w1 ⟨rfl,ae⟩;have aY:=Afl ae;clear ae))
     go_roundw;case rel=>exact⟨1+1,by omega,by go_num,Ge.out s HS.out h0,HH.out.2.trans (aY.out.mono aI)⟩
     case measure=>simp[Afs]
    ·go_wp2_with (first
      | (go_at_call 142;refine aB.out.mono ?_;rintro e w1 ⟨rfl,ae⟩;have aY:=Afl ae;clear ae))
     go_ret;exact⟨aX (F0.out s HS.out h0),pN.out.trans (aY.out.mono (by omega))⟩
   |2,_=>
    have g:=(fX.cell (p:=⟨w.heap.size+1+1,2,none⟩) (by simp)).trans (amK _ _ _ _ _)
    clear fX;have call:Aet prog 143 #[.agg #[.int .i64 b.ag,.slice A1 n1 c1,.slice A2 n2 c2,.slice A3 n3 c3]] wr λe w'=>e=.returned (.int .i64 (kC b.aF))/\Below wr.heap.size wr w':=(aF bT.out.aF Mw)
    obtain⟨s,hs⟩:∃s:Int,s=(kC b.aF):=⟨_,rfl⟩
    rw[<-hs] at call;have cD:(jP b)[2]?=some s:=by rw[hs];rfl
    have HS:=Afl cD;have aB:=Afl call;clear hs cD call;by_cases h0:s=0
    ·go_wp2_with (first
      | (go_at_call 143;refine aB.out.mono ?_;rintro e w1 ⟨rfl,ae⟩;have aY:=Afl ae;clear ae))
     go_roundw;case rel=>exact⟨2+1,by omega,by go_num,Ge.out s HS.out h0,HH.out.2.trans (aY.out.mono aI)⟩
     case measure=>simp[Afs]
    ·go_wp2_with (first
      | (go_at_call 143;refine aB.out.mono ?_;rintro e w1 ⟨rfl,ae⟩;have aY:=Afl ae;clear ae))
     go_ret;exact⟨aX (F0.out s HS.out h0),pN.out.trans (aY.out.mono (by omega))⟩
   |3,_=>
    have g:=(fX.cell (p:=⟨w.heap.size+1+1,3,none⟩) (by simp)).trans (amL _ _ _ _ _)
    clear fX;have call:Aet prog 144 #[.agg #[.int .i64 b.ag,.slice A1 n1 c1,.slice A2 n2 c2,.slice A3 n3 c3]] wr λe w'=>e=.returned (.int .i64 (kK b.pieces.length b.aJ))/\Below wr.heap.size wr w':=(aJ bT.out.pieces bT.out.aJ Mw)
    obtain⟨s,hs⟩:∃s:Int,s=(kK b.pieces.length b.aJ):=⟨_,rfl⟩
    rw[<-hs] at call;have cD:(jP b)[3]?=some s:=by rw[hs];rfl
    have HS:=Afl cD;have aB:=Afl call;clear hs cD call;by_cases h0:s=0
    ·go_wp2_with (first
      | (go_at_call 144;refine aB.out.mono ?_;rintro e w1 ⟨rfl,ae⟩;have aY:=Afl ae;clear ae))
     go_roundw;case rel=>exact⟨3+1,by omega,by go_num,Ge.out s HS.out h0,HH.out.2.trans (aY.out.mono aI)⟩
     case measure=>simp[Afs]
    ·go_wp2_with (first
      | (go_at_call 144;refine aB.out.mono ?_;rintro e w1 ⟨rfl,ae⟩;have aY:=Afl ae;clear ae))
     go_ret;exact⟨aX (F0.out s HS.out h0),pN.out.trans (aY.out.mono (by omega))⟩
  ·obtain rfl:i=4:=by omega
   clear fX;go_wp2;go_ret;refine⟨aX (se (f:=λ_ s=>s) (λj x hx=>HH.out.1 j x (by have:=(Af7.1 hx).1;simpa [jP] using this) hx)).symm,pN.out⟩
end Go.Tw
namespace Go.Tw
variable [Go.Tw.aR]
open Go Go.Proofs Go.RowKit
def po(c d:Cut):Int:=if c.bp≠d.bp then c.bp - d.bp else c.from_ - d.from_
def less{c d:Cut}{w:Abc}(h1:0<=c.bp)(h2:0<=d.bp)(h3:0<=c.from_)(h4:0<=d.from_)(h5:c.bp<=1000)(h6:d.bp<=1000)(h7:c.from_<=1000)(h8:d.from_<=1000):
 Aet prog 173 #[.agg #[.int .i64 c.bp,.int .i64 c.from_],.agg #[.int .i64 d.bp,.int .i64 d.from_]] w λe w'=>e=.returned (.int .i64 (po c d))/\Below w.heap.size w w':=by
 by_cases h:c.bp=d.bp
 ·have hb:(c.bp !=d.bp)=false:=by simp[h]
  have H:=Afl h;clear h;go_enter func173,Tryz.ntmps173;go_wp2;go_ret;exact⟨aX (by unfold po;rw[if_neg (by simp[H.out])]),((Aft _ _).alloc (Ad4 _) _).alloc (by simp) _⟩
 ·have hb:(c.bp !=d.bp)=true:=by simp[h]
  have H:=Afl h;clear h;go_enter func173,Tryz.ntmps173;go_wp2;go_ret;exact⟨aX (by unfold po;rw[if_pos H.out]),((Aft _ _).alloc (Ad4 _) _).alloc (by simp) _⟩
def nv(s:Int)(c d:Cut)(n m:Int):Bool:= !(c.bp==d.bp) || (decide (c.from_+n+s<=d.from_) ||decide (d.from_+m+s<=c.from_))
def apart{s n m:Int}{c d:Cut}{pv bv tv:Value}{w:Abc}(h1:0<=s/\s<=1000)(h2:0<=n/\n<=1000)(h3:0<=m/\m<=1000)(h4:0<=c.from_/\c.from_<=1000)(h5:0<=d.from_/\d.from_<=1000)
 (hp:∃A n c,pv=.slice A n c)(hb:∃A n c,bv=.slice A n c)(ht:∃A n c,tv=.slice A n c):
 Aet prog 166 #[.agg #[.int .i64 s,pv,bv,tv],.agg #[.int .i64 c.bp,.int .i64 c.from_],.agg #[.int .i64 d.bp,.int .i64 d.from_],.int .i64 n,.int .i64 m] w λe w'=>e=.returned (.bool (nv s c d n m))/\Below w.heap.size w w':=by
 obtain⟨A1,n1,c1,rfl⟩:=hp;obtain⟨A2,n2,c2,rfl⟩:=hb;obtain⟨A3,n3,c3,rfl⟩:=ht;obtain⟨h1,eA⟩:=h1;obtain⟨h2,dW⟩:=h2;obtain⟨h3,rD⟩:=h3;obtain⟨h4,h4'⟩:=h4;obtain⟨h5,GW⟩:=h5;by_cases h:c.bp=d.bp
 ·have hb:(c.bp !=d.bp)=false:=by simp[h]
  have H:=Afl h;clear h;go_enter func166,Tryz.ntmps166;go_wp2;all_goals go_ret
  all_goals refine⟨b9 ?_,(((Aft _ _).alloc (Ad4 _) _).alloc (by simp) _).alloc (by simp;omega) _⟩
  all_goals (unfold nv;simp[H.out];try omega)
 ·have hb:(c.bp !=d.bp)=true:=by simp[h]
  have H:=Afl h;clear h;go_enter func166,Tryz.ntmps166;go_wp2;go_ret;exact⟨b9 (by unfold nv;simp[H.out]),(((Aft _ _).alloc (Ad4 _) _).alloc (by simp) _).alloc (by simp;omega) _⟩
def VY(n:Int)(w:Abc):Aet prog 178 (#[.int .i64 n]++#[]) w λe w'=>e=.returned (.bool (!bX n 1 40))/\Below w.heap.size w w':=by
 have e:(#[Afx .i64 n]++#[]:Array Value)=#[.int .i64 n]:=by simp
 rw[e];go_enter func178,Tryz.ntmps178;go_wp2_with (first
  | (go_at_call 134;refine(inside _ _ _ _).mono ?_;rintro e w' ⟨rfl,rfl⟩))
 go_ret;exact⟨b9 rfl,Aft _ _⟩
def qL(b:ao)(l:List Int):Int:=if l.length≠b.pieces.length then 2 else if l.any (λn=> !bX n 1 40) then 1 else 0
def ahh{b:ao}{l:List Int}{pv bv tv lv:Value}{w:Abc}{B:Nat}(hb:bg w B b pv bv tv)(hl:Row w B 1 cH lv l)(hB:B<=w.heap.size):
 Aet prog 127 #[.agg #[.int .i64 b.ag,pv,bv,tv],lv] w λe w'=>e=.returned (.int .i64 (qL b l))/\Below w.heap.size w w':=by
 have HB:=Afl hb;have HL:=Afl hl;obtain⟨A1,n1,c1,rfl,e1,h1,eA,-⟩:=hb.pieces.open_;obtain⟨A2,n2,c2,rfl,-⟩:=hb.aF.open_;obtain⟨A3,n3,c3,rfl,-⟩:=hb.aJ.open_;obtain⟨A,m,c,rfl,e2,h2,dW,-⟩:=hl.open_;unfold Aes at eA dW;have E1:=Afl e1;have E2:=Afl e2;clear hb hl e1 e2;by_cases fC:m=n1
 ·have hq:((m:Int) !=(n1:Int))=false:=by simp[fC]
  have HQ:=Afl fC;clear fC;cases ha:l.any (λn=> !bX n 1 40) with
  |true=>
   go_enter func127,Tryz.ntmps127;go_wp2_with (first
    | (go_at_call 177;refine(SD (λn=> !bX n 1 40) call178 (HL.out.still (Still.aK ((Aft w.heap.size w).alloc (Ad4 _) _) hB) λ_ _ h=>h) (by simp;omega) (λW x _ _=>VY x W)).mono ?_;rintro e w1 ⟨rfl,ae⟩))
   go_ret;exact⟨aX (by unfold qL;rw[E1.out,E2.out,if_neg (by simp[HQ.out]),ha];rfl),cU (Aft _ _) ae (Ad4 _)⟩
  |false=>
   go_enter func127,Tryz.ntmps127;go_wp2_with (first
    | (go_at_call 177;refine(SD (λn=> !bX n 1 40) call178 (HL.out.still (Still.aK ((Aft w.heap.size w).alloc (Ad4 _) _) hB) λ_ _ h=>h) (by simp;omega) (λW x _ _=>VY x W)).mono ?_;rintro e w1 ⟨rfl,ae⟩))
   go_ret;exact⟨aX (by unfold qL;rw[E1.out,E2.out,if_neg (by simp[HQ.out]),ha];rfl),cU (Aft _ _) ae (Ad4 _)⟩
 ·have hq:((m:Int) !=(n1:Int))=true:=by simp;omega
  have HQ:=Afl fC;clear fC;go_enter func127,Tryz.ntmps127;go_wp2;go_ret;exact⟨aX (by unfold qL;rw[E1.out,E2.out,if_pos HQ.out]),(Aft _ _).alloc (Ad4 _) _⟩
end Go.Tw
namespace Go.Tw
variable [Go.Tw.aR]
open Go Go.Proofs Go.RowKit
def lW(w:Abc)(s:Int)(p q r:Value)(k f:Int)(nm:ByteArray)(aH:Int)(kv:Value):Abc:=
 ((w.alloc (Afq #[.int .i64 s,p,q,r] 117)).alloc (Afq #[.int .i64 k,.int .i64 f] 56)).alloc (Afq #[.string nm,.int .i64 aH,kv] 59)
section
variable (w:Abc)(s:Int)(p q r:Value)(k f:Int)(nm:ByteArray)(aH:Int)(kv:Value)
def agM:(lW w s p q r k f nm aH kv).heap.size=w.heap.size+3:=by simp[lW]
def agL:Below w.heap.size w (lW w s p q r k f nm aH kv):=(((Aft _ _).alloc (Ad4 _) _).alloc (by simp) _).alloc (by simp;omega) _
def agG:(lW w s p q r k f nm aH kv).cell? ⟨w.heap.size,1,none⟩=some p:=by simp[lW,go_sem]
def agH:(lW w s p q r k f nm aH kv).cell? ⟨w.heap.size+1,1,none⟩=some (.int .i64 f):=by simp[lW,go_sem]
def agI:(lW w s p q r k f nm aH kv).cell? ⟨w.heap.size+1+1,0,none⟩=some (.string nm):=by simp[lW,go_sem]
def agJ:(lW w s p q r k f nm aH kv).cell? ⟨w.heap.size+1+1,1,none⟩=some (.int .i64 aH):=by simp[lW,go_sem]
def agK:(lW w s p q r k f nm aH kv).cell? ⟨w.heap.size+1+1,2,none⟩=some kv:=by simp[lW,go_sem]
end
def tR(x:bR)(bears length:Int)(c:Cut):Bool:=decide (c.from_+length - 1<x.aH) && decide (lh x.cM c.from_ (c.from_+length - 1)<=bears)
def VW{b:ao}{i k:Nat}{p:Piece}{x:bR}{from_ length:Int}{pv bv tv:Value}{w:Abc}{B:Nat}(hb:bg w B b pv bv tv)(hB:B<=w.heap.size)
 (hp:b.pieces[i]?=some p)(hx:b.aF[k]?=some x)(hf:0<=from_/\from_<=1000)(hl:0<=length/\length<=1000):
 Aet prog 165 #[.agg #[.int .i64 b.ag,pv,bv,tv],.int .i64 i,.int .i64 length,.agg #[.int .i64 k,.int .i64 from_]] w λe w'=>e=.returned (.bool (tR x p.bears length ⟨k,from_⟩))/\Below w.heap.size w w':=by
 have HB:=Afl hb;obtain⟨A1,n1,c1,rfl,e1,h1,eA,r1⟩:=hb.pieces.open_;obtain⟨A2,n2,c2,rfl,e2,h2,dW,r2⟩:=hb.aF.open_;obtain⟨A3,n3,c3,rfl,-⟩:=hb.aJ.open_;unfold Aes at eA dW;have hi:i<n1:=by have:=(Af7.1 hp).1;omega
 have hk:k<n2:=by have:=(Af7.1 hx).1;omega
 obtain⟨ee,p',uQ,rfl,Ac,DV,⟨rfl,UX⟩,-,ff⟩:=r1 i hi;obtain⟨cI,x',jQ,rfl,fV,jz,⟨kv,rfl,UY,dj⟩,-,ef⟩:=r2 k hk;obtain rfl:p'=p:=by rw[DV] at hp;exact Aea hp
 obtain rfl:x'=x:=by rw[jz] at hx;exact Aea hx
 obtain⟨A4,n4,c4,rfl,-⟩:=dj.open_;have st:=Still.refl (B:=B) w;have g3:=bK ff st Ac 2 rfl;have b0:=cC ef st fV rfl;have b1:=bK ef st fV 0 rfl;have b2:=bK ef st fV 1 rfl;have yV:=Afl dj;obtain⟨hf,Hg⟩:=hf;obtain⟨hl,dC⟩:=hl;clear hb e1 e2 r1 r2 hp hx DV jz ff ef dj st;have q0:(cI.add (k * 3)).block<w.heap.size:=by rw[cq];omega
 have q1:(cI.add (k * 3)).block<=w.heap.size:=by omega
 have q2:(cI.add (k * 3)).block<=w.heap.size+1:=by omega
 have s0:(ee.add (i * 4)).block<w.heap.size:=by rw[cq];omega
 have s1:(ee.add (i * 4)).block<=w.heap.size:=by omega
 have s2:(ee.add (i * 4)).block<=w.heap.size+1:=by omega
 by_cases UE:from_+length - 1<x'.aH
 ·go_enter func165,Tryz.ntmps165
  go_wp2;have HW:=Afl (agL w b.ag (.slice (some ee) n1 c1) (.slice (some cI) n2 c2) (.slice A3 n3 c3) k from_ x'.name x'.aH (.slice A4 n4 c4));have k1:=agG w b.ag (.slice (some ee) n1 c1) (.slice (some cI) n2 c2) (.slice A3 n3 c3) k from_ x'.name x'.aH (.slice A4 n4 c4);have k2:=agH w b.ag (.slice (some ee) n1 c1) (.slice (some cI) n2 c2) (.slice A3 n3 c3) k from_ x'.name x'.aH (.slice A4 n4 c4);have yv:=agI w b.ag (.slice (some ee) n1 c1) (.slice (some cI) n2 c2) (.slice A3 n3 c3) k from_ x'.name x'.aH (.slice A4 n4 c4);have yx:=agJ w b.ag (.slice (some ee) n1 c1) (.slice (some cI) n2 c2) (.slice A3 n3 c3) k from_ x'.name x'.aH (.slice A4 n4 c4);have OE:=agK w b.ag (.slice (some ee) n1 c1) (.slice (some cI) n2 c2) (.slice A3 n3 c3) k from_ x'.name x'.aH (.slice A4 n4 c4);have HS:=Afl (agM w b.ag (.slice (some ee) n1 c1) (.slice (some cI) n2 c2) (.slice A3 n3 c3) k from_ x'.name x'.aH (.slice A4 n4 c4));change Code.wp _ _ _ _ (lW w b.ag (.slice (some ee) n1 c1) (.slice (some cI) n2 c2) (.slice A3 n3 c3) k from_ x'.name x'.aH (.slice A4 n4 c4));generalize lW w b.ag (.slice (some ee) n1 c1) (.slice (some cI) n2 c2) (.slice A3 n3 c3) k from_ x'.name x'.aH (.slice A4 n4 c4)=W3 at HW k1 k2 yv yx OE HS |-
  have k4: W3.cell? ⟨(ee.add (i * 4)).block,(ee.add (i * 4)).off+(2+1),none⟩=some (.int .i64 p'.bears):=(HW.out.cell (p:=⟨(ee.add (i * 4)).block,(ee.add (i * 4)).off+(2+1),none⟩) s0).trans g3;have wO:Hid (Below (w.heap.size+3) W3 W3.drew):=Afl (iY (Aft _ _));have YJ:Hid (Row W3.drew B 2 Span.R (.slice A4 n4 c4) x'.cM):=Afl (yV.out.still (Still.aK (iY HW.out) hB) λ_ _ h=>h)
  have HT:Hid (W3.drew.heap.size=w.heap.size+3):=Afl HS.out;go_region_held3 (λw'=> w'.cell? ⟨w.heap.size,1,none⟩=some (.slice (some ee) n1 c1)/\ w'.cell? ⟨w.heap.size+1,1,none⟩=some (.int .i64 from_)/\ w'.cell? ⟨w.heap.size+1+1,0,none⟩=some (.string x'.name)/\ w'.cell? ⟨w.heap.size+1+1,1,none⟩=some (.int .i64 x'.aH)/\ w'.cell? ⟨w.heap.size+1+1,2,none⟩=some (.slice A4 n4 c4)/\ w'.cell? ⟨(ee.add (i * 4)).block,(ee.add (i * 4)).off+(2+1),none⟩=some (.int .i64 p'.bears)/\Hid (Below (w.heap.size+3) W3 w')) (first|exact⟨k1,k2,yv,yx,OE,k4,wO⟩ |exact⟨m1,m2,m30,m31,m32,m4,ng⟩)
   (first| (go_at_call 132;refine(met YJ.out (by rw[HT.out];omega)).mono ?_;rintro e w1 ⟨rfl,ae⟩
            have m1:=(ae.cell (p:=⟨w.heap.size,1,none⟩) (by rw[HT.out];simp)).trans k1
            have m2:=(ae.cell (p:=⟨w.heap.size+1,1,none⟩) (by rw[HT.out];simp)).trans k2
            have m30:=(ae.cell (p:=⟨w.heap.size+1+1,0,none⟩) (by rw[HT.out];simp)).trans yv
            have m31:=(ae.cell (p:=⟨w.heap.size+1+1,1,none⟩) (by rw[HT.out];simp)).trans yx
            have m32:=(ae.cell (p:=⟨w.heap.size+1+1,2,none⟩) (by rw[HT.out];simp)).trans OE
            have m4:=(ae.cell (p:=⟨(ee.add (i * 4)).block,(ee.add (i * 4)).off+(2+1),none⟩) (by rw[HT.out];simp;omega)).trans k4
            have ng:Hid (Below (w.heap.size+3) W3 w1):=Afl (iU (ae.mono (by rw[HT.out];omega)))))
  go_wp2;go_ret;refine⟨b9 ?_,HW.out.trans (ng.out.mono (by omega))⟩
  simp[tR,UE]
 ·have hd:decide (from_+length - 1<x'.aH)=false:=by simpa using UE
  go_enter func165,Tryz.ntmps165;go_wp2;go_quiet (fail);go_wp2;go_ret;refine⟨b9 ?_,jq ((((Aft _ _).alloc (Ad4 _) _).alloc (by simp) _).alloc (by simp;omega) _) _⟩
  simp[tR,hd]
end Go.Tw
namespace Go.Tw
variable [Go.Tw.aR]
open Go Go.Proofs Go.RowKit
def fO(nb:Int)(c:Cut):Int:=if bX c.bp 0 (nb - 1) then if bX c.from_ 0 40 then 0 else 1 else 6
def ez(b:ao)(l:List Cut):Int:=if l.length≠b.pieces.length then 2 else scan (λ_ c=>fO b.aF.length c) [] l
def LX{b:ao}{l:List Cut}{pv bv tv lv:Value}{w:Abc}{B:Nat}(hb:bg w B b pv bv tv)(hl:Row w B 2 Cut.R lv l)(hB:B<=w.heap.size):
 Aet prog 109 #[.agg #[.int .i64 b.ag,pv,bv,tv],lv] w λe w'=>e=.returned (.int .i64 (ez b l))/\Below w.heap.size w w':=by
 obtain⟨A1,n1,c1,rfl,e1,h1,eA,-⟩:=hb.pieces.open_;obtain⟨A2,nb,c2,rfl,eb,h2,dW,-⟩:=hb.aF.open_;obtain⟨A3,n3,c3,rfl,-⟩:=hb.aJ.open_;obtain⟨A,m,c,rfl,e2,h3,rD,hr⟩:=hl.open_;unfold Aes at eA dW rD;have E1:=Afl e1;have EB:=Afl eb;have E2:=Afl e2;have H2:=Afl hr;clear hb hl e1 eb e2 hr;by_cases fC:m=n1
 ·have hq:((m:Int) !=(n1:Int))=false:=by simp[fC]
  have HQ:=Afl fC;clear fC;have Bz:ez b l=scan (λ_ c=>fO nb c) [] l:=by unfold ez;rw[E1.out,E2.out,EB.out,if_neg (by simp[HQ.out])]
  have SN:=Afl Bz;clear Bz;go_enter func109,Tryz.ntmps109;go_wp2;go_loopw [4,6,7,17] (λr t q k wr=>∃i:Nat,i<=m/\k=.int .i64 i/\(∀(j:Nat) (x:Cut),j<i->l[j]?=some x->fO nb x=0)/\Below (w.heap.size+1) (w.alloc (Afq #[.int .i64 b.ag,.slice A1 n1 c1,.slice A2 nb c2,.slice A3 n3 c3] 117)) wr) (λ_ _ _ k _=>m - (Afs k).toNat)
  case atStart=>exact⟨0,Agl _,rfl,λj _ hj=>by omega,Aft _ _⟩
  case round=>
   obtain⟨i,hi,rfl,bt,hb⟩:=hrel;have HH:=Afl (Aee bt hb);have dY:=hb.size;have aI:w.heap.size+1<=wr.heap.size:=by simpa using dY
   have tL:w.heap.size<=wr.heap.size:=by omega
   have DZ:w.heap.size<wr.heap.size:=by omega
   have ho: wr.cell? ⟨w.heap.size,2,none⟩=some (.slice A2 nb c2):=(hb.cell (p:=⟨w.heap.size,2,none⟩) (by simp)).trans (by simp[go_sem])
   by_cases al:i<m
   ·obtain⟨ad,x,cs,rfl,aC,hx,rfl,-,au⟩:=H2.out i al
    have st:Still B w wr:=((Still.refl w).alloc hB _).trans (Still.aK hb (by omega))
    have h0:=cC au st aC rfl;have h1:=bK au st aC 0 rfl;have HX:=Afl hx;clear bt hb hx au st dY;have iC:=Afl HH.out.2;have bad:∀s:Int,fO nb x=s->s≠0->s=ez b l:=λs hs h0=>by
     rw[SN.out,sf (f:=λ_ c=>fO nb c) HX.out HH.out.1 (by rw[hs];exact h0),hs]
    have fG:=Afl bad;clear bad;cases ea:bX x.bp 0 (nb - 1) with
    |false=>
     go_wp2_with (first
      | (go_at_call 100;refine(there _ _ (by omega) _ (by omega)).mono ?_;rintro e w' ⟨rfl,rfl⟩;simp only[ea]))
     go_ret;exact⟨aX (fG.out 6 (by unfold fO;rw[ea];rfl) (by omega)),iH (iC.out.trans ((Aft _ _).alloc aI _))⟩
    |true=>
     cases ld:bX x.from_ 0 40 with
     |false=>
      go_wp2_with (first
       | (go_at_call 100;refine(there _ _ (by omega) _ (by omega)).mono ?_;rintro e w' ⟨rfl,rfl⟩;simp only[ea])
       | (go_at_call 134;refine(inside _ _ _ _).mono ?_;rintro e w' ⟨rfl,rfl⟩))
      go_ret;exact⟨aX (fG.out 1 (by unfold fO;rw[ea,ld];rfl) (by omega)),iH (iC.out.trans ((Aft _ _).alloc aI _))⟩
     |true=>
      go_wp2_with (first
       | (go_at_call 100;refine(there _ _ (by omega) _ (by omega)).mono ?_;rintro e w' ⟨rfl,rfl⟩;simp only[ea])
       | (go_at_call 134;refine(inside _ _ _ _).mono ?_;rintro e w' ⟨rfl,rfl⟩))
      go_roundw;case rel=>exact⟨i+1,by omega,by go_num,λj y hj hy=>by
       rcases Agm.1 hj with h|rfl
       ·exact HH.out.1 j y h hy
       ·rw[HX.out] at hy;cases hy;unfold fO;rw[ea,ld];rfl,iC.out.trans ((Aft _ _).alloc aI _)⟩
      case measure=>simp[Afs];omega
   ·obtain rfl:i=m:=by omega
    go_wp2;go_ret;refine⟨aX ?_,iH HH.out.2⟩
    rw[SN.out,se (f:=λ_ c=>fO nb c) (λj x hj=>HH.out.1 j x (by have:=(Af7.1 hj).1;have:=E2.out;omega) hj)]
 ·have hq:((m:Int) !=(n1:Int))=true:=by simp;omega
  have HQ:=Afl fC;clear fC;go_enter func109,Tryz.ntmps109;go_wp2;go_ret;exact⟨aX (by unfold ez;rw[E1.out,E2.out,if_pos HQ.out]),(Aft _ _).alloc (Ad4 _) _⟩
def an.at(L:an)(i:Nat):Int:=if i=0 then L.a else if i=1 then L.b else L.c
def AW(b:ao)(i:Nat)(n:Int)(c:Cut):Bool:=match b.pieces[i]?,b.aF[c.bp.toNat]? with
 |some p,some x=>tR x p.bears n c
 |_,_=>false
def rm(b:ao)(L:an)(l:List Cut)(i:Nat)(c:Cut)(k:Nat):Bool:=match l[k]? with
 |some d=>nv b.ag c d (L.at i) (L.at k)
 |none=>true
def td(b:ao)(L:an)(l:List Cut)(i:Nat):Bool:=match l[i]? with
 |some c=>AW b i (L.at i) c && (Agj i).all (rm b L l i c)
 |none=>true
def fp(b:ao)(L:an)(l:List Cut):Bool:=(Agj l.length).all (td b L l)
def oi{n:Nat}{f:Nat->Bool}:(Agj n).all f=true↔∀i,i<n->f i=true:=by simp
def Gn{n i:Nat}{f:Nat->Bool}(hi:i<n)(h:f i=false):(Agj n).all f=false:=by
 cases e:(Agj n).all f with
 |false=>rfl
 |true=>have:=oi.1 e i hi;rw[h] at this;cases this
structure oO(b:ao)(c:Cut):Prop where
 bp:∃k:Nat,c.bp=k/\k<b.aF.length
 from_:0<=c.from_/\c.from_<=40
structure DH(w:Abc)(s:Int)(p q r:Value)(L:an)(W:Abc):Prop where
 size:w.heap.size+2<=W.heap.size
 f0: W.cell? ⟨w.heap.size,0,none⟩=some (.int .i64 s)
 f1: W.cell? ⟨w.heap.size,1,none⟩=some p
 f2: W.cell? ⟨w.heap.size,2,none⟩=some q
 f3: W.cell? ⟨w.heap.size,3,none⟩=some r
 g:∀i,i<3-> W.cell? ⟨w.heap.size+1,i,none⟩=some (.int .i64 (L.at i))
def DH.below{w:Abc}{s:Int}{p q r:Value}{L:an}{W W':Abc}{B:Nat}(h:DH w s p q r L W)(hb:Below B W W')(hB:w.heap.size+2<=B):DH w s p q r L W':=
 ⟨Ad5 h.size hb.size,(hb.cell (p:=⟨w.heap.size,0,none⟩) (by simp;omega)).trans h.f0,(hb.cell (p:=⟨w.heap.size,1,none⟩) (by simp;omega)).trans h.f1,(hb.cell (p:=⟨w.heap.size,2,none⟩) (by simp;omega)).trans h.f2,
   (hb.cell (p:=⟨w.heap.size,3,none⟩) (by simp;omega)).trans h.f3,λi hi=>(hb.cell (p:=⟨w.heap.size+1,i,none⟩) (by simp;omega)).trans (h.g i hi)⟩
def DH.start(w:Abc)(s:Int)(p q r:Value)(L:an):DH w s p q r L ((w.alloc (Afq #[.int .i64 s,p,q,r] 117)).alloc (Afq #[.int .i64 L.a,.int .i64 L.b,.int .i64 L.c] 128)):=by
 refine⟨by simp,by simp[go_sem],by simp[go_sem],by simp[go_sem],by simp[go_sem],λi hi=>?_⟩
 match i,hi with
 |0,_=>simp[go_sem,an.at]
 |1,_=>simp[go_sem,an.at]
 |2,_=>simp[go_sem,an.at]
def L3{b:ao}{L:an}{l:List Cut}{pv bv tv lv:Value}{w:Abc}{B:Nat}(hb:bg w B b pv bv tv)(hl:Row w B 2 Cut.R lv l)(hB:B<=w.heap.size)
 (hlen:l.length=b.pieces.length)(ij:b.pieces.length<=3)(dh:∀(i:Nat) (c:Cut),l[i]?=some c->oO b c)(hL:∀i,0<=L.at i/\L.at i<=1000)(vy:0<=b.ag/\b.ag<=1000):
 Aet prog 110 #[.agg #[.int .i64 b.ag,pv,bv,tv],.agg #[.int .i64 L.a,.int .i64 L.b,.int .i64 L.c],lv] w λe w'=>e=.returned (.bool (fp b L l))/\Below w.heap.size w w':=by
 have bT:=Afl hb;obtain⟨A1,n1,c1,rfl,e1,h1,eA,-⟩:=hb.pieces.open_;obtain⟨A2,nb,c2,rfl,eb,h2,dW,-⟩:=hb.aF.open_;obtain⟨A3,n3,c3,rfl,-⟩:=hb.aJ.open_;obtain⟨A,m,c,rfl,e2,h3,rD,hr⟩:=hl.open_;unfold Aes at eA dW rD;have QM:m<=3:=by omega
 have E2:=Afl e2;have EN:=Afl hlen;have H2:=Afl hr;have OK:=Afl dh;have HL:=Afl hL;have YX:=Afl vy;clear hb hl e1 eb e2 hr dh hL vy hlen ij;go_enter func110,Tryz.ntmps110;go_wp2;go_loopw [6,7,8,9,10,13,28,29,30] (λr t q s u k x y z wr=>∃i:Nat,i<=m/\k=.int .i64 i/\(∀j:Nat,j<i->td b L l j=true)/\Hid (DH w b.ag (.slice A1 n1 c1) (.slice A2 nb c2) (.slice A3 n3 c3) L wr)/\Below w.heap.size w wr) (λ_ _ _ _ _ k _ _ _ _=>m - (Afs k).toNat)
 case atStart=>exact⟨0,Agl _,rfl,λj hj=>by omega,Afl (DH.start w b.ag _ _ _ L),((Aft _ _).alloc (Ad4 _) _).alloc (by simp) _⟩
 case round=>
  obtain⟨wo,rfl⟩:∃wo:Abc,wo=wr:=⟨_,rfl⟩
  obtain⟨i,hi,rfl,bt,xL,hb⟩:=hrel;have HH:=Afl (Aee bt hb);have aI:w.heap.size+2<=wo.heap.size:=xL.out.size;by_cases al:i<m
  ·obtain⟨ad,x,cs,rfl,aC,hx,rfl,-,au⟩:=H2.out i al
   have st:Still B w wo:=Still.aK hb hB;have ok:=OK.out i x hx;obtain⟨bd,fr⟩:=x;obtain⟨k,hk,da⟩:=ok.bp;obtain rfl:bd=(k:Int):=hk;have b7:0<=fr/\fr<=40:=ok.from_;have h0:=cC au st aC rfl;have h1:=bK au st aC 0 rfl;have HX:=Afl hx;have f0:=xL.out.f0;have f1:=xL.out.f1;have f2:=xL.out.f2;have f3:=xL.out.f3;have gi:=xL.out.g i (by omega)
   have a0:w.heap.size<wo.heap.size:=by omega
   have a1:w.heap.size<=wo.heap.size:=by omega
   have a2:w.heap.size+1<wo.heap.size:=by omega
   have a3:w.heap.size+1<=wo.heap.size:=by omega
   have i3:i<3:=by omega
   have i3':(i:Int)<3:=by omega
   have DD:i<=c:=by omega
   clear bt hb hx au ok;go_wp2;refine ua 6 (by kernel_rfl) (by kernel_rfl) ?_
   simp only[Agf,Agg,Agh,Agi];repeat still_step
   refine wpStill_nil ?_
   have hp:∃p,b.pieces[i]?=some p:=⟨_,Af6 (by have:=E2.out;have:=EN.out;omega)⟩
   obtain⟨p,hp⟩:=hp;have rE:b.aF[k]?=some (b.aF[k]):=Af6 da
   obtain⟨bx,rE⟩:∃bx,b.aF[k]?=some bx:=⟨_,rE⟩
   have Nz:AW b i (L.at i) ⟨k,fr⟩=tR bx p.bears (L.at i) ⟨k,fr⟩:=by unfold AW;simp[hp,rE]
   have KN:=Afl Nz;have call:Aet prog 165 #[.agg #[.int .i64 b.ag,.slice A1 n1 c1,.slice A2 nb c2,.slice A3 n3 c3],.int .i64 i,.int .i64 (L.at i),.agg #[.int .i64 k,.int .i64 fr]] (wo.alloc (Afq #[Afx Adf ↑k,Afx Adf fr] 56)).drew
    λe w'=>e=.returned (.bool (tR bx p.bears (L.at i) ⟨k,fr⟩))/\Below (wo.alloc (Afq #[Afx Adf ↑k,Afx Adf fr] 56)).drew.heap.size (wo.alloc (Afq #[Afx Adf ↑k,Afx Adf fr] 56)).drew w':=
    VW (B:=B) (bT.out.still λq hq=>(Afy wo _ q (by omega)).trans (st q hq)) (by simp;omega) hp rE ⟨b7.1,by omega⟩ (HL.out i)
   have aB:=Afl call;clear call hp rE Nz st;cases Aw:tR bx p.bears (L.at i) ⟨k,fr⟩ with
   |false=>
    go_wp2_with (first
     | (go_at_call 165;refine aB.out.mono ?_;rintro e w1 ⟨rfl,ae⟩;have dO:=Afl (cU HH.out.2 (iU ae) a1);clear ae))
    go_ret;refine⟨b9 ?_,dO.out⟩
    unfold fp;rw[E2.out]
    exact(Gn al (by unfold td;rw[HX.out];simp[KN.out,Aw])).symm
   |true=>
    go_wp2_with (first
     | (go_at_call 165;refine aB.out.mono ?_;rintro e w1 ⟨rfl,ae⟩;have dO:=Afl (cU HH.out.2 (iU ae) a1);have YC:=Afl (xL.out.below (cU (Aft (w.heap.size+2) wo) (iU ae) aI) (Ad4 _));have zk:=Afl (iU ae);clear ae))
    have aN:wo.heap.size<w1.heap.size:=oE zk.out;have T3: w1.cell? ⟨wo.heap.size,0,none⟩=some (.int .i64 k):=(zk.out.cell (p:=⟨wo.heap.size,0,none⟩) (by simp)).trans (by simp[go_sem])
    have T4: w1.cell? ⟨wo.heap.size,1,none⟩=some (.int .i64 fr):=(zk.out.cell (p:=⟨wo.heap.size,1,none⟩) (by simp)).trans (by simp[go_sem])
    have qZ:=Afl (Aee T3 (Aee T4 aN));clear T3 T4 f0 f1 f2 f3 gi h0 h1 aN;go_loopw [6,9,10,30] (λr s u z W=>∃j:Nat,j<=i/\z=.int .i64 j/\(∀q:Nat,q<j->rm b L l i ⟨k,fr⟩ q=true)/\Hid (DH w b.ag (.slice A1 n1 c1) (.slice A2 nb c2) (.slice A3 n3 c3) L W)/\Hid (W.cell? ⟨wo.heap.size,0,none⟩=some (.int .i64 k)/\ W.cell? ⟨wo.heap.size,1,none⟩=some (.int .i64 fr)/\wo.heap.size<W.heap.size)/\Below w.heap.size w W) (λ_ _ _ z _=>i - (Afs z).toNat)
    case atStart=>exact⟨0,Agl _,rfl,λj hj=>by omega,YC,qZ,dO.out⟩
    case round=>
     obtain⟨j,hj,rfl,TU,tC,cX,xG⟩:=hrel;have HJ:=Afl (Aee TU xG);have afE:w.heap.size+2<=wr.heap.size:=tC.out.size;clear TU;by_cases nE:j<i
     ·obtain⟨Cs,y,bh,kX,adT,hy,rfl,-,Ak⟩:=H2.out j (by omega)
      cases kX;have P2:Still B w wr:=Still.aK xG hB;have Wp:=OK.out j y hy;obtain⟨mn,iJ⟩:=y;have my:0<=iJ/\iJ<=40:=Wp.from_;have h0:=cC Ak P2 aC rfl;have h1:=bK Ak P2 aC 0 rfl;have HY:=Afl hy;have f0:=tC.out.f0;have f1:=tC.out.f1;have f2:=tC.out.f2;have f3:=tC.out.f3;have gi:=tC.out.g i i3;have gj:=tC.out.g j (by omega)
      obtain⟨LK,LM,Om⟩:=cX.out;have b0:w.heap.size<wr.heap.size:=by omega
      have b1:w.heap.size<=wr.heap.size:=by omega
      have b2:w.heap.size+1<wr.heap.size:=by omega
      have b3:w.heap.size+1<=wr.heap.size:=by omega
      have b4:wo.heap.size<=wr.heap.size:=by omega
      have j3:(j:Int)<3:=by omega
      clear xG hy Ak Wp P2;go_wp2;refine ua 9 (by kernel_rfl) (by kernel_rfl) ?_
      simp only[Agf,Agg,Agh,Agi];repeat still_step
      refine wpStill_nil ?_
      have Ae:rm b L l i ⟨k,fr⟩ j=nv b.ag ⟨k,fr⟩ ⟨mn,iJ⟩ (L.at i) (L.at j):=by unfold rm;rw[HY.out]
      have B3:=Afl Ae;clear Ae;have call:∀W:Abc,Aet prog 166 #[.agg #[.int .i64 b.ag,.slice A1 n1 c1,.slice A2 nb c2,.slice A3 n3 c3],.agg #[.int .i64 k,.int .i64 fr],.agg #[.int .i64 mn,.int .i64 iJ],.int .i64 (L.at i),.int .i64 (L.at j)] W
            λe w'=>e=.returned (.bool (nv b.ag ⟨k,fr⟩ ⟨mn,iJ⟩ (L.at i) (L.at j)))/\Below W.heap.size W w':=λW=>
          apart (c:=⟨k,fr⟩) (d:=⟨mn,iJ⟩) YX.out (HL.out i) (HL.out j) ⟨b7.1,by have:=b7.2;show fr<=1000;omega⟩ ⟨my.1,by have:=my.2;show iJ<=1000;omega⟩ ⟨_,_,_,rfl⟩ ⟨_,_,_,rfl⟩ ⟨_,_,_,rfl⟩
      have uv:=Afl call;clear call;cases DK:nv b.ag ⟨k,fr⟩ ⟨mn,iJ⟩ (L.at i) (L.at j) with
      |false=>
       go_wp2_with (first
            | (go_at_call 166;refine(uv.out _).mono ?_;rintro e w2 ⟨rfl,ak⟩;have dI:=Afl (cU HJ.out.2 (iU ak) b1);clear ak))
       go_ret;refine⟨b9 ?_,dI.out⟩
       unfold fp;rw[E2.out]
       refine(Gn al ?_).symm
       unfold td;rw[HX.out]
       simp only[KN.out,Aw,Bool.true_and];exact Gn nE (by rw[B3.out,DK])
      |true=>
       go_wp2_with (first
            | (go_at_call 166;refine(uv.out _).mono ?_;rintro e w2 ⟨rfl,ak⟩;have dI:=Afl (cU HJ.out.2 (iU ak) b1);have wP:=Afl (cU (Aft wr.heap.size wr) (iU ak) (Ad4 _));clear ak))
       go_roundw;case rel=>exact⟨j+1,by omega,by go_num,λq hq=>by
            rcases Agm.1 hq with h|rfl
            ·exact HJ.out.1 q h
            ·rw[B3.out,DK],Afl (tC.out.below wP.out afE),Afl ⟨(wP.out.cell (p:=⟨wo.heap.size,0,none⟩) Om).trans LK,(wP.out.cell (p:=⟨wo.heap.size,1,none⟩) Om).trans LM,Ad6 Om wP.out.size⟩,dI.out⟩
       case measure=>simp[Afs];omega
     ·obtain rfl:j=i:=by omega
      clear xG;go_wp2;go_roundw;case rel=>exact⟨j+1,by omega,by go_num,λq hq=>by
          rcases Agm.1 hq with h|rfl
          ·exact HH.out.1 q h
          ·unfold td;rw[HX.out];simp only[KN.out,Aw,Bool.true_and];exact oi.2 HJ.out.1,tC,HJ.out.2⟩
      case measure=>simp[Afs];omega
  ·obtain rfl:i=m:=by omega
   clear hb;go_wp2;go_ret;refine⟨b9 ?_,HH.out.2⟩
   unfold fp;rw[E2.out];exact(oi.2 HH.out.1).symm
def sg(L:an)(l:List Int):Int:=(l.map λk=>L.at k.toNat).sum
def al1(L:an)(l:List Int)(k:Int):sg L (l++ [k])=sg L l+L.at k.toNat:=by simp[sg]
def P5(L:an)(hL:∀i,0<=L.at i/\L.at i<=1000):∀l:List Int,0<=sg L l/\sg L l<=1000 * l.length
 | []=>by simp[sg]
 |k::l=>by
  have:=P5 L hL l;have:=hL k.toNat;simp[sg] at *;omega
def FO(L:an)(t:Tape):Bool:= !bX (sg L t.pieces) t.sum.lo t.sum.hi
def akk{t:Tape}{pv:Value}{L:an}{w:Abc}{B g:Nat}(pd:Row w B 1 cH pv t.pieces)(hB:B<=w.heap.size)(hg:g<w.heap.size)
 (hc:∀i,i<3-> w.cell? ⟨g,i,none⟩=some (.int .i64 (L.at i)))(hk:∀k∈t.pieces,0<=k/\k<3)(h3:t.pieces.length<=3)(hL:∀i,0<=L.at i/\L.at i<=1000):
 Aet prog 209 #[.agg #[pv,.int .i64 t.sum.lo,.int .i64 t.sum.hi],.pointer (some ⟨g,0,none⟩)] w λe w'=>e=.returned (.bool (FO L t))/\Below w.heap.size w w':=by
 obtain⟨A,n,c,rfl,hl,dX,cX,hr⟩:=pd.open_;have lQ:n<=3:=by omega
 have nh:=Afl hl;have H2:=Afl hr;have HC:=Afl hc;have HK:=Afl hk;have HL:=Afl hL;have dB:g<=w.heap.size:=by omega
 clear hl hr hc hk hL pd cX h3;go_enter func209,Tryz.ntmps209;go_wp2
 go_loop [4,6,10] (λs q k=>∃i:Nat,i<=n/\k=.int .i64 i/\s=.int .i64 (sg L (t.pieces.take i))) (λ_ _ k=>n - (Afs k).toNat)
 case atStart=>exact⟨0,Agl _,rfl,rfl⟩
 case round=>
  obtain⟨i,hi,rfl,rfl⟩:=hrel;have vA:=(P5 L HL.out (t.pieces.take i)).1;have vz:sg L (t.pieces.take i)<=3000:=by
   have:=(P5 L HL.out (t.pieces.take i)).2;have:(t.pieces.take i).length<=i:=Agb _ _;omega
  by_cases al:i<n
  ·obtain⟨ad,x,cs,rfl,aC,hx,rfl,-,au⟩:=H2.out i al
   have Vp:=HK.out x (Agd hx);obtain⟨j,rfl⟩:=Int.eq_ofNat_of_zero_le Vp.1;have DE:j<3:=by omega
   have Us:(j:Int)<3:=by omega
   have h0:=cC au (Still.refl (B:=B) w) aC rfl;rw[Ago] at h0;have q0:(ad.add i).block<w.heap.size:=by rw[cq];omega
   have gj:=HC.out j DE;have HX:=Afl hx;have UI:=HL.out j;obtain⟨UI,aot⟩:=UI;clear hx au Vp;go_wp2
   go_round
   case rel=>exact⟨i+1,by omega,by go_num,by rw[oJ HX.out,al1];rfl⟩
   case measure=>simp[Afs];omega
  ·obtain rfl:i=n:=by omega
   go_wp2_with (first
    | (go_at_call 134;refine(inside _ _ _ _).mono ?_;rintro e w' ⟨rfl,rfl⟩))
   go_ret;refine⟨b9 ?_,(Aft _ _).alloc (Ad4 _) _⟩
   unfold FO;rw[Agc (Agn nh.out)]
def zz(b:ao):Prop:=∀t∈b.aJ,(∀k∈t.pieces,0<=k/\k<3)/\t.pieces.length<=3
def Pw(L:an)(l:List Tape):Bool:= !(l.any (FO L))
def right{b:ao}{L:an}{pv bv tv:Value}{w:Abc}{B:Nat}(hb:bg w B b pv bv tv)(hB:B<=w.heap.size)(dh:zz b)(hL:∀i,0<=L.at i/\L.at i<=1000):
 Aet prog 189 #[.agg #[.int .i64 b.ag,pv,bv,tv],.agg #[.int .i64 L.a,.int .i64 L.b,.int .i64 L.c]] w λe w'=>e=.returned (.bool (Pw L b.aJ))/\Below w.heap.size w w':=by
 have bT:=Afl hb;obtain⟨A1,n1,c1,rfl,-⟩:=hb.pieces.open_;obtain⟨A2,nb,c2,rfl,-⟩:=hb.aF.open_;obtain⟨A3,n3,c3,rfl,-⟩:=hb.aJ.open_;have OK:=Afl dh;have HL:=Afl hL;have ST:Hid (Still B w ((w.alloc (Afq #[.int .i64 b.ag,.slice A1 n1 c1,.slice A2 nb c2,.slice A3 n3 c3] 117)).alloc (Afq #[.int .i64 L.a,.int .i64 L.b,.int .i64 L.c] 128))):=Afl (((Still.refl w).alloc hB _).alloc (by simp;omega) _)
 have HD:=Afl (DH.start w b.ag (.slice A1 n1 c1) (.slice A2 nb c2) (.slice A3 n3 c3) L);clear hb dh hL;have call:Aet prog 208 #[.slice A3 n3 c3,fv 209 #[.pointer (some ⟨w.heap.size+1,0,none⟩)]] ((w.alloc (Afq #[.int .i64 b.ag,.slice A1 n1 c1,.slice A2 nb c2,.slice A3 n3 c3] 117)).alloc (Afq #[.int .i64 L.a,.int .i64 L.b,.int .i64 L.c] 128))
  λe w'=>e=.returned (.bool (b.aJ.any (FO L)))/\Below ((w.alloc (Afq #[.int .i64 b.ag,.slice A1 n1 c1,.slice A2 nb c2,.slice A3 n3 c3] 117)).alloc (Afq #[.int .i64 L.a,.int .i64 L.b,.int .i64 L.c] 128)).heap.size _ w':=
  aaX (FO L) call209 ((bT.out.still ST.out).aJ) (by simp;omega) λW x kv hW dj hx=>app1 (akk (B:=B) (dj.still (Still.aK hW (by simp;omega)) λ_ _ h=>h)
   (Ad5 (by simp;omega) hW.size) (Ad6 (by simp) hW.size) (λi hi=>(hW.cell (p:=⟨w.heap.size+1,i,none⟩) (by simp)).trans (HD.out.g i hi)) (OK.out x hx).1 (OK.out x hx).2 HL.out)
 have aB:=Afl call;clear call;go_enter func189,Tryz.ntmps189;go_wp2_with (first
  | (go_at_call 208;refine aB.out.mono ?_;rintro e w1 ⟨rfl,ae⟩))
 go_ret;exact⟨b9 rfl,(((Aft _ _).alloc (Ad4 _) _).alloc (by simp) _).trans (ae.mono (by simp;omega))⟩
def first{l:List Int}{v:Value}{w:Abc}{B:Nat}(hv:Row w B 1 cH v l):
 Aet prog 126 #[v] w λe w'=>e=.returned (.int .i64 (scan (λ_ s=>s) [] l))/\w=w':=by
 obtain⟨A,n,c,rfl,hl,dX,cX,hr⟩:=hv.open_;unfold Aes at cX;have nh:=Afl hl;have H2:=Afl hr;clear hl hr hv;go_enter func126,Tryz.ntmps126;go_wp2
 go_loop [2,4,7] (λr q k=>∃i:Nat,i<=n/\k=.int .i64 i/\(∀(j:Nat) (x:Int),j<i->l[j]?=some x->x=0)) (λ_ _ k=>n - (Afs k).toNat)
 case atStart=>exact⟨0,Agl _,rfl,λj _ hj=>by omega⟩
 case round=>
  obtain⟨i,hi,rfl,bt⟩:=hrel;have HA:=Afl bt;clear bt;by_cases al:i<n
  ·obtain⟨ad,x,cs,rfl,aC,hx,rfl,-,au⟩:=H2.out i al
   have h0:=cC au (Still.refl (B:=B) w) aC rfl;rw[Ago] at h0;have HX:=Afl hx;clear hx au;by_cases vF:x=0
   ·go_wp2
    go_round
    case rel=>exact⟨i+1,by omega,by go_num,λj y hj hy=>by
     rcases Agm.1 hj with h|rfl
     ·exact HA.out j y h hy
     ·rw[HX.out] at hy;cases hy;exact vF⟩
    case measure=>simp[Afs];omega
   ·go_wp2
    go_ret;exact⟨aX (sf (f:=λ_ s=>s) HX.out HA.out vF).symm,rfl⟩
  ·obtain rfl:i=n:=by omega
   go_wp2;go_ret;exact⟨aX (se (f:=λ_ s=>s) (λj x hx=>HA.out j x (by have:=(Af7.1 hx).1;have:=nh.out;omega) hx)).symm,rfl⟩
def Zl{P:Abe}{f:Nat}{a b c:Value}{w:Abc}{R:Ending->Abc->Prop}(h:Aet P f #[a,b,c] w R):Aet P f (#[a]++#[b,c]) w R:=by
 have e:(#[a]++#[b,c]:Array Value)=#[a,b,c]:=by simp
 rw[e];exact h
structure Km(b:ao)(l:List Cut):Prop where
 len:l.length=b.pieces.length
 three:b.pieces.length<=3
 kD:∀(i:Nat) (c:Cut),l[i]?=some c->oO b c
 ag:0<=b.ag/\b.ag<=1000
def an.Ok(L:an):Prop:=∀i,0<=L.at i/\L.at i<=1000
def al4{b:ao}{L:an}{l:List Cut}{pv bv tv lv:Value}{w:Abc}{B g1 g2:Nat}(hb:bg w B b pv bv tv)(hl:Row w B 2 Cut.R lv l)(hB:B<=w.heap.size)(ok:Km b l)(hL:L.Ok)
 (dB:g1<w.heap.size)(kG:g2<w.heap.size)(f0: w.cell? ⟨g1,0,none⟩=some (.int .i64 b.ag))(f1: w.cell? ⟨g1,1,none⟩=some pv)(f2: w.cell? ⟨g1,2,none⟩=some bv)(f3: w.cell? ⟨g1,3,none⟩=some tv)
 (f4: w.cell? ⟨g2,0,none⟩=some lv):
 Aet prog 169 #[.agg #[.int .i64 L.a,.int .i64 L.b,.int .i64 L.c],.pointer (some ⟨g1,0,none⟩),.pointer (some ⟨g2,0,none⟩)] w λe w'=>e=.returned (.bool (!fp b L l))/\Below w.heap.size w w':=by
 have call:=L3 (w:=w.alloc (Afq #[.int .i64 L.a,.int .i64 L.b,.int .i64 L.c] 128)) (B:=B) (hb.still ((Still.refl w).alloc hB _)) (hl.still ((Still.refl w).alloc hB _) λ_ _ h=>h) (by simp;omega) ok.len ok.three ok.kD hL ok.ag
 have aB:=Afl call;have vh:g1<=w.heap.size:=by omega
 have aof:g2<=w.heap.size:=by omega
 obtain⟨A1,n1,c1,rfl,-⟩:=hb.pieces.open_;obtain⟨A2,nb,c2,rfl,-⟩:=hb.aF.open_;obtain⟨A3,n3,c3,rfl,-⟩:=hb.aJ.open_;obtain⟨A,n,c,rfl,-⟩:=hl.open_;clear call hb hl ok hL;go_enter func169,Tryz.ntmps169;go_wp2_with (first
  | (go_at_call 110;refine aB.out.mono ?_;rintro e w1 ⟨rfl,ae⟩))
 go_ret;exact⟨b9 rfl,cU (Aft _ _) ae (Ad4 _)⟩
def FJ(b:ao)(ajD:List an)(l:List Cut):Bool:= !(ajD.any λL=> !fp b L l)
def XH{b:ao}{ps:List an}{l:List Cut}{pv bv tv sv lv:Value}{w:Abc}{B:Nat}(hb:bg w B b pv bv tv)(hs:Row w B 3 an.R sv ps)(hl:Row w B 2 Cut.R lv l)(hB:B<=w.heap.size)(ok:Km b l)(hL:∀L∈ps,L.Ok):
 Aet prog 114 #[.agg #[.int .i64 b.ag,pv,bv,tv,sv],lv] w λe w'=>e=.returned (.bool (FJ b ps l))/\Below w.heap.size w w':=by
 have ST:Hid (Still B w ((w.alloc (Afq #[.int .i64 b.ag,pv,bv,tv,sv] 122)).alloc (Afq #[lv] 27))):=Afl (((Still.refl w).alloc hB _).alloc (by simp;omega) _)
 have call:Aet prog 150 #[sv,fv 169 #[.pointer (some ⟨w.heap.size,0,none⟩),.pointer (some ⟨w.heap.size+1,0,none⟩)]] ((w.alloc (Afq #[.int .i64 b.ag,pv,bv,tv,sv] 122)).alloc (Afq #[lv] 27))
  λe w'=>e=.returned (.bool (ps.any λL=> !fp b L l))/\Below ((w.alloc (Afq #[.int .i64 b.ag,pv,bv,tv,sv] 122)).alloc (Afq #[lv] 27)).heap.size _ w':=
  aaW (λL=> !fp b L l) call169 (hs.still ST.out λ_ _ h=>h) (by simp;omega) λW x hW hx=>by
   have sW:Still B w W:=ST.out.trans (Still.aK hW (by simp;omega))
   have hz:w.heap.size+2<=W.heap.size:=by have:=hW.size;simpa using this
   exact Zl (al4 (B:=B) (hb.still sW) (hl.still sW λ_ _ h=>h) (by omega) ok (hL x hx) (by omega) (by omega)
    ((hW.cell (p:=⟨w.heap.size,0,none⟩) (by simp;try omega)).trans (by simp[go_sem])) ((hW.cell (p:=⟨w.heap.size,1,none⟩) (by simp;try omega)).trans (by simp[go_sem])) ((hW.cell (p:=⟨w.heap.size,2,none⟩) (by simp;try omega)).trans (by simp[go_sem]))
    ((hW.cell (p:=⟨w.heap.size,3,none⟩) (by simp;try omega)).trans (by simp[go_sem])) ((hW.cell (p:=⟨w.heap.size+1,0,none⟩) (by simp;try omega)).trans (by simp[go_sem])))
 have aB:=Afl call;obtain⟨A1,n1,c1,rfl,-⟩:=hb.pieces.open_;obtain⟨A2,nb,c2,rfl,-⟩:=hb.aF.open_;obtain⟨A3,n3,c3,rfl,-⟩:=hb.aJ.open_;obtain⟨A4,n4,c4,rfl,-⟩:=hs.open_;obtain⟨A,n,c,rfl,-⟩:=hl.open_;clear call hb hs hl ok hL;go_enter func114,Tryz.ntmps114;go_wp2_with (first
  | (go_at_call 150;refine aB.out.mono ?_;rintro e w1 ⟨rfl,ae⟩))
 go_ret;exact⟨b9 rfl,(((Aft _ _).alloc (Ad4 _) _).alloc (by simp) _).trans (ae.mono (by simp;omega))⟩
end Go.Tw
namespace Go.Tw
variable [Go.Tw.aR]
open Go Go.Proofs Go.RowKit
def Bk(w:Abc)(g:Nat)(t:Aa8)(cs:Array Value):Prop:=w.heap[g]?=some (.cells cs t (0,0))
section
variable {w w':Abc}{g:Nat}{t:Aa8}{cs:Array Value}
def Bk.lt(h:Bk w g t cs):g<w.heap.size:=(Aaf.1 h).1
def Bk.cell(h:Bk w g t cs)(i:Nat): w.cell? ⟨g,i,none⟩=cs[i]?:=cell_of_row w g i cs t (0,0) h
def Bk.frozen(h:Bk w g t cs)(i:Nat): w.frozen? ⟨g,i,none⟩=false:=by
 have h':w.heap[g]?=some (.cells cs t (0,0)):=h;simp[World.frozen?,h']
def Bk.alloc(h:Bk w g t cs)(o:Obj):Bk (w.alloc o) g t cs:=(Below.heap_alloc w o g h.lt).trans h
def Bk.new(w:Abc)(t:Aa8)(cs:Array Value):Bk (w.alloc (.cells cs t)) w.heap.size t cs:=heap_alloc_new w _
def Bk.cG{w:Abc}{g:Nat}(h:g=w.heap.size)(t:Aa8)(cs:Array Value):Bk (w.alloc (.cells cs t)) g t cs:=by subst h;exact Bk.new w t cs
def Bk.cu(h:Bk w g t cs){p:Addr}(hp:g≠p.block)(u:Value):Bk (w.setCell p u) g t cs:=(Below.heap_setCell w p u g hp).trans h
def Bk.set(h:Bk w g t cs)(i:Nat)(u:Value):Bk (w.setCell ⟨g,i,none⟩ u) g t (cs.setIfInBounds i u):=by
 have h':w.heap[g]?=some (.cells cs t (0,0)):=h;show(w.setCell ⟨g,i,none⟩ u).heap[g]?=_;simp[World.setCell,Array.getElem?_modify,h']
def Bk.below{B:Nat}(h:Bk w g t cs)(hb:Below B w w')(hg:g<B):Bk w' g t cs:=(hb.block g hg).trans h
end
def an.cs(L:an):Array Value:=#[.int .i64 L.a,.int .i64 L.b,.int .i64 L.c]
def mU(M x:an)(i:Nat):an:=⟨if 0<i then(if M.a<x.a then x.a else M.a) else M.a,if 1<i then(if M.b<x.b then x.b else M.b) else M.b,if 2<i then(if M.c<x.c then x.c else M.c) else M.c⟩
def cz(l:List an):an:=l.foldl (λM x=>mU M x 3) ⟨0,0,0⟩
def aev(a b:Int):max a b=if a<b then b else a:=by
 rw[Int.max_def];split<;>split<;>omega
def TF(l:List an)(x:an):cz (l++ [x])=mU (cz l) x 3:=by simp[cz]
def TC{s:Int}{ps:List an}{pv bv tv sv:Value}{w:Abc}{B:Nat}(hs:Row w B 3 an.R sv ps)(hB:B<=w.heap.size)(hp:∃A n c,pv=.slice A n c)(hb:∃A n c,bv=.slice A n c)(ht:∃A n c,tv=.slice A n c):
 Aet prog 115 #[.agg #[.int .i64 s,pv,bv,tv,sv]] w λe w'=>e=.returned (.agg (cz ps).cs)/\Below w.heap.size w w':=by
 obtain⟨A1,n1,c1,rfl⟩:=hp;obtain⟨A2,n2,c2,rfl⟩:=hb;obtain⟨A3,n3,c3,rfl⟩:=ht;obtain⟨A,n,c,rfl,hl,dX,cX,hr⟩:=hs.open_;unfold Aes at cX;have nh:=Afl hl;have H2:=Afl hr;clear hl hr hs;go_enter func115,Tryz.ntmps115;go_wp2;go_loopw [5,6,7,11,16] (λa b d k z wr=>∃i:Nat,i<=n/\k=.int .i64 i/\Hid (Bk wr (w.heap.size+1+1) 128 (cz (ps.take i)).cs)/\Hid (Bk wr (w.heap.size+1) 128 #[.int .i64 0,.int .i64 0,.int .i64 0])/\Below w.heap.size w wr) (λ_ _ _ k _ _=>n - (Afs k).toNat)
 case atStart=>exact⟨0,Agl _,rfl,Afl (Bk.cG (by simp) _ _),Afl ((Bk.cG (by simp) _ _).alloc _),(((Aft _ _).alloc (Ad4 _) _).alloc (by simp) _).alloc (by simp;omega) _⟩
 case round=>
  obtain⟨wo,rfl⟩:∃wo:Abc,wo=wr:=⟨_,rfl⟩
  obtain⟨i,hi,rfl,hk,cP,hb⟩:=hrel;have HB:=Afl hb;have hz:w.heap.size+1+1<wo.heap.size:=hk.out.lt;by_cases al:i<n
  ·obtain⟨ad,x,cs,rfl,aC,hx,rfl,-,au⟩:=H2.out i al
   have st:Still B w wo:=Still.aK hb hB;have h0:=cC au st aC rfl;have h1:=bK au st aC 0 rfl;have h2:=bK au st aC 1 rfl;have HX:=Afl hx;clear hb hx au st;go_wp2;go_loopw [6,7,16] (λa b z W=>∃j:Nat,j<=3/\z=.int .i64 j/\Hid (Bk W (w.heap.size+1+1) 128 (mU (cz (ps.take i)) x j).cs)/\Hid (Bk W (w.heap.size+1) 128 #[.int .i64 0,.int .i64 0,.int .i64 0])/\Below w.heap.size w W) (λ_ _ z _=>3 - (Afs z).toNat)
   case atStart=>exact⟨0,by omega,rfl,Afl (by simpa [mU] using hk.out.alloc _),Afl (cP.out.alloc _),HB.out.trans ((Aft _ _).alloc (by omega) _)⟩
   case round=>
    obtain⟨j,hj,rfl,hq,tI,xG⟩:=hrel;have pN:=Afl xG;clear xG;obtain⟨M,hM⟩:∃M,M=cz (ps.take i):=⟨_,rfl⟩
    rw[<-hM] at hq;have HM:=Afl hM;clear hM;match j,hj with
    |0,_=>
     have g0: wr.cell? ⟨w.heap.size+1+1,0,none⟩=some (.int .i64 M.a):=(hq.out.cell 0).trans (by simp[an.cs,mU])
     have fz:=hq.out.frozen 0;have i0:∀w:Abc,(Afk 128 (.agg #[.int .i64 x.a,.int .i64 x.b,.int .i64 x.c]) (.int .i64 0)).run prog w=.ok (.int .i64 x.a) w:=λw=>by simp[Afk,go_sem]
     go_wp2;have cZ:=hq.out.set 0 (.int .i64 (if M.a<x.a then x.a else M.a))
     have Cc:=Afl cZ;clear cZ;go_roundw;case rel=>exact⟨0+1,by omega,by go_num,Afl (by rw[<-HM.out];first|simpa [an.cs,mU] using Cc.out| (rw[aev];simpa [an.cs,mU] using Cc.out)),Afl (tI.out.cu (by simp) _),pN.out.setCell (by simp;omega) _⟩
     case measure=>simp[Afs]
    |1,_=>
     have g0: wr.cell? ⟨w.heap.size+1+1,1,none⟩=some (.int .i64 M.b):=(hq.out.cell 1).trans (by simp[an.cs,mU])
     have fz:=hq.out.frozen 1;have i0:∀w:Abc,(Afk 128 (.agg #[.int .i64 x.a,.int .i64 x.b,.int .i64 x.c]) (.int .i64 1)).run prog w=.ok (.int .i64 x.b) w:=λw=>by simp[Afk,go_sem]
     go_wp2;have cZ:=hq.out.set 1 (.int .i64 (if M.b<x.b then x.b else M.b))
     have Cc:=Afl cZ;clear cZ;go_roundw;case rel=>exact⟨1+1,by omega,by go_num,Afl (by rw[<-HM.out];first|simpa [an.cs,mU] using Cc.out| (rw[aev];simpa [an.cs,mU] using Cc.out)),Afl (tI.out.cu (by simp) _),pN.out.setCell (by simp;omega) _⟩
     case measure=>simp[Afs]
    |2,_=>
     have g0: wr.cell? ⟨w.heap.size+1+1,2,none⟩=some (.int .i64 M.c):=(hq.out.cell 2).trans (by simp[an.cs,mU])
     have fz:=hq.out.frozen 2;have i0:∀w:Abc,(Afk 128 (.agg #[.int .i64 x.a,.int .i64 x.b,.int .i64 x.c]) (.int .i64 2)).run prog w=.ok (.int .i64 x.c) w:=λw=>by simp[Afk,go_sem]
     go_wp2;have cZ:=hq.out.set 2 (.int .i64 (if M.c<x.c then x.c else M.c))
     have Cc:=Afl cZ;clear cZ;go_roundw;case rel=>exact⟨2+1,by omega,by go_num,Afl (by rw[<-HM.out];first|simpa [an.cs,mU] using Cc.out| (rw[aev];simpa [an.cs,mU] using Cc.out)),Afl (tI.out.cu (by simp) _),pN.out.setCell (by simp;omega) _⟩
     case measure=>simp[Afs]
    |3,_=>
     go_wp2;go_roundw;case rel=>exact⟨i+1,by omega,by go_num,Afl (by rw[oJ HX.out,TF,<-HM.out];exact hq.out),tI,pN.out⟩
     case measure=>simp[Afs];omega
  ·obtain rfl:i=n:=by omega
   have e0:=(hk.out.cell 0);have e1:=(hk.out.cell 1);have e2:=(hk.out.cell 2);rw[Agc (Agn nh.out)] at e0 e1 e2;generalize hG:cz ps=G at e0 e1 e2 |-
   replace e0: wo.cell? ⟨w.heap.size+1+1,0,none⟩=some (.int .i64 G.a):=e0;replace e1: wo.cell? ⟨w.heap.size+1+1,1,none⟩=some (.int .i64 G.b):=e1;replace e2: wo.cell? ⟨w.heap.size+1+1,2,none⟩=some (.int .i64 G.c):=e2;have q0: wo.cell? ⟨w.heap.size+1,0,none⟩=some (.int .i64 0):=(cP.out.cell 0);have q1: wo.cell? ⟨w.heap.size+1,1,none⟩=some (.int .i64 0):=(cP.out.cell 1);have q2: wo.cell? ⟨w.heap.size+1,2,none⟩=some (.int .i64 0):=(cP.out.cell 2);have z0:=cP.out.frozen 0;have z1:=cP.out.frozen 1;have z2:=cP.out.frozen 2;clear hb;go_wp2;exact bodyPost_ret (v:=.agg G.cs) (by simp[results,Tryz.results115,go_sem,q0,q1,q2,an.cs]) rfl ⟨by rw[<-hG],((HB.out.setCell (by simp) _).setCell (by simp) _).setCell (by simp) _⟩
end Go.Tw
namespace Go.Tw
variable [Go.Tw.aR]
open Go
def Fu{α:Type}{f:List α->α->Int}:∀(l dw:List α),scan f dw l=0->∀x∈l,∃Zt,f Zt x=0
 | [],_,_,x,h=>by cases h
 |a::l,dw,h,x,hx=>by
  unfold scan at h;by_cases h0:f dw a≠0
  ·rw[if_pos h0] at h;exact absurd h h0
  ·rw[if_neg h0] at h
   rcases Af2.1 hx with rfl|hx
   ·exact⟨dw,by simpa using h0⟩
   ·exact Fu l _ h x hx
def alA{a b lo hi m:Int}(h:ma a b lo hi m=true):lo<=a/\a<=b/\b<=hi/\b - a<m:=by
 simp only[ma,Bool.and_eq_true,decide_eq_true_eq] at h;exact⟨h.1.1.1,h.1.1.2,h.1.2,h.2⟩
def WH{np:Int}:∀(l:List Int) (p:Int),eE np (some p) l=0->(∀k∈l,0<=k/\k<np)/\(l=[]\/(l.length:Int)<=np - 1 - p)
 | [],_,_=>⟨λk h=>(by cases h),.inl rfl⟩
 |a::l,p,h=>by
  unfold eE at h;by_cases hi:bX a 0 (np - 1)=true
  ·rw[if_pos hi] at h
   have hr:=nJ hi;by_cases ha:a<=p
   ·rw[if_pos ha] at h;omega
   ·rw[if_neg ha] at h
    obtain⟨h1,h2⟩:=WH l a h;refine⟨λk hk=>?_,.inr ?_⟩
    ·rcases Af2.1 hk with rfl|hk
     ·omega
     ·exact h1 k hk
    ·rcases h2 with rfl|h2
     ·simp;omega
     ·simp;omega
  ·rw[if_neg hi] at h;omega
def akl{np:Int}{l:List Int}(hn:0<=np)(h:eE np none l=0):(∀k∈l,0<=k/\k<np)/\(l.length:Int)<=np:=by
 cases l with
 |nil=>exact⟨λk h=>(by cases h),by simpa using hn⟩
 |cons a l=>
  unfold eE at h;by_cases hi:bX a 0 (np - 1)=true
  ·rw[if_pos hi] at h
   have hr:=nJ hi;obtain⟨h1,h2⟩:=WH l a h;refine⟨λk hk=>?_,?_⟩
   ·rcases Af2.1 hk with rfl|hk
    ·omega
    ·exact h1 k hk
   ·rcases h2 with rfl|h2
    ·simp;omega
    ·simp;omega
  ·rw[if_neg hi] at h;omega
structure Rm(p:Piece):Prop where
 lo:1<=p.len.lo
 le:p.len.lo<=p.len.hi
 hi:p.len.hi<=40
 wide:p.len.hi - p.len.lo<3
 bears:0<=p.bears/\p.bears<=2
structure QF(x:bR):Prop where
 aH:1<=x.aH/\x.aH<=40
 cM:x.cM.length<=3
structure Valid(b:ao):Prop where
 ag:0<=b.ag/\b.ag<=3
 np:1<=b.pieces.length/\b.pieces.length<=3
 piece:∀p∈b.pieces,Rm p
 nb:b.aF.length<=3
 bp:∀x∈b.aF,QF x
 nt:b.aJ.length<=4
 tape:∀t∈b.aJ,(∀k∈t.pieces,0<=k/\k<b.pieces.length)/\t.pieces.length<=b.pieces.length
def ajF{dw:List Piece}{p:Piece}(h:kJ dw p=0):Rm p:=by
 unfold kJ at h;split at h
 ·split at h
  ·omega
  ·split at h
   ·rename_i hs
    split at h
    ·rename_i hi
     have h1:=alA hs;have h2:=nJ hi;exact⟨h1.1,h1.2.1,h1.2.2.1,h1.2.2.2,h2⟩
    ·omega
   ·omega
 ·omega
def ZJ{dw:List bR}{x:bR}(h:gJ dw x=0):QF x:=by
 unfold gJ at h;split at h
 ·split at h
  ·omega
  ·split at h
   ·rename_i hi
    split at h
    ·omega
    ·exact⟨nJ hi,by omega⟩
   ·omega
 ·omega
def iy{b:ao}(h:dF b=0):Valid b:=by
 have hz:=Fu (f:=λ_ s=>s) (jP b) [] h
 obtain⟨_,h1⟩:=hz (if bX b.ag 0 3 then 0 else 1) (by simp[jP])
 obtain⟨_,h2⟩:=hz (iw b.pieces) (by simp[jP])
 obtain⟨_,h3⟩:=hz (kC b.aF) (by simp[jP])
 obtain⟨_,h4⟩:=hz (kK b.pieces.length b.aJ) (by simp[jP])
 clear hz h;have hs:bX b.ag 0 3=true:=by
  cases e:bX b.ag 0 3 with
  |true=>rfl
  |false=>rw[e] at h1;simp at h1
 have kH:bX b.pieces.length 1 3=true:=by
  cases e:bX b.pieces.length 1 3 with
  |true=>rfl
  |false=>unfold iw at h2;rw[e] at h2;simp at h2
 have hn:=nJ kH;unfold iw at h2;rw[kH,if_pos rfl] at h2;unfold kC at h3;split at h3
 ·omega
 unfold kK at h4;split at h4
 ·omega
 refine⟨nJ hs,by omega,λp hp=>?_,by omega,λx hx=>?_,by omega,λt ht=>?_⟩
 ·obtain⟨dw,h⟩:=Fu _ _ h2 p hp;exact ajF h
 ·obtain⟨dw,h⟩:=Fu _ _ h3 x hx;exact ZJ h
 ·obtain⟨dw,h⟩:=Fu _ _ h4 t ht
  simp only[kh] at h;split at h
  ·omega
  ·split at h
   ·contradiction
   ·rename_i h0
    have:=akl (np:=b.pieces.length) (by omega) (by simpa using h0)
    exact⟨this.1,by omega⟩
def Valid.amb{b:ao}(h:Valid b):zz b:=λt ht=>⟨λk hk=>by have:=(h.tape t ht).1 k hk;have:=h.np;omega,by have:=(h.tape t ht).2;have:=h.np;omega⟩
end Go.Tw
namespace Go.Tw
variable [Go.Tw.aR]
open Go Go.Proofs
def U{t:Aa8}{d:Option TypeDesc}(h:Afr.underlying t=d):Tw.prog.underlying t=d:=(Jh t).trans h
def A{t:Aa8}{b:Bool}(h:∀w:Abc,(isAgg t).run Afr w=.ok b w):∀w:Abc,(isAgg t).run Tw.prog w=.ok b w:=λw=>(amn t w).trans (h w)
def Z{t:Aa8}{b:Nat}(h:∀w:Abc,(sizeOf t).run Afr w=.ok b w):∀w:Abc,(sizeOf t).run Tw.prog w=.ok b w:=λw=>(amo t w).trans (h w)
def V{t:Aa8}{b:Value}(h:∀w:Abc,(zeroValue t).run Afr w=.ok b w):∀w:Abc,(zeroValue t).run Tw.prog w=.ok b w:=λw=>(Qb t w).trans (h w)
end Go.Tw
namespace Go.Proofs
variable [Go.Tw.aR]
open Go.Shelf
def Sh.agT:Go.Shelf.Ren:=⟨λ|122=>181|215=>203|n=>n,λ|3=>3|4=>4|n=>n,λ|n=>n⟩
def Sh.agS:Go.Proofs.Lays.n122 Tw.prog Sh.agT:={
 mixed:=by kernel_rfl
 f122:=Tw.func181.trans (congrArg some (by kernel_rfl))
 f215:=Tw.func203.trans (congrArg some (by kernel_rfl))
 t3:=Tw.U Tryz.underlying3
 a3:=Tw.A Tryz.isAgg3
 z3:=Tw.Z Tryz.sizeOf3
 v3:=Tw.V Tryz.zeroValue3
 t4:=Tw.U Tryz.underlying4
 a4:=Tw.A Tryz.isAgg4
 z4:=Tw.Z Tryz.sizeOf4
 v4:=Tw.V Tryz.zeroValue4}
open Go.RowKit in
def Sh.cmp_Compare_int(x y:Int)(w:Abc):
 Aet Tw.prog 181 #[.int .i64 x,.int .i64 y] w λe w'=>e=.returned (.int .i64 (Lib.compareInt x y))/\w'=w:=Any.cmp_Compare_int Sh.agS x y w
def Sh.agU:Go.Shelf.Ren:=⟨λ|189=>101|125=>164|257=>163|128=>199|129=>200|294=>190|295=>191|296=>192|297=>193|298=>194|299=>195|216=>196|300=>197|301=>198|328=>210|329=>211|330=>212|331=>213|332=>214|215=>203|343=>217|n=>n,λ|28=>33|3=>3|46=>194|0=>0|51=>220|53=>222|4=>4|183=>213|182=>212|131=>87|5=>5|9=>9|218=>234|222=>238|228=>242|229=>62|n=>n,λ|n=>n⟩
def Sh.VS:Go.Proofs.Lays.n189 Tw.prog Sh.agU:={
 mixed:=by kernel_rfl
 f125:=Tw.func164.trans (congrArg some (by kernel_rfl))
 f128:=Tw.func199.trans (congrArg some (by kernel_rfl))
 f129:=Tw.func200.trans (congrArg some (by kernel_rfl))
 f189:=Tw.func101.trans (congrArg some (by kernel_rfl))
 f215:=Tw.func203.trans (congrArg some (by kernel_rfl))
 f216:=Tw.func196.trans (congrArg some (by kernel_rfl))
 f257:=Tw.func163.trans (congrArg some (by kernel_rfl))
 f294:=Tw.func190.trans (congrArg some (by kernel_rfl))
 f295:=Tw.func191.trans (congrArg some (by kernel_rfl))
 f296:=Tw.func192.trans (congrArg some (by kernel_rfl))
 f297:=Tw.func193.trans (congrArg some (by kernel_rfl))
 f298:=Tw.func194.trans (congrArg some (by kernel_rfl))
 f299:=Tw.func195.trans (congrArg some (by kernel_rfl))
 f300:=Tw.func197.trans (congrArg some (by kernel_rfl))
 f301:=Tw.func198.trans (congrArg some (by kernel_rfl))
 f328:=Tw.func210.trans (congrArg some (by kernel_rfl))
 f329:=Tw.func211.trans (congrArg some (by kernel_rfl))
 f330:=Tw.func212.trans (congrArg some (by kernel_rfl))
 f331:=Tw.func213.trans (congrArg some (by kernel_rfl))
 f332:=Tw.func214.trans (congrArg some (by kernel_rfl))
 f343:=Tw.func217.trans (congrArg some (by kernel_rfl))
 t0:=Tw.U Tryz.underlying0
 a0:=Tw.A Tryz.isAgg0
 z0:=Tw.Z Tryz.sizeOf0
 v0:=Tw.V Tryz.zeroValue0
 t3:=Tw.U Tryz.underlying3
 a3:=Tw.A Tryz.isAgg3
 z3:=Tw.Z Tryz.sizeOf3
 v3:=Tw.V Tryz.zeroValue3
 t4:=Tw.U Tryz.underlying4
 a4:=Tw.A Tryz.isAgg4
 z4:=Tw.Z Tryz.sizeOf4
 v4:=Tw.V Tryz.zeroValue4
 t5:=Tw.U Tryz.underlying5
 a5:=Tw.A Tryz.isAgg5
 z5:=Tw.Z Tryz.sizeOf5
 v5:=Tw.V Tryz.zeroValue5
 t9:=Tw.U Tryz.underlying9
 a9:=Tw.A Tryz.isAgg9
 z9:=Tw.Z Tryz.sizeOf9
 v9:=Tw.V Tryz.zeroValue9
 t28:=Tw.U Tryz.underlying33
 a28:=Tw.A Tryz.isAgg33
 z28:=Tw.Z Tryz.sizeOf33
 v28:=Tw.V Tryz.zeroValue33
 t46:=Tw.U Tryz.underlying194
 a46:=Tw.A Tryz.isAgg194
 z46:=Tw.Z Tryz.sizeOf194
 v46:=Tw.V Tryz.zeroValue194
 t51:=Tw.U Tryz.underlying220
 a51:=Tw.A Tryz.isAgg220
 z51:=Tw.Z Tryz.sizeOf220
 v51:=Tw.V Tryz.zeroValue220
 t53:=Tw.U Tryz.underlying222
 a53:=Tw.A Tryz.isAgg222
 z53:=Tw.Z Tryz.sizeOf222
 v53:=Tw.V Tryz.zeroValue222
 t131:=Tw.U Tryz.underlying87
 a131:=Tw.A Tryz.isAgg87
 z131:=Tw.Z Tryz.sizeOf87
 v131:=Tw.V Tryz.zeroValue87
 t182:=Tw.U Tryz.underlying212
 a182:=Tw.A Tryz.isAgg212
 z182:=Tw.Z Tryz.sizeOf212
 v182:=Tw.V Tryz.zeroValue212
 t183:=Tw.U Tryz.underlying213
 a183:=Tw.A Tryz.isAgg213
 z183:=Tw.Z Tryz.sizeOf213
 v183:=Tw.V Tryz.zeroValue213
 t218:=Tw.U Tryz.underlying234
 a218:=Tw.A Tryz.isAgg234
 z218:=Tw.Z Tryz.sizeOf234
 v218:=Tw.V Tryz.zeroValue234
 t222:=Tw.U Tryz.underlying238
 a222:=Tw.A Tryz.isAgg238
 z222:=Tw.Z Tryz.sizeOf238
 v222:=Tw.V Tryz.zeroValue238
 t228:=Tw.U Tryz.underlying242
 a228:=Tw.A Tryz.isAgg242
 z228:=Tw.Z Tryz.sizeOf242
 v228:=Tw.V Tryz.zeroValue242
 t229:=Tw.U Tryz.underlying62
 a229:=Tw.A Tryz.isAgg62
 z229:=Tw.Z Tryz.sizeOf62
 v229:=Tw.V Tryz.zeroValue62}
open Go.Sort Go.RowKit in
def Sh.slices_Sort_int(blk off cap:Nat)(zs:List Int)(w:Abc)(hH:Holds (Afx .i64) w blk off zs.toArray)(aiD:blk<w.heap.size)(aI:zs.length<4611686018427387904):
 Aet Tw.prog 101 #[.slice (some ⟨blk,off,none⟩) zs.length cap] w λe w'=>
  e=.returned (.tuple #[])/\∃n os,w'=grow (putRow (Afx .i64) (Sort.ahead w n) blk off (zs.mergeSort λx y=>decide (x<=y)).toArray) os:=Any.slices_Sort_int Sh.VS blk off cap zs w hH aiD aI
def Sh.agV:Go.Shelf.Ren:=⟨λ|20=>102|n=>n,λ|22=>33|3=>3|4=>4|0=>0|n=>n,λ|n=>n⟩
def Sh.VT:Go.Proofs.Lays2.n20 Tw.prog Sh.agV:={
 mixed:=by kernel_rfl
 f20:=Tw.func102.trans (congrArg some (by kernel_rfl))
 t0:=Tw.U Tryz.underlying0
 a0:=Tw.A Tryz.isAgg0
 z0:=Tw.Z Tryz.sizeOf0
 v0:=Tw.V Tryz.zeroValue0
 t3:=Tw.U Tryz.underlying3
 a3:=Tw.A Tryz.isAgg3
 z3:=Tw.Z Tryz.sizeOf3
 v3:=Tw.V Tryz.zeroValue3
 t4:=Tw.U Tryz.underlying4
 a4:=Tw.A Tryz.isAgg4
 z4:=Tw.Z Tryz.sizeOf4
 v4:=Tw.V Tryz.zeroValue4
 t22:=Tw.U Tryz.underlying33
 a22:=Tw.A Tryz.isAgg33
 z22:=Tw.Z Tryz.sizeOf33
 v22:=Tw.V Tryz.zeroValue33
 i3:=by kernel_rfl}
open Go.RowKit Go.Lib Go.Sort in
def Sh.slices_Compact_int(blk off cap:Nat)(zs:List Int)(w:Abc)(hH:Holds (Afx .i64) w blk off zs.toArray)(aI:zs.length<=9223372036854775807)(M6:zs.length<=cap):
 Aet Tw.prog 102 #[.slice (some ⟨blk,off,none⟩) zs.length cap] w λe w'=>e=.returned (.slice (some ⟨blk,off,none⟩) (Afm zs).length cap)/\∃q,w'=putRow (Afx .i64) (Sort.ahead w q) blk off (Afm zs++List.replicate (zs.length - (Afm zs).length) 0).toArray:=Any.slices_Compact_int Sh.VT blk off cap zs w hH aI M6
open Go.RowKit Go.Lib Go.Sort in
def Sh.slices_Compact_int_empty(a:Option Addr)(cap:Nat)(w:Abc):
 Aet Tw.prog 102 #[.slice a 0 cap] w λe w'=>e=.returned (.slice a 0 cap)/\w'=w:=Any.slices_Compact_int_empty Sh.VT a cap w
open Go.RowKit Go.Sort in
def Sh.slices_Sort_int_none(p:Option Addr)(cap:Nat)(w:Abc):
 Aet Tw.prog 101 #[.slice p 0 cap] w λe w'=>e=.returned (.tuple #[])/\w'=w:=Any.slices_Sort_int_none Sh.VS p cap w
end Go.Proofs
namespace Go.Tw
variable [Go.Tw.aR]
open Go Go.Proofs Go.RowKit Go.Sort Go.Lib
def Zv{B:Nat}{w0 w:Abc}{os:Array Obj}(h:Below B w0 w)(hB:B<=w.heap.size):Below B w0 (Sort.grow w os):=
 ⟨h.os,h.tape,h.output,by have:=h.size;simp[Sort.grow];omega,λk hk=>by rw[<-h.block k hk];exact heap_grow_old w os (by omega)⟩
def aju{w:Abc}{base:Nat}{e:Aa8}{sz n:Nat}{v:Value}{xs:List Value}{os:Array Obj}(h:w.ownsRow base e sz v n xs):(Sort.grow w os).ownsRow base e sz v n xs:=by
 refine⟨h.1,?_⟩
 rcases h.2 with h0| ⟨g,cap,cur,h1,h2,h3,h4⟩
 ·exact .inl h0
 ·exact .inr ⟨g,cap,cur,h1,h2,(heap_grow_old w os (Aaf.1 h3).1).trans h3,h4⟩
def ga(l:List Int):List Int:=l.mergeSort λx y=>decide (x<=y)
def PW{base n:Nat}{v:Value}{zs:List Int}{w:Abc}(h:w.ownsRow base 3 1 v n (zs.map (Afx .i64)))(hn:n<=100000)(hb:base<=w.heap.size):
 Aet prog 101 #[v] w λe w'=>e=.returned (.tuple #[])/\w'.ownsRow base 3 1 v n ((ga zs).map (Afx .i64))/\Below base w w':=by
 by_cases hv:v=.slice none 0 0
 ·subst hv
  have h0:n=0/\zs=[]:=by
   rcases h.2 with⟨_,e⟩ | ⟨g,cap,cur,e,_⟩
   ·have:=h.1;simp at this;cases zs with
    |nil=>simp at this;exact⟨by omega,rfl⟩
    |cons=>simp_all
   ·cases e
  obtain⟨rfl,rfl⟩:=h0;refine(Sh.slices_Sort_int_none none 0 w).mono ?_
  rintro e w' ⟨rfl,rfl⟩;exact⟨rfl,by simpa [ga] using h,Aft _ _⟩
 ·obtain⟨g,cap,rfl,jU,al,dX,kZ,hl,hH⟩:=holds_of_ownsRow h hv
  subst hl;refine(Sh.slices_Sort_int g 0 cap zs w hH al (by omega)).mono ?_
  rintro e w' ⟨rfl,q,os,rfl⟩;have hs:(ga zs).length=zs.length:=by simp[ga]
  refine⟨rfl,aju ?_,Zv (below_putRow (Aft _ _) jU) (by simp;exact hb)⟩
  have:=ownsRow_putRow (q:=q) (k:=zs.length) (ys:=ga zs) h hs (Ad4 _);rwa[Agc (by omega)] at this
def aeE(zs:List Int):(Afm zs).length<=zs.length:=by
 unfold Afm compactUpTo;rw[List.length_map];exact Ad5 (Aga _ _) (by simp)
def Sz{base n:Nat}{v:Value}{zs:List Int}{w:Abc}(h:w.ownsRow base 3 1 v n (zs.map (Afx .i64)))(hn:n<=100000):
 Aet prog 102 #[v] w λe w'=>∃u,e=.returned u/\w'.ownsRow base 3 1 u (Afm zs).length ((Afm zs).map (Afx .i64))/\Below base w w':=by
 by_cases hv:v=.slice none 0 0
 ·subst hv
  have h0:n=0/\zs=[]:=by
   rcases h.2 with⟨_,e⟩ | ⟨g,cap,cur,e,_⟩
   ·have:=h.1;simp at this;cases zs with
    |nil=>simp at this;exact⟨by omega,rfl⟩
    |cons=>simp_all
   ·cases e
  obtain⟨rfl,rfl⟩:=h0;refine(Sh.slices_Compact_int_empty none 0 w).mono ?_
  rintro e w' ⟨rfl,rfl⟩;exact⟨_,rfl,h,Aft _ _⟩
 ·obtain⟨g,cap,rfl,jU,al,dX,kZ,hl,hH⟩:=holds_of_ownsRow h hv
  subst hl;refine(Sh.slices_Compact_int g 0 cap zs w hH (by omega) dX).mono ?_
  rintro e w' ⟨rfl,q,rfl⟩;have hk:(Afm zs).length<=zs.length:=aeE zs;refine⟨_,rfl,?_,below_putRow (Aft _ _) jU⟩
  have:=ownsRow_putRow (q:=q) (k:=(Afm zs).length) (ys:=Afm zs++List.replicate (zs.length - (Afm zs).length) 0) h (by simp;omega) hk
  simpa using this
end Go.Tw
end
