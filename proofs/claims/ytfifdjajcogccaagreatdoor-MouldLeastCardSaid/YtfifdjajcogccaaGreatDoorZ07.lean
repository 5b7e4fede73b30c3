import Derived.Test.YtfifdjajcogccaaGreatDoorZ06
import Derived.Test.YtfifdjajcogccaaGreatDoorZ05
import Derived.Test.YtfifdjajcogccaaGreatDoorZ04
import Derived.OpenShut
import Derived.WalkMore
import Derived.Laws.CopyRow
import Derived.Laws.IdiomCopy
import Derived.Laws.CopyOwn
import Derived.Deep.RegionHeld3
import Derived.Maps.OwnOps
import Derived.Maps.Views
import Derived.Maps.OwnSet
set_option linter.all false
set_option maxHeartbeats 64000000
set_option maxRecDepth 20000
open And renaming intro -> Afx
open Array renaming getElem?_map -> Ade, ext_getElem? -> Ah9, getElem?_eq_none -> Aan
open Bool renaming and_eq_true -> Aax, or_eq_false_iff -> Aia, and_eq_false_iff -> Aib, or_eq_true -> Aic, false_eq -> Aid
open Classical renaming choose -> Adi, choose_spec -> Adj
open Go renaming World -> Aa4, Calls -> Af1, maxLen -> Af0, bodyPost_ret -> Ag1, wpList_append_own -> Agx
open Go.Lib renaming hid -> Af3
open Go.Program renaming fieldsOf -> Aie
open Go.RowKit renaming intOf -> Ag7
open Go.RowKit.Below renaming refl -> Af6
open Go.World.ownsRow renaming alloc -> Aif
open List renaming getElem?_eq_getElem -> Aga, mem_of_getElem? -> Agg, mem_cons -> Aef, not_mem_nil -> Aeg, range -> Af9, getElem?_eq_some_iff -> Agb, drop_eq_nil_of_le -> Aig, any_eq_true -> Aih, any_eq_false -> Aii, getElem?_of_mem -> Aij, take_succ_cons -> Agi, take_zero -> Agj, drop_succ_cons -> Agk, drop_zero -> Agl, exists_of_findSome?_eq_some -> Ah3, length_append -> Ahq, findSome?_eq_some_iff -> Aik, getElem?_append_right -> Ail, take_add_one -> Aim, mem_map -> Ain, eq_nil_of_length_eq_zero -> Aio, dropLast_concat_getLast -> Aip, length_take -> Aiq, range_succ -> Air, length_set -> Ais, getElem?_eq_none -> Ait, getLast?_eq_some_getLast -> Aiu, flatMap_append -> Aho, mem_of_getLast? -> Aiv, mem_append -> Aft, take_of_length_le -> Agf, length_map -> Aiw, getElem?_map -> Aix, count_le_length -> Aiy
open Nat renaming le_refl -> Ac2, zero_le -> Agm, lt_succ_iff_lt_or_eq -> Agn, mul_one -> Agp, eq_zero_or_pos -> Aiz, le_trans -> Ac3
open Option.some renaming inj -> Ac5
namespace Go.Jn
open Go Go.Proofs Go.Sim Go.Tw
def rW(W:Aa4):Ren:=fun a b=>a=b/\fH W a
theorem Pv.self{W:Aa4}{v:Value}(h:Pv (fH W) v):ah (rW W) v v:=by
 cases v;case bool b=>exact .bool b
 case int k n=>exact .int k n
 case float=>exact h.elim
 case complex=>exact h.elim
 case string s=>exact .string s
 case pointer p=>
  cases p with
  |none=>exact .ptrNone
  |some a=>exact .ptr ⟨⟨rfl,h⟩,rfl,rfl⟩
 case slice p n c=>
  cases p with
  |none=>exact .sliceNone n c
  |some a=>
   rcases h with h| ⟨rfl,rfl⟩
   ·exact .slice n c ⟨⟨rfl,h⟩,rfl,rfl⟩
   ·exact .sliceDead _ _
 case map p=>
  cases p with
  |none=>exact .mapNone
  |some a=>exact h.elim
 case chan p=>
  cases p with
  |none=>exact .chanNone
  |some a=>exact h.elim
 case func f x y=>
  cases f with
  |func f=>
   obtain⟨rfl,rfl⟩:=h;exact .func (.func f) rfl (fun i hi _=>absurd hi (by simp)) rfl (fun i hi _=>absurd hi (by simp))
  |_=>exact h.elim
 case nilFunc=>exact .nilFunc
 case iface=>exact h.elim
 case nilIface=>exact .nilIface
 case agg=>exact h.elim
 case tuple=>exact h.elim
theorem I9(W:Aa4)(c:Array Value):∃u:Array Value,aP (rW W) u c/\u.size=c.size/\∀(i:Nat) (v:Value),c[i]?=some v->Pv (fH W) v->u[i]?=some v:=by
 have key:∀v',∃u,ah (rW W) u v'/\(Pv (fH W) v'->u=v'):=fun v'=>by
  by_cases hp:Pv (fH W) v'
  ·exact⟨v',hp.self,fun _=>rfl⟩
  ·obtain⟨u,hu⟩:=rB (rW W) v'
   exact⟨u,hu,fun h=>absurd h hp⟩
 refine⟨c.map fun v=>Adi (key v),⟨by simp,fun i h1 h2=>?_⟩,by simp,fun i v hi hp=>?_⟩
 ·simp only[Array.getElem_map]
  exact(Adj (key _)).1
 ·rw[Ade,hi]
  exact congrArg some ((Adj (key v)).2 hp)
noncomputable def frI(W:Aa4):Obj->Obj
 | .cells c e _=>.cells (Adi (I9 W c)) e (0,(Adi (I9 W c)).size)
 |_=>.cells #[] 0 (0,0)
noncomputable def nA(W:Aa4):Aa4:={W with heap:=W.heap.map (frI W)}
section
variable {W:Aa4}
theorem Tk:(nA W).heap.size=W.heap.size:=by simp[nA]
theorem GM{a:Nat}{c:Array Value}{e:TypeId}{fr:Nat×Nat}(h:W.heap[a]?=some (.cells c e fr)):
 ∃u:Array Value,(nA W).heap[a]?=some (.cells u e (0,u.size))/\aP (rW W) u c/\u.size=c.size/\∀(i:Nat) (v:Value),c[i]?=some v->Pv (fH W) v->u[i]?=some v:=by
 refine⟨Adi (I9 W c),?_,Adj (I9 W c)⟩
 unfold nA;simp only[Ade,h,Option.map_some]
 rfl
theorem acU(C:bQ):bV C (rW W) (nA W) W where
 dA a b hab:=by rw[Tk];exact LP hab.2
 dc a b hab:=by rw[<-hab.1];exact LP hab.2
 fn a b b' x y:=x.1.symm.trans y.1
 inj a a' b x y:=x.1.trans y.1.symm
 obj a b o hab ho:=by
  obtain⟨rfl,c,e,fr,h⟩:=hab;obtain⟨u,h1,h2,h3,h4⟩:=GM h;rw[h1] at ho;cases ho;exact⟨_,h,.cells e h2 (.inr ⟨rfl,Ac2 _⟩)⟩
theorem acV(b:Nat):mZ (rW W) (nA W) b:=by
 rintro a ⟨rfl,c,e,fr,h⟩;obtain⟨u,h1,h2,h3,h4⟩:=GM h;exact⟨_,h1,rfl,Ac2 _⟩
theorem acX:bJ (nA W).heap:=by
 intro o ho hb;obtain⟨a,ha⟩:=Array.getElem?_of_mem ho
 unfold nA at ha;simp only[Ade] at ha
 obtain⟨o1,_,rfl⟩:=Option.map_eq_some_iff.1 ha;cases o1<;>exact hb
theorem acT{p:Addr}{v:Value}(h: W.cell? p=some v)(hp:Pv (fH W) v):(nA W).cell? p=some v:=by
 have hS:=LQ h;obtain⟨c,e,fr,ho⟩:=hS;obtain⟨u,h1,h2,h3,h4⟩:=GM ho;unfold World.cell? at h |-
 rw[ho] at h;rw[h1];simp only at h |-
 split at h
 ·cases h
 ·rename_i hs
  rw[if_neg hs];exact h4 _ _ h hp
variable {α:Type}{B sz:Nat}{R R':α->List Value->Prop}{v:Value}{xs:List α}
theorem Fp(aI:0<sz)(h:Row W B sz R v xs)(he:Sv (fH W) v):Pv (fH W) v:=by
 obtain⟨A,c,rfl,h1,h2,h3⟩:=h;cases A with
 |none=>exact trivial
 |some A=>
  cases xs with
  |nil=>exact(he A _ c rfl rfl).imp id fun h=>⟨rfl,h⟩
  |cons x xs=>
   obtain⟨ad,e,hb,h4⟩:=h3 (by simp)
   cases e;obtain⟨cs,_,hl,hc⟩:=h4 0 x rfl;obtain⟨u,hu⟩:∃u,cs[0]?=some u:=⟨cs[0]'(by omega),Aga _⟩
   have:=LQ (hc 0 u hu);rw[cq] at this;exact .inl this
theorem C4(h:Row W B sz R v xs)(hR:∀x cs,R x cs->R' x cs/\∀u∈cs,Pv (fH W) u):Row (nA W) B sz R' v xs:=by
 obtain⟨A,c,e,h1,h2,h3⟩:=h;refine⟨A,c,e,h1,h2,fun hx=>?_⟩
 obtain⟨ad,hA,hb,h4⟩:=h3 hx;refine⟨ad,hA,hb,fun i x hi=>?_⟩
 obtain⟨cs,r,hl,au⟩:=h4 i x hi;have:=hR x cs r;exact⟨cs,this.1,hl,fun j u hu=>acT (au j u hu) (this.2 u (Agg hu))⟩
theorem acS{b:ao}{pv bv tv:Value}(h:FY (fH W) W B b pv bv tv):bg (nA W) B b pv bv tv/\Pv (fH W) pv/\Pv (fH W) bv/\Pv (fH W) tv:=by
 refine⟨⟨C4 h.pieces fun x cs r=>⟨r,fun u hu=>?_⟩,C4 h.aF fun x cs r=>?_,C4 h.aJ fun x cs r=>?_⟩,Fp (by omega) h.pieces h.sp,Fp (by omega) h.aF h.sb,Fp (by omega) h.aJ h.st⟩
 ·obtain⟨rfl,_⟩:=r
  simp only[Aef,Aeg,or_false] at hu;rcases hu with rfl|rfl|rfl|rfl<;>exact trivial
 ·obtain⟨⟨kv,rfl,k1,k2⟩,k3⟩:=r
  have hp:Pv (fH W) kv:=Fp (by omega) k2 (k3 kv (by simp))
  refine⟨⟨kv,rfl,k1,C4 k2 fun x cs r=>⟨r,fun u hu=>?_⟩⟩,fun u hu=>?_⟩
  ·rw[show cs=_ from r] at hu
   simp only[Aef,Aeg,or_false] at hu;rcases hu with rfl|rfl<;>exact trivial
  ·simp only[Aef,Aeg,or_false] at hu
   rcases hu with rfl|rfl|rfl
   ·exact trivial
   ·exact trivial
   ·exact hp
 ·obtain⟨⟨kv,rfl,k2⟩,k3⟩:=r
  have hp:Pv (fH W) kv:=Fp (by omega) k2 (k3 kv (by simp))
  refine⟨⟨kv,rfl,C4 k2 fun x cs r=>⟨r,fun u hu=>?_⟩⟩,fun u hu=>?_⟩
  ·rw[show cs=_ from r] at hu
   simp only[Aef,Aeg,or_false] at hu;rcases hu with rfl;exact trivial
  ·simp only[Aef,Aeg,or_false] at hu
   rcases hu with rfl|rfl|rfl
   ·exact hp
   ·exact trivial
   ·exact trivial
theorem acW(h:ri W):gI (nA W)/\rW W 0 0:=by
 obtain⟨fr,h⟩:=h;refine⟨?_,rfl,_,_,_,h⟩
 obtain⟨u,h1,h2,h3,h4⟩:=GM h;have e:u=#[.func (.func 234) #[] #[],.func (.func 236) #[] #[]]:=by
  have a0:=h4 0 _ rfl ⟨rfl,rfl⟩;have a1:=h4 1 _ rfl ⟨rfl,rfl⟩;refine Ah9 fun i=>?_
  match i with
  |0=>rw[a0];rfl
  |1=>rw[a1];rfl
  |i+2=>
   rw[Aan (by rw[h3];simp),Aan (by simp)]
 subst e;exact⟨_,h1⟩
end
end Go.Jn
namespace Go.Jn
open Go Go.Proofs Go.Sim Go.Tw Go.ChangeShapes Go.WideShapes Go.ChangeAt Go.RowKit
abbrev Et{H:Type}:List (String×DataW H):=[("ribband/mould.measures",YtfifdjajcogccaaGreatDoor.Rows.laid_ribband_mould_measures)]
theorem ajr:ownKnob Tryz.prog.godebug=none:=by kernel_rfl
theorem agN:laidOutB Tryz.prog=true:=by kernel_rfl
theorem ada:Tryz.prog.globalNamed "ribband/mould.measures" =some 0:=by kernel_rfl
theorem al9:(Tryz.prog.globals[0]?).map (·.type)=some 146:=by kernel_rfl
theorem aaf:Tryz.prog.cellsOf 145=1:=by kernel_rfl
theorem aag:Tryz.prog.cellsOf 146=2:=by kernel_rfl
theorem aae:Tryz.prog.cellsOf 143=1:=by kernel_rfl
theorem abi(os:Os)(args:Array Value):laidMetH Tryz.prog Et ((World.doorLaid Tryz.prog 600 os).forCall (fun _ _=>0) ⟨#[],args,[]⟩).memory:=
 laidMetH_of_parts3 (fuel:=8) (laidMet_of_run' 8 (by kernel_rfl) (by kernel_rfl)) (by kernel_rfl) (by kernel_rfl)
theorem alp(os:Os)(args:Array Value):((World.doorLaid Tryz.prog 600 os).forCall (fun _ _=>0) ⟨#[],args,[]⟩).Shaped Tryz.prog:=
 World.shaped_of_RefB (by kernel_rfl) (by kernel_rfl)
theorem Zu:(((begin Tryz.prog (fun _ _=>0) default).world.heap[0]?).bind Obj.row?).map (fun x=>(x.1.size,x.2))=some (2,146):=by kernel_rfl
theorem adf:0<Tryz.prog.globals.size:=of_decide_eq_true (by kernel_rfl)
theorem Wq{W:Aa4}{n:Nat}{c:Value}{d:DataW (List UInt8)}{q:List MemPlace}{b:UInt8}{r:List UInt8}{f0:FuncId}
 (AB:((Af9 Tryz.prog.funcs.size).filter fun f=>(Tryz.prog.funcs[f]?).any (·.name.toUTF8.data.toList==b::r))=[f0])
 (h:DataW.trod (funcToken Tryz.prog) Tryz.prog W 0 (fun _=>true) true n 145 [c]=some (d,q))(hd:d=.agg [.held (b::r)]):c=.func (.func f0) #[] #[]:=by
 obtain⟨xs,m,_,hx,_,hl,h1⟩:=DataW.trod_struct Tryz.underlying145 h;have e:=congrArg Prod.fst hx;simp only[hd,DataW.agg.injEq] at e;match xs,hl with
 | [x],_=>
   simp only[List.map_cons,List.map_nil,List.cons.injEq,and_true] at e;have h2:DataW.trod (funcToken Tryz.prog) Tryz.prog W 0 (fun _=>true) true m 143 [c]=some x:=by
     have:=h1 0 _ rfl;simpa [aae] using this
   obtain⟨x1,x2⟩:=x;simp only at e;subst e;exact func_of_trod Tryz.underlying143 AB h2
set_option maxRecDepth 100000 in
theorem ah0{W:Aa4}(hs:W.ShapedOpen Tryz.prog)(h:laidMetH Tryz.prog Et W):ri W:=by
 obtain⟨g,t,cs,fuel,p,hg,ht,hv,hd⟩:=h.funcs (List.mem_singleton.2 rfl);obtain rfl:=Ac5 (ada.symm.trans hg);obtain rfl:=Ac5 (al9.symm.trans ht);obtain⟨xs,m,_,hx,hl,hn,h1⟩:=DataW.trod_array Tryz.underlying146 hd;rw[aag] at hl;have e:=congrArg Prod.fst hx;match cs,hl with
 | ⟨[c0,c1]⟩,_=>
 match xs,hn with
 | [x0,x1],_=>
   have e2:(DataW.agg [.agg [.held [114,105,98,98,97,110,100,47,109,111,117,108,100,46,109,101,97,115,117,114,101,115,36,49]],.agg [.held [114,105,98,98,97,110,100,47,109,111,117,108,100,46,109,101,97,115,117,114,101,115,36,50]]]:DataW (List UInt8))=.agg [x0.1,x1.1]:=e;simp only[DataW.agg.injEq,List.cons.injEq,and_true] at e2;have k0:=h1 0 (by omega)
   have k1:=h1 1 (by omega)
   simp only[aaf] at k0 k1;have f0:c0=.func (.func 234) #[] #[]:=Wq (by kernel_rfl) (show DataW.trod (funcToken Tryz.prog) Tryz.prog W 0 (fun _=>true) true m 145 [c0]=some (x0.1,x0.2) from k0) e2.1.symm
   have f1:c1=.func (.func 236) #[] #[]:=Wq (by kernel_rfl) (show DataW.trod (funcToken Tryz.prog) Tryz.prog W 0 (fun _=>true) true m 145 [c1]=some (x1.1,x1.2) from k1) e2.2.symm
   subst f0 f1;have hb:=Zu;cases hz:((begin Tryz.prog (fun _ _=>0) default).world.heap[0]?).bind Obj.row? with
   |none=>rw[hz] at hb;cases hb
   |some z=>
    rw[hz] at hb;obtain⟨zero,t⟩:=z;simp only[Option.map_some,Option.some.injEq,Prod.mk.injEq] at hb;obtain⟨ba,rfl⟩:=hb;obtain⟨bh,hc,aI,_⟩:=hs.1 0 zero 146 adf hz;refine⟨(0,0),?_⟩
    rw[hc];have cell:∀i,W.cell? ⟨0,i,none⟩=bh[i]?:=fun i=>cell_of_row W 0 i _ 146 _ hc
    have a0:=World.var?_cell hg hv 0
    have a1:=World.var?_cell hg hv 1
    rw[cell] at a0 a1;have:bh=#[.func (.func 234) #[] #[],.func (.func 236) #[] #[]]:=by
     refine Ah9 fun i=>?_
     match i with
     |0=>exact a0
     |1=>exact a1
     |i+2=>rw[Aan (by rw[aI,ba];omega),Aan (by simp)]
    rw[this]
end Go.Jn
namespace Go.Tw
variable [Go.Tw.aR]
open Go Go.Proofs Go.RowKit
def tb(c:Int):Bool:=decide (48<=c) && decide (c<=57)
theorem digit(c:Int)(w:Aa4):Af1 prog 207 #[.int .u8 c] w fun e w'=>e=.returned (.bool (tb c))/\w=w':=by
 go_enter func207,Tryz.ntmps207;go_wp2;all_goals go_ret
 all_goals (refine⟨b9 ?_,rfl⟩;unfold tb;first| (simp;done) | (simp[*];done) | (simp;omega))
theorem IY{s:ByteArray}(hs:s.size<=Af0)(w:Aa4):
 Af1 prog 186 #[.string s] w fun e w'=>e=.returned (.bool (mK s.data.toList))/\w=w':=by
 unfold Af0 at hs;by_cases h1:s.size<1
 ·go_enter func186,Tryz.ntmps186
  go_wp2;go_ret;refine⟨b9 ?_,rfl⟩
  have e:bX s.data.toList.length 1 10=false:=by unfold bX;simp;omega
  unfold mK;rw[e,Bool.and_false]
 by_cases h2:10<s.size
 ·go_enter func186,Tryz.ntmps186
  go_wp2;go_ret;refine⟨b9 ?_,rfl⟩
  have e:bX s.data.toList.length 1 10=false:=by unfold bX;simp;omega
  unfold mK;rw[e,Bool.and_false]
 have hlen:bX s.data.toList.length 1 10=true:=by unfold bX;simp;omega
 have UF:bX (s.size:Int) 1 10=true:=by simpa using hlen
 have HL:=Af3 UF;clear UF;have h0:0<s.size:=by omega
 cases hd:tb s[0].toNat with
 |true=>
  go_enter func186,Tryz.ntmps186;go_wp2_with (first
   | (go_at_call 207;refine(digit _ _).mono ?_;rintro e w' ⟨rfl,rfl⟩;try rw[hd]))
  go_ret;refine⟨b9 (Eq.symm (O2 (CF h0) ?_)),rfl⟩
  simp only[tb,Aax,decide_eq_true_eq] at hd;simp only[jr,Aia,Aib,decide_eq_false_iff_not];omega
 |false=>
  go_enter func186,Tryz.ntmps186;go_wp2_with (first
   | (go_at_call 207;refine(digit _ _).mono ?_;rintro e w' ⟨rfl,rfl⟩;try rw[hd]))
  go_loop [3] (fun k=>∃n:Nat,n<=s.size/\k=.int .i64 n/\∀j c,j<n->s.data.toList[j]?=some c->jr j c.toNat=true) (fun k=>s.size - (Ag7 k).toNat)
  case atStart=>exact⟨0,Agm _,rfl,fun j _ hj=>by omega⟩
  case round=>
   obtain⟨n,hn,rfl,bt⟩:=hrel;have HA:=Af3 bt;clear bt;by_cases al:n<s.size
   ·have bad:jr n s[n].toNat=false->Ending.returned (.bool false)=.returned (.bool (mK s.data.toList)):=fun h=>b9 (Eq.symm (O2 (CF al) h))
    have fG:=Af3 bad;have hz:n=0->tb s[n].toNat=false:=fun e=>by subst e;exact hd
    have HZ:=Af3 hz;clear bad hz;have C8:jr n s[n].toNat=true->∀j c,j<n+1->s.data.toList[j]?=some c->jr j c.toNat=true:=fun h j c hj o8=>by
     rcases Agn.1 hj with h'|rfl
     ·exact HA.out j c h' o8
     ·have e:c=s[j]:=by simpa using((CF al).symm.trans o8).symm
      subst e;exact h
    have QV:=Af3 C8;clear C8;cases ve:tb s[n].toNat with
    |true=>
     have hc:jr n s[n].toNat=true:=by
      have jX:n≠0:=fun e=>by have:=HZ.out e;rw[ve] at this;cases this
      simp only[tb,Aax,decide_eq_true_eq] at ve;simp only[jr,Aic,Aax,decide_eq_true_eq];omega
     have HC:=Af3 hc;clear hc;go_wp2_with (first
      | (go_at_call 207;refine(digit _ _).mono ?_;rintro e w' ⟨rfl,rfl⟩;try rw[ve]))
     go_round
     case rel=>exact⟨n+1,by omega,by go_num,QV.out HC.out⟩
     case measure=>simp[Ag7];omega
    |false=>
     have nH:¬ (48<=s[n].toNat/\s[n].toNat<=57):=by
      intro h;have:tb s[n].toNat=true:=by simp only[tb,Aax,decide_eq_true_eq];omega
      rw[this] at ve;cases ve
     by_cases ha:s[n].toNat<97
     ·have hc:jr n s[n].toNat=false:=by
       simp only[jr,Aia,Aib,decide_eq_false_iff_not];omega
      have R:=Af3 (fG.out hc);clear hc;go_wp2_with (first
       | (go_at_call 207;refine(digit _ _).mono ?_;rintro e w' ⟨rfl,rfl⟩;try rw[ve]))
      go_ret;exact⟨R.out,rfl⟩
     by_cases hb:122<s[n].toNat
     ·have hc:jr n s[n].toNat=false:=by
       simp only[jr,Aia,Aib,decide_eq_false_iff_not];omega
      have R:=Af3 (fG.out hc);clear hc;go_wp2_with (first
       | (go_at_call 207;refine(digit _ _).mono ?_;rintro e w' ⟨rfl,rfl⟩;try rw[ve]))
      go_ret;exact⟨R.out,rfl⟩
     have hc:jr n s[n].toNat=true:=by
      simp only[jr,Aic,Aax,decide_eq_true_eq];omega
     have HC:=Af3 hc;clear hc;go_wp2_with (first
      | (go_at_call 207;refine(digit _ _).mono ?_;rintro e w' ⟨rfl,rfl⟩;try rw[ve]))
     go_round
     case rel=>exact⟨n+1,by omega,by go_num,QV.out HC.out⟩
     case measure=>simp[Ag7];omega
   ·obtain rfl:n=s.size:=by omega
    go_wp2;go_ret;refine⟨b9 ?_,rfl⟩
    simp[mK,HL.out,LR s.data.toList 0 (fun k c hk=>by
     have:=HA.out k c (by have:=(Agb.1 hk).1;simpa using this) hk;simpa using this)]
theorem rising{np:Nat}{l:List Int}{v:Value}{w:Aa4}{B:Nat}(hv:Row w B 1 cH v l)(hB:B<=w.heap.size)(kH:np<=Af0):
 Af1 prog 57 #[v,.int .i64 np] w fun e w'=>e=.returned (.int .i64 (eE np none l))/\Below w.heap.size w w':=by
 obtain⟨A,n,c,rfl,hl,dX,hc,hr⟩:=hv.open_;unfold Af0 at hc kH;have KR:=Af3 hr;have KL:=Af3 hl;clear hv hr hl;go_enter func57,Tryz.ntmps57;go_wp2;go_loopw [4,5] (fun r k wr=>∃j:Nat,j<=n/\k=.int .i64 j/\r=.int .i64 0/\eE np none l=eE np (l8 l j) (l.drop j)/\Below w.heap.size w wr) (fun _ k _=>n - (Ag7 k).toNat)
 case atStart=>exact⟨0,Agm _,rfl,rfl,rfl,Af6 _ _⟩
 case round=>
  obtain⟨j,hj,rfl,rfl,vx,hb⟩:=hrel;have RE:=Af3 vx;have HB:=Af3 hb;clear vx;by_cases nE:j<n
  ·obtain⟨kd,y,cs,rfl,qt,hy,rfl,-,au⟩:=KR.out j nE
   have st:Still B w wr:=Still.aK hb hB;have ST:=Af3 st;have q0:kd.block<wr.heap.size:=by have:=hb.size;omega
   have g1:=cC au st qt rfl;rw[Agp] at g1;have HY:=Af3 hy;clear hy au st hb;cases dL:bX y 0 (np - 1) with
   |false=>
    go_wp2_with (first
     | (go_at_call 62;refine(lg _ _ _ _).mono ?_;rintro e w' ⟨rfl,rfl⟩))
    go_ret;refine⟨aX ?_,HB.out⟩
    rw[RE.out,drop_cons HY.out];cases l8 l j<;>simp[eE,dL]
   |true=>
    rcases Aiz j with uW|uW
    ·subst uW
     rw[show kd.add 0=kd from rfl] at g1
     go_wp2_with (first
      | (go_at_call 62;refine(lg _ _ _ _).mono ?_;rintro e w' ⟨rfl,rfl⟩))
     go_quiet (fail);go_wp2;have hrel:eE np none l=eE np (l8 l 1) (l.drop 1):=by rw[RE.out,drop_cons HY.out];simp[l8,eE,dL,HY.out]
     go_roundw;case rel=>exact⟨1,nE,by go_num,rfl,hrel,by first|exact HB.out|exact jq HB.out _⟩
     case measure=>simp[Ag7];omega
    ·obtain⟨q,rfl⟩:∃q,j=q+1:=⟨j - 1,by omega⟩
     obtain⟨eT,z,SF,CQ,Uv,hz,rfl,-,vd⟩:=KR.out q (by omega)
     cases CQ;rw[show kd.add (q+1)=⟨kd.block,kd.off+(q+1),none⟩ from rfl] at g1
     have g3:=cC vd ST.out qt rfl;rw[Agp] at g3;have HZ:=Af3 hz;clear hz vd;have gx:decide ((0:Int)<((q+1:Nat):Int))=true:=by simp<;>omega
     by_cases qI:y<=z
     ·have hd:decide (y<=z)=true:=by simpa using qI
      go_wp2_with (first
          | (go_at_call 62;refine(lg _ _ _ _).mono ?_;rintro e w' ⟨rfl,rfl⟩))
      go_quiet (fail);go_wp2;go_ret;refine⟨aX ?_,by first|exact HB.out|exact jq HB.out _⟩
      rw[RE.out,drop_cons HY.out];simp[l8,HZ.out,eE,dL,qI]
     ·have hd:decide (y<=z)=false:=by simpa using qI
      have hrel:eE np none l=eE np (l8 l (q+2)) (l.drop (q+2)):=by rw[RE.out,drop_cons HY.out];simp[l8,HZ.out,HY.out,eE,dL];omega
      have HR:=Af3 hrel;clear hrel;go_wp2_with (first
          | (go_at_call 62;refine(lg _ _ _ _).mono ?_;rintro e w' ⟨rfl,rfl⟩))
      go_quiet (fail);go_wp2;go_roundw;case rel=>exact⟨q+2,by omega,by go_num,rfl,HR.out,by first|exact HB.out|exact jq HB.out _⟩
      case measure=>simp[Ag7];omega
  ·obtain rfl:j=n:=by omega
   go_wp2;go_ret;refine⟨aX ?_,HB.out⟩
   rw[RE.out,Aig (by rw[KL.out];exact Ac2 _)]
   cases l8 l j<;>rfl
theorem Fz{a b lo hi m:Int}:ma a b lo hi m=(mV a b lo hi && decide (b - a<m)):=by
 unfold ma mV;cases decide (lo<=a)<;>cases decide (a<=b)<;>cases decide (b<=hi)<;>rfl
theorem ajZ{pv:Value}{w:Aa4}{B:Nat}{l:List Piece}(hv:Row w B 4 Piece.R pv l)(hB:B<=w.heap.size):
 Af1 prog 145 #[pv] w fun e w'=>e=.returned (.int .i64 (iw l))/\Below w.heap.size w w':=by
 obtain⟨A,m,c,rfl,hl,dX,hc,hr⟩:=hv.open_;have dC:=Af3 hl;unfold Af0 at hc;have H2:=Af3 hr;clear hl hr hv;cases hlen:bX m 1 3 with
 |false=>
  go_enter func145,Tryz.ntmps145;go_wp2_with (first
   | (go_at_call 62;refine(lg _ _ _ _).mono ?_;rintro e w' ⟨rfl,rfl⟩))
  go_ret;exact⟨aX (by unfold iw;rw[dC.out,hlen];rfl),Af6 _ _⟩
 |true=>
  have hm3:m<=3:=by have:=nJ hlen;omega
  go_enter func145,Tryz.ntmps145;go_wp2_with (first
   | (go_at_call 62;refine(lg _ _ _ _).mono ?_;rintro e w' ⟨rfl,rfl⟩))
  go_loopw [2,3,4,5] (fun r k u v wr=>∃i:Nat,i<=m/\k=.int .i64 i/\(∀(j:Nat) (x:Piece),j<i->l[j]?=some x->kJ (l.take j) x=0)/\Below w.heap.size w wr) (fun _ k _ _ _=>m - (Ag7 k).toNat)
  case atStart=>exact⟨0,Agm _,rfl,fun j _ hj=>by omega,Af6 _ _⟩
  case round=>
   obtain⟨i,hi,rfl,bt,hb⟩:=hrel;have HH:=Af3 (Afx bt hb);have tL:w.heap.size<=wr.heap.size:=hb.size;by_cases al:i<m
   ·obtain⟨ad,x,cs,rfl,aC,hx,⟨rfl,dH⟩,-,au⟩:=H2.out i al
    have st:Still B w wr:=Still.aK hb hB;have ST:=Af3 st;have h0:=cC au st aC rfl;have h1:=bK au st aC 0 rfl;have h2:=bK au st aC 1 rfl;have h3:=bK au st aC 2 rfl;have qb:(ad.add (i * 4)).block<wr.heap.size:=by rw[cq];omega
    have HX:=Af3 hx;have uy:=Af3 au;clear bt hb hx au st;have bad:∀s:Int,kJ (l.take i) x=s->s≠0->s=iw l:=fun s hs h0=>by
     unfold iw;rw[dC.out,hlen,if_pos rfl,sf HX.out HH.out.1 (by rw[hs];exact h0),hs]
    have fG:=Af3 bad;clear bad;cases dI:mK x.name.data.toList with
    |false=>
     go_wp2_with (first
      | (go_at_call 186;refine(IY dH _).mono ?_;rintro e w1 ⟨rfl,rfl⟩;try rw[dI]))
     go_ret;exact⟨aX (fG.out 4 (by unfold kJ;rw[dI];rfl) (by omega)),HH.out.2⟩
    |true=>
     go_wp2_with (first
      | (go_at_call 186;refine(IY dH _).mono ?_;rintro e w1 ⟨rfl,rfl⟩;try rw[dI]))
     clear h0;have HN:=Af3 dH;go_loopw [4] (fun k wq=>∃j:Nat,j<=i/\k=.int .i64 j/\(∀(q:Nat) (y:Piece),q<j->l[q]?=some y->jF y.name x.name=false)/\Below w.heap.size w wq) (fun k _=>i - (Ag7 k).toNat)
     case atStart=>exact⟨0,Agm _,rfl,fun q _ hq=>by omega,HH.out.2⟩
     case round=>
      obtain⟨j,hj,rfl,bj,Hc⟩:=hrel;have HO:=Af3 (Afx bj Hc);have D2:w.heap.size<=wr.heap.size:=Hc.size;have BC:Still B w wr:=Still.aK Hc hB;have Ze:=Af3 BC;have h0:=cC uy.out BC aC rfl;have h1:=bK uy.out BC aC 0 rfl;have h2:=bK uy.out BC aC 1 rfl;have h3:=bK uy.out BC aC 2 rfl;have qb':(ad.add (i * 4)).block<wr.heap.size:=by rw[cq];omega
      clear bj Hc BC;by_cases pa:j<i
      ·obtain⟨Cs,y,bh,e',adT,hy,⟨rfl,NK⟩,-,Ak⟩:=H2.out j (by omega)
       cases e';have g0:=cC Ak Ze.out aC rfl;have qc:(ad.add (j * 4)).block<wr.heap.size:=by rw[cq];omega
       have HY:=Af3 hy;clear hy Ak NK;cases hs:jF y.name x.name with
       |true=>
        have cD:(y.name.toList==x.name.toList)=true:=hs;go_wp2;go_quiet (fail);go_wp2;go_ret;refine⟨aX (fG.out 5 ?_ (by omega)),by first|exact HO.out.2|exact jq HO.out.2 _⟩
        unfold kJ;rw[dI,if_pos rfl,if_pos];rw[Aih];exact⟨y,Agg (i:=j) (by rw[List.getElem?_take,if_pos pa];exact HY.out),hs⟩
       |false=>
        have cD:(y.name.toList==x.name.toList)=false:=hs;go_wp2;go_quiet (fail);go_wp2;go_roundw;case rel=>exact⟨j+1,by omega,by go_num,fun q z hq hz=>by
            rcases Agn.1 hq with h|rfl
            ·exact HO.out.1 q z h hz
            ·rw[HY.out] at hz;cases hz;exact hs,by first|exact HO.out.2|exact jq HO.out.2 _⟩
        case measure=>simp[Ag7];omega
      ·obtain rfl:j=i:=by omega
       have Dl:(l.take j).any (fun q=>jF q.name x.name)=false:=by
           rw[Aii];intro z hz;obtain⟨q,hq⟩:=Aij hz
           rw[List.getElem?_take] at hq
           split at hq
           ·rename_i yd;simpa using HO.out.1 q z yd hq
           ·cases hq
       have uw:=Af3 Dl;clear Dl;cases hw:mV x.len.lo x.len.hi 1 40 with
       |false=>
        go_wp2_with (first
            | (go_at_call 49;refine(within _).mono ?_;rintro e w2 ⟨rfl,ak⟩;try rw[hw]))
        go_ret;refine⟨aX (fG.out 1 (by unfold kJ;rw[dI,uw.out,Fz,hw];rfl) (by omega)),cU HO.out.2 ak D2⟩
       |true=>
        have AN:1<=x.len.lo/\x.len.lo<=x.len.hi/\x.len.hi<=40:=by
            simp only[mV,Aax,decide_eq_true_eq] at hw;exact hw
        obtain⟨b1,b2,b3⟩:=AN;by_cases Ao:3<=x.len.hi - x.len.lo
        ·go_wp2_with (first
             | (go_at_call 49;refine(within _).mono ?_;rintro e w2 ⟨rfl,ak⟩;obtain⟨ef,nD⟩:=fy ak rfl;have ba:wr.heap.size<w2.heap.size:=oE ak;have et:=Af3 (cU HO.out.2 ak D2);clear ak;try rw[hw]))
         go_ret;refine⟨aX (fG.out 1 (by unfold kJ;rw[dI,uw.out,Fz,hw];simp;omega) (by omega)),et.out⟩
        ·have rR:ma x.len.lo x.len.hi 1 40 3=true:=by rw[Fz,hw];simp;omega
         have Re:=Af3 rR;clear rR;cases yb:bX x.bears 0 2 with
         |false=>
          go_wp2_with (first
             | (go_at_call 49;refine(within _).mono ?_;rintro e w2 ⟨rfl,ak⟩;obtain⟨ef,nD⟩:=fy ak rfl;have ba:wr.heap.size<w2.heap.size:=oE ak;have et:=Af3 (cU HO.out.2 ak D2);clear ak;try rw[hw])
             | (go_at_call 62;refine(lg _ _ _ _).mono ?_;rintro e w' ⟨rfl,rfl⟩;try rw[yb]))
          go_ret;refine⟨aX (fG.out 1 (by unfold kJ;rw[dI,uw.out,Re.out,yb];rfl) (by omega)),et.out⟩
         |true=>
          go_wp2_with (first
             | (go_at_call 49;refine(within _).mono ?_;rintro e w2 ⟨rfl,ak⟩;obtain⟨ef,nD⟩:=fy ak rfl;have ba:wr.heap.size<w2.heap.size:=oE ak;have et:=Af3 (cU HO.out.2 ak D2);clear ak;try rw[hw])
             | (go_at_call 62;refine(lg _ _ _ _).mono ?_;rintro e w' ⟨rfl,rfl⟩;try rw[yb]))
          go_roundw;case rel=>exact⟨j+1,by omega,by go_num,fun q y hq hy=>by
             rcases Agn.1 hq with h|rfl
             ·exact HH.out.1 q y h hy
             ·rw[HX.out] at hy;cases hy;unfold kJ;rw[dI,uw.out,Re.out,yb];rfl,et.out⟩
          case measure=>simp[Ag7];omega
   ·obtain rfl:i=m:=by omega
    go_wp2;go_ret;refine⟨aX ?_,HH.out.2⟩
    unfold iw;rw[dC.out,hlen,if_pos rfl,se (fun j x hj=>HH.out.1 j x (by have:=(Agb.1 hj).1;have:=dC.out;omega) hj)]
def tQ(l:List Span)(i:Nat):Int:=if i=0 then -1 else match l[i - 1]? with
 |some k=>k.hi
 |none=>0
theorem Ij{aH last:Int}{k:Span}{l:List Span}:lX aH last (k::l)=if ma k.lo k.hi 0 (aH - 1) aH then if k.lo<=last then 7 else lX aH k.hi l else 1:=rfl
theorem Ik{a b aH:Int}:ma a b 0 (aH - 1) aH=mV a b 0 (aH - 1):=by
 rw[Fz];by_cases h:mV a b 0 (aH - 1)=true
 ·rw[h]
  simp only[mV,Aax,decide_eq_true_eq] at h;simp;omega
 ·simp only[Bool.not_eq_true] at h;rw[h];rfl
theorem ajX{x:bR}{kv v:Value}{w:Aa4}{B:Nat}{l:List bR}(dH:x.name.size<=Af0)(hk:Row w B 2 Span.R kv x.cM)(hv:Row w B 3 (bR.R w B) v l)(hB:B<=w.heap.size):
 Af1 prog 146 #[v,.agg #[.string x.name,.int .i64 x.aH,kv]] w fun e w'=>e=.returned (.int .i64 (gJ l x))/\Below w.heap.size w w':=by
 obtain⟨A0,m0,c0,rfl,Uz,aoC,ic,U8⟩:=hv.open_;obtain⟨A,m,c,rfl,hl,dX,hc,hr⟩:=hk.open_;have dC:=Af3 hl;have YK:=Af3 Uz;have H0:=Af3 U8;unfold Af0 at hc ic;have H2:=Af3 hr;clear hl hr hk hv Uz U8;have kb:Bk (w.alloc (.cells #[.string x.name,.int .i64 x.aH,.slice A m c] 59)) w.heap.size 59 #[.string x.name,.int .i64 x.aH,.slice A m c]:=Bk.new _ _ _;have KB:=Af3 kb;have qh:Below w.heap.size w (w.alloc (.cells #[.string x.name,.int .i64 x.aH,.slice A m c] 59)):=(Af6 _ _).alloc (Ac2 _) _;have fS:=Af3 qh;clear kb qh;cases dI:mK x.name.data.toList with
 |false=>
  go_enter func146,Tryz.ntmps146;go_wp2_with (first
   | (go_at_call 186;refine(IY dH _).mono ?_;rintro e w1 ⟨rfl,rfl⟩;try rw[dI]))
  go_ret;exact⟨aX (by unfold gJ;rw[dI];rfl),fS.out⟩
 |true=>
  go_enter func146,Tryz.ntmps146;go_wp2_with (first
   | (go_at_call 186;refine(IY dH _).mono ?_;rintro e w1 ⟨rfl,rfl⟩;try rw[dI]))
  go_loopw [5] (fun k wr=>∃i:Nat,i<=m0/\k=.int .i64 i/\(∀(q:Nat) (y:bR),q<i->l[q]?=some y->jF y.name x.name=false)/\Below (w.heap.size+1) (w.alloc (.cells #[.string x.name,.int .i64 x.aH,.slice A m c] 59)) wr) (fun k _=>m0 - (Ag7 k).toNat)
  case atStart=>exact⟨0,Agm _,rfl,fun q _ hq=>by omega,Af6 _ _⟩
  case round=>
   obtain⟨i,hi,rfl,bj,hb⟩:=hrel;have HO:=Af3 (Afx bj hb);have fN:Below w.heap.size w wr:=fS.out.trans (hb.mono (by omega))
   have BW:=Af3 fN;have aI:w.heap.size<wr.heap.size:=by have:=hb.size;simp at this;omega
   have kr:=KB.out.below hb (by omega)
   have r0:=kr.cell 0;have r1:=kr.cell 1;have r2:=kr.cell 2;have st:Still B w wr:=Still.aK fN hB;have ST:=Af3 st;have KR:=Af3 kr;clear bj hb fN kr;by_cases al:i<m0
   ·obtain⟨ad,y,cs,rfl,aC,hy,⟨jC,rfl,NK,-⟩,-,au⟩:=H0.out i al
    have g0:=cC au st aC rfl;have qc:(ad.add (i * 3)).block<wr.heap.size:=by rw[cq];omega
    have HY:=Af3 hy;clear hy au st NK;cases hs:jF y.name x.name with
    |true=>
     have cD:(y.name.toList==x.name.toList)=true:=hs;go_wp2;go_quiet (fail);go_wp2;go_ret;refine⟨aX ?_,by first|exact BW.out|exact jq BW.out _⟩
     unfold gJ;rw[dI,if_pos rfl,if_pos];rw[Aih];exact⟨y,Agg HY.out,hs⟩
    |false=>
     have cD:(y.name.toList==x.name.toList)=false:=hs;go_wp2;go_quiet (fail);go_wp2;go_roundw;case rel=>exact⟨i+1,by omega,by go_num,fun q z hq hz=>by
      rcases Agn.1 hq with h|rfl
      ·exact HO.out.1 q z h hz
      ·rw[HY.out] at hz;cases hz;exact hs,by first|exact HO.out.2|exact jq HO.out.2 _⟩
     case measure=>simp[Ag7];omega
   ·obtain rfl:i=m0:=by omega
    have Dl:l.any (fun q=>jF q.name x.name)=false:=by
     rw[Aii];intro z hz;obtain⟨q,hq⟩:=Aij hz
     simpa using HO.out.1 q z (by have:=(Agb.1 hq).1;have:=YK.out;omega) hq
    have uw:=Af3 Dl;clear Dl st;cases ij:bX x.aH 1 40 with
    |false=>
     go_wp2_with (first
      | (go_at_call 62;refine(lg _ _ _ _).mono ?_;rintro e w' ⟨rfl,rfl⟩;try rw[ij]))
     go_ret;exact⟨aX (by unfold gJ;rw[dI,uw.out,ij];rfl),BW.out⟩
    |true=>
     obtain⟨pb,Un⟩:=nJ ij;by_cases h3:3<m
     ·go_wp2_with (first
       | (go_at_call 62;refine(lg _ _ _ _).mono ?_;rintro e w' ⟨rfl,rfl⟩;try rw[ij]))
      go_ret;exact⟨aX (by unfold gJ;rw[dI,uw.out,ij,dC.out];simp[h3]),BW.out⟩
     ·go_wp2_with (first
       | (go_at_call 62;refine(lg _ _ _ _).mono ?_;rintro e w' ⟨rfl,rfl⟩;try rw[ij]))
      have fe:gJ l x=lX x.aH (-1) x.cM:=by unfold gJ;rw[dI,uw.out,ij,dC.out];simp[h3]
      have B5:=Af3 fe;clear fe;clear r0 r1 r2;go_loopw [6] (fun k wq=>∃j:Nat,j<=m/\k=.int .i64 j/\lX x.aH (-1) x.cM=lX x.aH (tQ x.cM j) (x.cM.drop j)/\Below (w.heap.size+1) (w.alloc (.cells #[.string x.name,.int .i64 x.aH,.slice A m c] 59)) wq) (fun k _=>m - (Ag7 k).toNat)
      case atStart=>exact⟨0,Agm _,rfl,rfl,HO.out.2⟩
      case round=>
       obtain⟨j,hj,rfl,vx,hb⟩:=hrel;have RE:=Af3 vx;have HQ:=Af3 hb;have fN:Below w.heap.size w wr:=fS.out.trans (hb.mono (by omega))
       have BQ:=Af3 fN;have aI:w.heap.size<wr.heap.size:=by have:=hb.size;simp at this;omega
       have hle:w.heap.size+1<=wr.heap.size:=by omega
       have kr:=KB.out.below hb (by omega)
       have r0:=kr.cell 0;have r1:=kr.cell 1;have r2:=kr.cell 2;have KQ:=Af3 kr;have st:Still B w wr:=Still.aK fN hB;have ST:=Af3 st;clear vx hb fN kr;by_cases nE:j<m
       ·obtain⟨ad,y,cs,rfl,aC,hy,rfl,-,au⟩:=H2.out j nE
        have h0:=cC au st aC rfl;have h1:=bK au st aC 0 rfl;have qc:(ad.add (j * 2)).block<wr.heap.size:=by rw[cq];omega
        have HY:=Af3 hy;have HC:=Af3 au;clear hy au st;go_wp2;refine ua 8 (by kernel_rfl) (by kernel_rfl) ?_
        simp only[Agi,Agj,Agk,Agl];repeat still_step
        refine wpStill_nil ?_
        cases hw:mV y.lo y.hi 0 (x.aH - 1) with
        |false=>
         go_wp2_with (first
             | (go_at_call 49;refine(within _).mono ?_;rintro e w2 ⟨rfl,ak⟩;try rw[hw]))
         go_ret;refine⟨aX ?_,chain BQ.out (iU ak) (by omega)⟩
         rw[B5.out,RE.out,drop_cons HY.out];rw[Ij,Ik,hw];rfl
        |true=>
         rcases Aiz j with uW|uW
         ·subst uW
          have hrel:lX x.aH (-1) x.cM=lX x.aH (tQ x.cM 1) (x.cM.drop 1):=by
             rw[RE.out,drop_cons HY.out];have pb:0<=y.lo:=by simp only[mV,Aax,decide_eq_true_eq] at hw;exact hw.1
             have hn:¬ (y.lo<=tQ x.cM 0):=by simp[tQ];omega
             rw[Ij,Ik,hw,if_pos rfl,if_neg hn];simp[tQ,HY.out]
          have HR:=Af3 hrel;clear hrel;go_wp2
          go_at_call 49
          refine(within _).mono ?_
          rintro e w2 ⟨rfl,ak⟩;have b2:Below wr.heap.size wr w2:=iU ak;have k2:=KQ.out.below b2 aI;have s0:=k2.cell 0;have s1:=k2.cell 1;have s2:=k2.cell 2;have ba:w.heap.size<w2.heap.size:=by have:=b2.size;omega
          have mT:Still B w w2:=ST.out.trans (Still.aK b2 (by omega))
          have t0:=cC HC.out mT aC rfl;have t1:=bK HC.out mT aC 0 rfl;have q2:(ad.add (0 * 2)).block<w2.heap.size:=by rw[cq];omega
          have et:=Af3 (HQ.out.trans (b2.mono hle));have FX:=Af3 (BQ.out.trans (b2.mono (by omega)))
          clear ak b2 k2 mT
          try rw[hw]
          go_wp2;go_quiet (fail);go_wp2;go_roundw;case rel=>exact⟨1,nE,by go_num,HR.out,by first|exact et.out|exact jq et.out _⟩
          case measure=>simp[Ag7];omega
         ·obtain⟨q,rfl⟩:∃q,j=q+1:=⟨j - 1,by omega⟩
          obtain⟨Cs,z,SF,CQ,Uv,hz,rfl,-,vd⟩:=H2.out q (by omega)
          cases CQ;have HZ:=Af3 hz;have QX:=Af3 vd;clear hz vd;have UD:tQ x.cM (q+1)=z.hi:=by simp[tQ,HZ.out]
          have Q2:=Af3 UD;clear UD;have gx:decide ((0:Int)<((q+1:Nat):Int))=true:=by simp<;>omega
          by_cases qI:y.lo<=z.hi
          ·have hd:decide (y.lo<=z.hi)=true:=by simpa using qI
           go_wp2
           go_at_call 49
           refine(within _).mono ?_
           rintro e w2 ⟨rfl,ak⟩;have b2:Below wr.heap.size wr w2:=iU ak;have k2:=KQ.out.below b2 aI;have s0:=k2.cell 0;have s1:=k2.cell 1;have s2:=k2.cell 2;have ba:w.heap.size<w2.heap.size:=by have:=b2.size;omega
           have mT:Still B w w2:=ST.out.trans (Still.aK b2 (by omega))
           have t0:=cC HC.out mT aC rfl;have t1:=bK HC.out mT aC 0 rfl;have q2:(ad.add ((q+1) * 2)).block<w2.heap.size:=by rw[cq];omega
           have et:=Af3 (HQ.out.trans (b2.mono hle));have FX:=Af3 (BQ.out.trans (b2.mono (by omega)))
           have t3:=bK QX.out mT aC 0 rfl;have q3:(ad.add (q * 2)).block<w2.heap.size:=by rw[cq];omega
           clear ak b2 k2 mT
           try rw[hw]
           go_wp2;go_quiet (fail);go_wp2;go_ret;refine⟨aX ?_,by first|exact FX.out|exact jq FX.out _⟩
           rw[B5.out,RE.out,drop_cons HY.out,Q2.out];rw[Ij,Ik,hw,if_pos rfl,if_pos qI]
          ·have hd:decide (y.lo<=z.hi)=false:=by simpa using qI
           have hrel:lX x.aH (-1) x.cM=lX x.aH (tQ x.cM (q+2)) (x.cM.drop (q+2)):=by
               rw[RE.out,drop_cons HY.out,Q2.out];rw[Ij,Ik,hw,if_pos rfl,if_neg qI];simp[tQ,HY.out]
           have HR:=Af3 hrel;clear hrel;go_wp2
           go_at_call 49
           refine(within _).mono ?_
           rintro e w2 ⟨rfl,ak⟩;have b2:Below wr.heap.size wr w2:=iU ak;have k2:=KQ.out.below b2 aI;have s0:=k2.cell 0;have s1:=k2.cell 1;have s2:=k2.cell 2;have ba:w.heap.size<w2.heap.size:=by have:=b2.size;omega
           have mT:Still B w w2:=ST.out.trans (Still.aK b2 (by omega))
           have t0:=cC HC.out mT aC rfl;have t1:=bK HC.out mT aC 0 rfl;have q2:(ad.add ((q+1) * 2)).block<w2.heap.size:=by rw[cq];omega
           have et:=Af3 (HQ.out.trans (b2.mono hle));have FX:=Af3 (BQ.out.trans (b2.mono (by omega)))
           have t3:=bK QX.out mT aC 0 rfl;have q3:(ad.add (q * 2)).block<w2.heap.size:=by rw[cq];omega
           clear ak b2 k2 mT
           try rw[hw]
           go_wp2;go_quiet (fail);go_wp2;go_roundw;case rel=>exact⟨q+2,by omega,by go_num,HR.out,by first|exact et.out|exact jq et.out _⟩
           case measure=>simp[Ag7];omega
       ·obtain rfl:j=m:=by omega
        go_wp2;go_ret;refine⟨aX ?_,BQ.out⟩
        rw[B5.out,RE.out,Aig (by rw[dC.out];exact Ac2 _)]
        rfl
theorem XG{a b:Int}:ma a b 0 120 121=mV a b 0 120:=by
 rw[Fz];by_cases h:mV a b 0 120=true
 ·rw[h]
  simp only[mV,Aax,decide_eq_true_eq] at h;simp;omega
 ·simp only[Bool.not_eq_true] at h;rw[h];rfl
theorem aj0{n:Int}{pv bv tv:Value}{w:Aa4}{B:Nat}{lp:List Piece}{l:List Tape}(hp:Row w B 4 Piece.R pv lp)(Dr:∃A n c,bv=.slice A n c)(hv:Row w B 3 (Tape.R w B) tv l)(hB:B<=w.heap.size):
 Af1 prog 147 #[.agg #[.int .i64 n,pv,bv,tv]] w fun e w'=>e=.returned (.int .i64 (kK lp.length l))/\Below w.heap.size w w':=by
 obtain⟨PA,np,pc,rfl,kH,Hv,vw,-⟩:=hp.open_;obtain⟨A,m,c,rfl,hl,dX,hc,hr⟩:=hv.open_;obtain⟨BA,bn,bc,rfl⟩:=Dr;have dC:=Af3 hl;have DQ:=Af3 kH;have KU:=Af3 (Ac3 Hv vw);unfold Af0 at hc vw;have H2:=Af3 hr;have kb:Bk (w.alloc (.cells #[.int .i64 n,.slice PA np pc,.slice BA bn bc,.slice A m c] 26)) w.heap.size 26 #[.int .i64 n,.slice PA np pc,.slice BA bn bc,.slice A m c]:=Bk.new _ _ _;have KB:=Af3 kb;have fS:Hid (Below w.heap.size w (w.alloc (.cells #[.int .i64 n,.slice PA np pc,.slice BA bn bc,.slice A m c] 26))):=Af3 ((Af6 _ _).alloc (Ac2 _) _);clear hl hr hv kH hp kb;by_cases hlen:4<m
 ·go_enter func147,Tryz.ntmps147
  go_wp2;go_ret;exact⟨aX (by unfold kK;rw[dC.out,if_pos hlen]),fS.out⟩
 ·go_enter func147,Tryz.ntmps147
  go_wp2;go_loopw [2,3,4,5] (fun r k u v wr=>∃i:Nat,i<=m/\k=.int .i64 i/\(∀(j:Nat) (x:Tape),j<i->l[j]?=some x->kh np x=0)/\Below (w.heap.size+1) (w.alloc (.cells #[.int .i64 n,.slice PA np pc,.slice BA bn bc,.slice A m c] 26)) wr) (fun _ k _ _ _=>m - (Ag7 k).toNat)
  case atStart=>exact⟨0,Agm _,rfl,fun j _ hj=>by omega,Af6 _ _⟩
  case round=>
   obtain⟨i,hi,rfl,bt,hb⟩:=hrel;have HH:=Af3 (Afx bt hb);have fN:Below w.heap.size w wr:=fS.out.trans (hb.mono (by omega))
   have BW:=Af3 fN;have aI:w.heap.size<wr.heap.size:=by have:=hb.size;simp at this;omega
   have hle:w.heap.size+1<=wr.heap.size:=by omega
   have kr:=KB.out.below hb (by omega)
   have r0:=kr.cell 0;have r1:=kr.cell 1;have r2:=kr.cell 2;have r3:=kr.cell 3;have KR:=Af3 kr;have st:Still B w wr:=Still.aK fN hB;have ST:=Af3 st;clear bt hb fN kr;by_cases al:i<m
   ·obtain⟨ad,x,cs,rfl,aC,hx,⟨kv,rfl,dj⟩,-,au⟩:=H2.out i al
    obtain⟨KA,kn,kc,rfl,da,Uu,DJ,xS⟩:=id dj.open_;have YH:=Af3 dj;unfold Af0 at DJ;have KL:=Af3 da;have h0:=cC au st aC rfl;have h1:=bK au st aC 0 rfl;have h2:=bK au st aC 1 rfl;have qc:(ad.add (i * 3)).block<wr.heap.size:=by rw[cq];omega
    have HX:=Af3 hx;clear hx au st dj da xS;have bad:∀s:Int,kh np x=s->s≠0->s=kK lp.length l:=fun s hs h0=>by
     unfold kK;rw[dC.out,if_neg hlen,DQ.out,sf (f:=fun _ t=>kh np t) HX.out HH.out.1 (by rw[hs];exact h0),hs]
    have fG:=Af3 bad;clear bad;have HO:Hid (Below (w.heap.size+1) (w.alloc (.cells #[.int .i64 n,.slice PA np pc,.slice BA bn bc,.slice (some ad) m c] 26)) (wr.alloc (.cells #[.slice KA kn kc,.int .i64 x.sum.lo,.int .i64 x.sum.hi] 95))):=Af3 (HH.out.2.alloc hle _);have Cb:Hid (Below w.heap.size w (wr.alloc (.cells #[.slice KA kn kc,.int .i64 x.sum.lo,.int .i64 x.sum.hi] 95))):=Af3 (BW.out.alloc (by omega) _)
    by_cases iM:kn=0
    ·subst iM
     go_wp2;go_ret;exact⟨aX (fG.out 2 (by unfold kh;rw[KL.out];rfl) (by omega)),Cb.out⟩
    ·have ig:((kn:Int)==0)=false:=by simp;omega
     have KG:Hid (Row (wr.alloc (.cells #[.slice KA kn kc,.int .i64 x.sum.lo,.int .i64 x.sum.hi] 95)) B 1 cH (.slice KA kn kc) x.pieces):=Af3 (YH.out.still (Still.aK Cb.out hB) fun _ _ h=>h)
     by_cases dY:eE np none x.pieces=0
     ·cases hw:mV x.sum.lo x.sum.hi 0 120 with
      |false=>
       go_wp2
       go_at_call 57
       refine(rising KG.out (by simp;omega) KU.out).mono ?_
       rintro e w2 ⟨rfl,ak⟩;rw[dY];have mG:(wr.alloc (.cells #[.slice KA kn kc,.int .i64 x.sum.lo,.int .i64 x.sum.hi] 95)).heap.size=wr.heap.size+1:=by simp
       have k2:Bk w2 wr.heap.size 95 #[.slice KA kn kc,.int .i64 x.sum.lo,.int .i64 x.sum.hi]:=(Bk.new wr 95 _).below ak (by omega)
       have s0:=k2.cell 0;have s1:=k2.cell 1;have s2:=k2.cell 2;have ba:wr.heap.size<w2.heap.size:=k2.lt;have BX:Hid (Below (w.heap.size+1) (w.alloc (.cells #[.int .i64 n,.slice PA np pc,.slice BA bn bc,.slice (some ad) m c] 26)) w2):=Af3 (HO.out.trans (ak.mono (by omega)))
       have J3:Hid (Below w.heap.size w w2):=Af3 (Cb.out.trans (ak.mono (by omega)))
       clear ak k2 mG;go_wp2
       go_at_call 49
       refine(within _).mono ?_
       rintro e w3 ⟨rfl,bD⟩;have BY:Hid (Below (w.heap.size+1) (w.alloc (.cells #[.int .i64 n,.slice PA np pc,.slice BA bn bc,.slice (some ad) m c] 26)) w3):=Af3 (BX.out.trans (bD.mono (by omega)))
       have QE:Hid (Below w.heap.size w w3):=Af3 (J3.out.trans (bD.mono (by omega)))
       clear bD;rw[hw];go_wp2;go_ret;exact⟨aX (fG.out 1 (by unfold kh;rw[KL.out,if_neg iM,dY,XG,hw];rfl) (by omega)),QE.out⟩
      |true=>
       go_wp2
       go_at_call 57
       refine(rising KG.out (by simp;omega) KU.out).mono ?_
       rintro e w2 ⟨rfl,ak⟩;rw[dY];have mG:(wr.alloc (.cells #[.slice KA kn kc,.int .i64 x.sum.lo,.int .i64 x.sum.hi] 95)).heap.size=wr.heap.size+1:=by simp
       have k2:Bk w2 wr.heap.size 95 #[.slice KA kn kc,.int .i64 x.sum.lo,.int .i64 x.sum.hi]:=(Bk.new wr 95 _).below ak (by omega)
       have s0:=k2.cell 0;have s1:=k2.cell 1;have s2:=k2.cell 2;have ba:wr.heap.size<w2.heap.size:=k2.lt;have BX:Hid (Below (w.heap.size+1) (w.alloc (.cells #[.int .i64 n,.slice PA np pc,.slice BA bn bc,.slice (some ad) m c] 26)) w2):=Af3 (HO.out.trans (ak.mono (by omega)))
       have J3:Hid (Below w.heap.size w w2):=Af3 (Cb.out.trans (ak.mono (by omega)))
       clear ak k2 mG;go_wp2
       go_at_call 49
       refine(within _).mono ?_
       rintro e w3 ⟨rfl,bD⟩;have BY:Hid (Below (w.heap.size+1) (w.alloc (.cells #[.int .i64 n,.slice PA np pc,.slice BA bn bc,.slice (some ad) m c] 26)) w3):=Af3 (BX.out.trans (bD.mono (by omega)))
       have QE:Hid (Below w.heap.size w w3):=Af3 (J3.out.trans (bD.mono (by omega)))
       clear bD;rw[hw];go_wp2;go_roundw;case rel=>exact⟨i+1,by omega,by go_num,fun j y hj hy=>by
           rcases Agn.1 hj with h|rfl
           ·exact HH.out.1 j y h hy
           ·rw[HX.out] at hy;cases hy;unfold kh;rw[KL.out,if_neg iM,dY,XG,hw];rfl,BY.out⟩
       case measure=>simp[Ag7];omega
     ·have N9:(eE np none x.pieces !=0)=true:=by simpa using dY
      obtain⟨s,hs⟩:∃s,s=eE np none x.pieces:=⟨_,rfl⟩
      rw[<-hs] at dY N9;have HS:=Af3 hs;go_wp2
      go_at_call 57
      refine(rising KG.out (by simp;omega) KU.out).mono ?_
      rintro e w2 ⟨rfl,ak⟩;rw[<-HS.out];have BX:=Af3 (Cb.out.trans (ak.mono (by simp;omega)))
      clear ak hs;go_wp2;go_ret;exact⟨aX (fG.out s (by unfold kh;rw[KL.out,if_neg iM,<-HS.out,if_pos dY]) dY),BX.out⟩
   ·obtain rfl:i=m:=by omega
    go_wp2;go_ret;refine⟨aX ?_,BW.out⟩
    unfold kK;rw[dC.out,if_neg hlen,DQ.out,se (f:=fun _ t=>kh np t) (fun j x hj=>HH.out.1 j x (by have:=(Agb.1 hj).1;have:=dC.out;omega) hj)]
theorem aac{b:ao}(h:bX b.ag 0 3=false):dF b=1:=by
 unfold dF jP;rw[h];rfl
theorem aab{b:ao}(h:bX b.ag 0 3=true)(h1:iw b.pieces≠0):dF b=iw b.pieces:=by
 unfold dF jP;rw[h];simp[scan,h1]
theorem Sp{b:ao}(h:bX b.ag 0 3=true)(h1:iw b.pieces=0)(h2:kC b.aF≠0):dF b=kC b.aF:=by
 unfold dF jP;rw[h];simp[scan,h1,h2]
theorem aad{b:ao}(h:bX b.ag 0 3=true)(h1:iw b.pieces=0)(h2:kC b.aF=0):dF b=kK b.pieces.length b.aJ:=by
 unfold dF jP;rw[h]
 by_cases h3:kK b.pieces.length b.aJ=0
 ·simp[scan,h1,h2,h3]
 ·simp[scan,h1,h2,h3]
theorem ajY{b:ao}{pv bv tv:Value}{w:Aa4}{B:Nat}(ai:bg w B b pv bv tv)(hB:B<=w.heap.size):
 Af1 prog 69 #[.agg #[.int .i64 b.ag,pv,bv,tv]] w fun e w'=>e=.returned (.int .i64 (dF b))/\Below w.heap.size w w':=by
 have bT:=Af3 ai;obtain⟨PA,np,pc,rfl,kH,Hv,vw,-⟩:=ai.pieces.open_;obtain⟨TA,nt,tc,rfl,xZ,htc,Ob,-⟩:=ai.aJ.open_;obtain⟨A,m,c,rfl,hl,dX,hc,hr⟩:=ai.aF.open_;have dC:=Af3 hl;unfold Af0 at hc vw Ob;have H2:=Af3 hr;have kb:Bk (w.alloc (.cells #[.int .i64 b.ag,.slice PA np pc,.slice A m c,.slice TA nt tc] 26)) w.heap.size 26 #[.int .i64 b.ag,.slice PA np pc,.slice A m c,.slice TA nt tc]:=Bk.new _ _ _;have KB:=Af3 kb;have fS:Hid (Below w.heap.size w (w.alloc (.cells #[.int .i64 b.ag,.slice PA np pc,.slice A m c,.slice TA nt tc] 26))):=Af3 ((Af6 _ _).alloc (Ac2 _) _);have mG:(w.alloc (.cells #[.int .i64 b.ag,.slice PA np pc,.slice A m c,.slice TA nt tc] 26)).heap.size=w.heap.size+1:=by simp
 have K2:=Af3 mG;have Kc:Hid (Af1 prog 145 #[.slice PA np pc] (w.alloc (.cells #[.int .i64 b.ag,.slice PA np pc,.slice A m c,.slice TA nt tc] 26)) fun e w'=>e=.returned (.int .i64 (iw b.pieces))/\Below (w.heap.size+1) (w.alloc (.cells #[.int .i64 b.ag,.slice PA np pc,.slice A m c,.slice TA nt tc] 26)) w'):=Af3 (by
  have:=ajZ (bT.out.pieces.still (Still.aK fS.out hB) fun _ _ h=>h) (by rw[mG];omega)
  rw[mG] at this;exact this)
 clear hl hr ai kH xZ kb mG;cases h1:bX b.ag 0 3 with
 |false=>
  go_enter func69,Tryz.ntmps69;go_wp2_with (first
   | (go_at_call 62;refine(lg _ _ _ _).mono ?_;rintro e w' ⟨rfl,rfl⟩;try rw[h1]))
  go_ret;exact⟨aX (aac h1).symm,fS.out⟩
 |true=>
  by_cases h2:iw b.pieces=0
  ·go_enter func69,Tryz.ntmps69
   go_wp2_with (first
    | (go_at_call 62;refine(lg _ _ _ _).mono ?_;rintro e w' ⟨rfl,rfl⟩;try rw[h1]))
   go_at_call 145
   refine Kc.out.mono ?_
   rintro e w1 ⟨rfl,ae⟩;rw[h2];have k1:=KB.out.below ae (by omega)
   have r0:=k1.cell 0;have r1:=k1.cell 1;have r2:=k1.cell 2;have r3:=k1.cell 3;have aN:w.heap.size<w1.heap.size:=k1.lt;have dO:Hid (Below w.heap.size w w1):=Af3 (fS.out.trans (ae.mono (by omega)))
   have Yl:=Af3 ae;clear k1 ae;by_cases h3:3<m
   ·go_wp2
    go_ret;exact⟨aX (by rw[Sp h1 h2 (by unfold kC;rw[dC.out,if_pos h3];omega)];unfold kC;rw[dC.out,if_pos h3]),dO.out⟩
   ·go_wp2
    clear r0 r1 r2 r3;go_loopw [2,4,5] (fun r k u wr=>∃i:Nat,i<=m/\k=.int .i64 i/\(∀(j:Nat) (x:bR),j<i->b.aF[j]?=some x->gJ (b.aF.take j) x=0)/\Below (w.heap.size+1) (w.alloc (.cells #[.int .i64 b.ag,.slice PA np pc,.slice A m c,.slice TA nt tc] 26)) wr) (fun _ k _ _=>m - (Ag7 k).toNat)
    case atStart=>exact⟨0,Agm _,rfl,fun j _ hj=>by omega,Yl.out⟩
    case round=>
     obtain⟨i,hi,rfl,bt,hb⟩:=hrel;have HH:=Af3 (Afx bt hb);have fN:Below w.heap.size w wr:=fS.out.trans (hb.mono (by omega))
     have BW:=Af3 fN;have aI:w.heap.size<wr.heap.size:=by have:=hb.size;have:=K2.out;omega
     have hle:w.heap.size+1<=wr.heap.size:=by omega
     have kr:=KB.out.below hb (by omega)
     have r0:=kr.cell 0;have r1:=kr.cell 1;have r2:=kr.cell 2;have r3:=kr.cell 3;have st:Still B w wr:=Still.aK fN hB;have ST:=Af3 st;clear bt hb fN kr;by_cases al:i<m
     ·obtain⟨ad,x,cs,rfl,aC,hx,⟨kv,rfl,dH,dj⟩,-,au⟩:=H2.out i al
      obtain⟨A2,c2,rfl,-⟩:=id dj;obtain⟨n2,dM⟩:∃n2,n2=x.cM.length:=⟨_,rfl⟩
      rw[<-dM] at dj au;clear dM;have sS:=Af3 dj;have g0:=cC au st aC rfl;have g1:=bK au st aC 0 rfl;have g2:=bK au st aC 1 rfl;have HX:=Af3 hx;clear hx au st dj;have DD:i<=c:=by omega
      go_wp2;refine ua 9 (by kernel_rfl) (by kernel_rfl) ?_
      simp only[Agi,Agj,Agk,Agl];repeat still_step
      refine wpStill_nil ?_
      have HR:=Af3 ((bT.out.aF.take hi).still ST.out fun _ _ h=>h.still ST.out)
      have F7:=Af3 (sS.out.still ST.out fun _ _ h=>h)
      have Kd:Hid (Af1 prog 146 #[.slice (some ad) i c,.agg #[.string x.name,.int .i64 x.aH,.slice A2 n2 c2]] wr.drew fun e w'=>e=.returned (.int .i64 (gJ (b.aF.take i) x))/\Below wr.heap.size wr w'):=Af3 (by
       have:=ajX (w:=wr.drew) dH F7.out HR.out (by show B<=wr.heap.size;omega)
       exact this.mono fun e w' ⟨h1,h2⟩=>⟨h1,iU h2⟩)
      by_cases hz:gJ (b.aF.take i) x=0
      ·go_wp2
       go_at_call 146
       refine Kd.out.mono ?_
       rintro e w2 ⟨rfl,ak⟩;rw[hz];have BX:=Af3 (HH.out.2.trans (ak.mono hle));clear ak;go_wp2;go_roundw;case rel=>exact⟨i+1,by omega,by go_num,fun j y hj hy=>by
        rcases Agn.1 hj with h|rfl
        ·exact HH.out.1 j y h hy
        ·rw[HX.out] at hy;cases hy;exact hz,BX.out⟩
       case measure=>simp[Ag7];omega
      ·obtain⟨s,hs⟩:∃s,s=gJ (b.aF.take i) x:=⟨_,rfl⟩
       rw[<-hs] at hz Kd;have N9:(s !=0)=true:=by simpa using hz
       have HS:=Af3 hs;clear hs;go_wp2
       go_at_call 146
       refine Kd.out.mono ?_
       rintro e w2 ⟨rfl,ak⟩;have BX:=Af3 (BW.out.trans (ak.mono (by omega)))
       clear ak;go_wp2;go_ret;have fe:kC b.aF=s:=by
        unfold kC;rw[dC.out,if_neg h3,sf HX.out HH.out.1 (by rw[<-HS.out];exact hz),<-HS.out]
       exact⟨aX (by rw[Sp h1 h2 (by rw[fe];exact hz),fe]),BX.out⟩
     ·obtain rfl:i=m:=by omega
      have fe:kC b.aF=0:=by
       unfold kC;rw[dC.out,if_neg h3,se (fun j x hj=>HH.out.1 j x (by have:=(Agb.1 hj).1;have:=dC.out;omega) hj)]
      have B5:=Af3 fe;have Yn:Hid (Af1 prog 147 #[.agg #[.int .i64 b.ag,.slice PA np pc,.slice A i c,.slice TA nt tc]] wr fun e w'=>e=.returned (.int .i64 (kK b.pieces.length b.aJ))/\Below wr.heap.size wr w'):=Af3
       (aj0 (bT.out.pieces.still ST.out fun _ _ h=>h) ⟨_,_,_,rfl⟩ (bT.out.aJ.still ST.out fun _ _ h=>h.still ST.out) (by omega))
      clear fe st;go_wp2
      go_at_call 147
      refine Yn.out.mono ?_
      rintro e w2 ⟨rfl,ak⟩;have BX:=Af3 (BW.out.trans (ak.mono (by omega)))
      clear ak;go_wp2;go_ret;exact⟨aX (aad h1 h2 B5.out).symm,BX.out⟩
  ·obtain⟨s,hs⟩:∃s,s=iw b.pieces:=⟨_,rfl⟩
   have o4:=aab h1 h2;rw[<-hs] at h2 Kc o4;have N9:(s !=0)=true:=by simpa using h2
   have YB:=Af3 o4;clear hs o4;go_enter func69,Tryz.ntmps69;go_wp2_with (first
    | (go_at_call 62;refine(lg _ _ _ _).mono ?_;rintro e w' ⟨rfl,rfl⟩;try rw[h1]))
   go_at_call 145
   refine Kc.out.mono ?_
   rintro e w1 ⟨rfl,ae⟩;have dO:Hid (Below w.heap.size w w1):=Af3 (fS.out.trans (ae.mono (by omega)))
   clear ae;go_wp2;go_ret;exact⟨aX YB.out.symm,dO.out⟩
def rq(x:bR):Bool:=decide (100<x.name.size) ||decide (20<x.cM.length)
def zH(x:Piece):Bool:=decide (100<x.name.size)
def zI(x:Tape):Bool:=decide (20<x.pieces.length)
def uU(b:ao):Bool:=(decide (20<b.pieces.length) || (decide (20<b.aF.length) ||decide (20<b.aJ.length))) || (b.pieces.any zH|| (b.aF.any rq||b.aJ.any zI))
def xk(b:ao):Bool:= !uU b && decide (dF b=0)
theorem Zz{x:bR}{kv:Value}{w:Aa4}{B:Nat}(dH:x.name.size<=Af0)(hk:Row w B 2 Span.R kv x.cM):
 Af1 prog 51 #[.agg #[.string x.name,.int .i64 x.aH,kv]] w fun e w'=>e=.returned (.bool (rq x))/\Below w.heap.size w w':=by
 obtain⟨A,m,c,rfl,hl,dX,hc,-⟩:=hk.open_;unfold Af0 at hc dH;have HL:=Af3 hl;clear hl hk;by_cases h1:100<x.name.size
 ·go_enter func51,Tryz.ntmps51
  go_wp2;go_ret;exact⟨b9 (by unfold rq;simp[h1]),(Af6 _ _).alloc (Ac2 _) _⟩
 ·by_cases h2:20<m
  ·go_enter func51,Tryz.ntmps51
   go_wp2;go_ret;exact⟨b9 (by unfold rq;rw[HL.out];simp[h2];omega),(Af6 _ _).alloc (Ac2 _) _⟩
  ·go_enter func51,Tryz.ntmps51
   go_wp2;go_ret;exact⟨b9 (by unfold rq;rw[HL.out];simp[h1,h2];omega),(Af6 _ _).alloc (Ac2 _) _⟩
theorem Lp{α:Type}{p:α->Bool}{l:List α}{i:Nat}{x:α}(h:l[i]?=some x)(hp:p x=true):l.any p=true:=Aih.2 ⟨x,Agg h,hp⟩
theorem Lo{α:Type}{p:α->Bool}{l:List α}{n:Nat}(hn:l.length=n)(h:∀(j:Nat) (x:α),j<n->l[j]?=some x->p x=false):l.any p=false:=by
 rw[Aii];intro z hz;obtain⟨q,hq⟩:=Aij hz
 simpa using h q z (by have:=(Agb.1 hq).1;omega) hq
theorem adh{b:ao}{pv bv tv:Value}{w:Aa4}{B:Nat}(ai:bg w B b pv bv tv)(hB:B<=w.heap.size):
 Af1 prog 20 #[.agg #[.int .i64 b.ag,pv,bv,tv]] w fun e w'=>e=.returned (.bool (uU b))/\Below w.heap.size w w':=by
 obtain⟨PA,np,pc,rfl,kH,Hv,vw,U6⟩:=ai.pieces.open_;obtain⟨TA,nt,tc,rfl,xZ,htc,Ob,pg⟩:=ai.aJ.open_;obtain⟨A,m,c,rfl,hl,dX,hc,hr⟩:=ai.aF.open_;have KJ:=Af3 kH;have KI:=Af3 hl;have KP:=Af3 xZ;have HP:=Af3 U6;have HT:=Af3 pg;have H2:=Af3 hr;unfold Af0 at hc vw Ob;have kb:Bk (w.alloc (.cells #[.int .i64 b.ag,.slice PA np pc,.slice A m c,.slice TA nt tc] 26)) w.heap.size 26 #[.int .i64 b.ag,.slice PA np pc,.slice A m c,.slice TA nt tc]:=Bk.new _ _ _;have KB:=Af3 kb;have fS:Hid (Below w.heap.size w (w.alloc (.cells #[.int .i64 b.ag,.slice PA np pc,.slice A m c,.slice TA nt tc] 26))):=Af3 ((Af6 _ _).alloc (Ac2 _) _);have K2:Hid ((w.alloc (.cells #[.int .i64 b.ag,.slice PA np pc,.slice A m c,.slice TA nt tc] 26)).heap.size=w.heap.size+1):=Af3 (by simp)
 have Vr:∀q:Bool,q=true->(decide (20<b.pieces.length) || (decide (20<b.aF.length) ||decide (20<b.aJ.length)))=q->true=uU b:=fun q h1 h2=>by unfold uU;rw[h2,h1];rfl
 have K1:=Af3 Vr;clear hl hr ai kH xZ kb U6 pg Vr;by_cases h1:20<np
 ·go_enter func20,Tryz.ntmps20
  go_wp2;go_ret;exact⟨b9 (K1.out true rfl (by rw[KJ.out];simp[h1])),fS.out⟩
 by_cases h2:20<m
 ·go_enter func20,Tryz.ntmps20
  go_wp2;go_ret;exact⟨b9 (K1.out true rfl (by rw[KI.out];simp[h2])),fS.out⟩
 by_cases h3:20<nt
 ·go_enter func20,Tryz.ntmps20
  go_wp2;go_ret;exact⟨b9 (K1.out true rfl (by rw[KP.out];simp[h3])),fS.out⟩
 have bj:uU b=(b.pieces.any zH|| (b.aF.any rq||b.aJ.any zI)):=by
  unfold uU;rw[KJ.out,KI.out,KP.out];simp[h1,h2,h3]
 have sT:=Af3 bj;clear bj;go_enter func20,Tryz.ntmps20;go_wp2;go_loopw [2,3] (fun r k wr=>∃i:Nat,i<=np/\k=.int .i64 i/\(∀(j:Nat) (x:Piece),j<i->b.pieces[j]?=some x->zH x=false)/\Below (w.heap.size+1) (w.alloc (.cells #[.int .i64 b.ag,.slice PA np pc,.slice A m c,.slice TA nt tc] 26)) wr) (fun _ k _=>np - (Ag7 k).toNat)
 case atStart=>exact⟨0,Agm _,rfl,fun j _ hj=>by omega,by rw[<-K2.out];exact Af6 _ _⟩
 case round=>
  obtain⟨i,hi,rfl,bt,hb⟩:=hrel;have HH:=Af3 (Afx bt hb);have fN:Below w.heap.size w wr:=fS.out.trans (hb.mono (by omega))
  have BW:=Af3 fN;have kr:=KB.out.below hb (by omega)
  have aI:w.heap.size<wr.heap.size:=kr.lt;have r0:=kr.cell 0;have r1:=kr.cell 1;have r2:=kr.cell 2;have r3:=kr.cell 3;have st:Still B w wr:=Still.aK fN hB;clear bt hb fN kr;by_cases al:i<np
  ·obtain⟨ad,x,cs,rfl,aC,hx,⟨rfl,dH⟩,-,au⟩:=HP.out i al
   have g0:=cC au st aC rfl;have qc:(ad.add (i * 4)).block<wr.heap.size:=by rw[cq];omega
   have HX:=Af3 hx;unfold Af0 at dH;clear hx au st;by_cases hg:100<x.name.size
   ·go_wp2
    go_ret;exact⟨b9 (by rw[sT.out,Lp HX.out (by unfold zH;simpa using hg)];rfl),BW.out⟩
   ·go_wp2
    go_roundw;case rel=>exact⟨i+1,by omega,by go_num,fun j y hj hy=>by
     rcases Agn.1 hj with h|rfl
     ·exact HH.out.1 j y h hy
     ·rw[HX.out] at hy;cases hy;unfold zH;simpa using hg,HH.out.2⟩
    case measure=>simp[Ag7];omega
  ·obtain rfl:i=np:=by omega
   have qx:b.pieces.any zH=false:=Lo KJ.out HH.out.1;have kQ:=Af3 qx;have F3:=Af3 HH.out.2;clear qx st;go_wp2;clear r0 r1 r2 r3;go_loopw [2,4] (fun r k wr=>∃j:Nat,j<=m/\k=.int .i64 j/\(∀(q:Nat) (x:bR),q<j->b.aF[q]?=some x->rq x=false)/\Below (w.heap.size+1) (w.alloc (.cells #[.int .i64 b.ag,.slice PA i pc,.slice A m c,.slice TA nt tc] 26)) wr) (fun _ k _=>m - (Ag7 k).toNat)
   case atStart=>exact⟨0,Agm _,rfl,fun j _ hj=>by omega,F3.out⟩
   case round=>
    obtain⟨j,hj,rfl,bt,hb⟩:=hrel;have HG:=Af3 (Afx bt hb);have fN:Below w.heap.size w wr:=fS.out.trans (hb.mono (by omega))
    have BV:=Af3 fN;have kr:=KB.out.below hb (by omega)
    have oD:w.heap.size<wr.heap.size:=kr.lt;have hle:w.heap.size+1<=wr.heap.size:=oD;have r0:=kr.cell 0;have r1:=kr.cell 1;have r2:=kr.cell 2;have r3:=kr.cell 3;have st:Still B w wr:=Still.aK fN hB;have ST:=Af3 st;clear bt hb fN kr;by_cases al:j<m
    ·obtain⟨ad,x,cs,rfl,aC,hx,⟨kv,rfl,dH,dj⟩,-,au⟩:=H2.out j al
     obtain⟨A2,c2,rfl,-⟩:=id dj;obtain⟨n2,dM⟩:∃n2,n2=x.cM.length:=⟨_,rfl⟩
     rw[<-dM] at dj au;clear dM;have QO:Hid (Af1 prog 51 #[.agg #[.string x.name,.int .i64 x.aH,.slice A2 n2 c2]] wr fun e w'=>e=.returned (.bool (rq x))/\Below wr.heap.size wr w'):=Af3 (Zz dH (dj.still st fun _ _ h=>h))
     have g0:=cC au st aC rfl;have g1:=bK au st aC 0 rfl;have g2:=bK au st aC 1 rfl;have qc:(ad.add (j * 3)).block<wr.heap.size:=by rw[cq];omega
     have HX:=Af3 hx;clear hx au st dj;cases hg:rq x with
     |true=>
      go_wp2
      go_at_call 51
      refine QO.out.mono ?_
      rintro e w2 ⟨rfl,ak⟩;rw[hg];have BX:=Af3 (BV.out.trans (ak.mono (by omega)))
      clear ak;go_wp2;go_ret;exact⟨b9 (by rw[sT.out,Lp HX.out hg];simp),BX.out⟩
     |false=>
      go_wp2
      go_at_call 51
      refine QO.out.mono ?_
      rintro e w2 ⟨rfl,ak⟩;rw[hg];have BX:=Af3 (HG.out.2.trans (ak.mono hle));clear ak;go_wp2;go_roundw;case rel=>exact⟨j+1,by omega,by go_num,fun q y hq hy=>by
       rcases Agn.1 hq with h|rfl
       ·exact HG.out.1 q y h hy
       ·rw[HX.out] at hy;cases hy;exact hg,BX.out⟩
      case measure=>simp[Ag7];omega
    ·obtain rfl:j=m:=by omega
     have dM:b.aF.any rq=false:=Lo KI.out HG.out.1;have YO:=Af3 dM;have Yz:=Af3 HG.out.2;clear dM st;go_wp2;clear r0 r1 r2 r3;go_loopw [2,5] (fun r k wr=>∃q:Nat,q<=nt/\k=.int .i64 q/\(∀(z:Nat) (x:Tape),z<q->b.aJ[z]?=some x->zI x=false)/\Below (w.heap.size+1) (w.alloc (.cells #[.int .i64 b.ag,.slice PA i pc,.slice A j c,.slice TA nt tc] 26)) wr) (fun _ k _=>nt - (Ag7 k).toNat)
     case atStart=>exact⟨0,Agm _,rfl,fun j _ hj=>by omega,Yz.out⟩
     case round=>
      obtain⟨q,hq,rfl,bt,hb⟩:=hrel;have HK:=Af3 (Afx bt hb);have fN:Below w.heap.size w wr:=fS.out.trans (hb.mono (by omega))
      have BZ:=Af3 fN;have kr:=KB.out.below hb (by omega)
      have D2:w.heap.size<wr.heap.size:=kr.lt;have r0:=kr.cell 0;have r1:=kr.cell 1;have r2:=kr.cell 2;have r3:=kr.cell 3;have st:Still B w wr:=Still.aK fN hB;clear bt hb fN kr;by_cases al:q<nt
      ·obtain⟨ad,x,cs,rfl,aC,hx,⟨kv,rfl,dj⟩,-,au⟩:=HT.out q al
       obtain⟨KA,kn,kc,rfl,da,Uu,DJ,-⟩:=dj.open_;unfold Af0 at DJ;have KL:=Af3 da;have g0:=cC au st aC rfl;have qc:(ad.add (q * 3)).block<wr.heap.size:=by rw[cq];omega
       have HX:=Af3 hx;clear hx au st dj da;by_cases hg:20<kn
       ·go_wp2
        go_ret;exact⟨b9 (by rw[sT.out,Lp HX.out (by unfold zI;rw[KL.out];simpa using hg)];simp),BZ.out⟩
       ·go_wp2
        go_roundw;case rel=>exact⟨q+1,by omega,by go_num,fun z y hz hy=>by
             rcases Agn.1 hz with h|rfl
             ·exact HK.out.1 z y h hy
             ·rw[HX.out] at hy;cases hy;unfold zI;rw[KL.out];simpa using hg,HK.out.2⟩
        case measure=>simp[Ag7];omega
      ·obtain rfl:q=nt:=by omega
       have lQ:b.aJ.any zI=false:=Lo KP.out HK.out.1;have YP:=Af3 lQ;clear lQ st;go_wp2;go_ret;exact⟨b9 (by rw[sT.out,kQ.out,YO.out,YP.out];rfl),BZ.out⟩
theorem fit{b:ao}{pv bv tv:Value}{w:Aa4}{B:Nat}(ai:bg w B b pv bv tv)(hB:B<=w.heap.size):
 Af1 prog 40 #[.agg #[.int .i64 b.ag,pv,bv,tv]] w fun e w'=>e=.returned (.bool (xk b))/\Below w.heap.size w w':=by
 have bT:=Af3 ai;obtain⟨PA,np,pc,rfl,-⟩:=ai.pieces.open_;obtain⟨TA,nt,tc,rfl,-⟩:=ai.aJ.open_;obtain⟨A,m,c,rfl,-⟩:=ai.aF.open_;have kb:Bk (w.alloc (.cells #[.int .i64 b.ag,.slice PA np pc,.slice A m c,.slice TA nt tc] 26)) w.heap.size 26 #[.int .i64 b.ag,.slice PA np pc,.slice A m c,.slice TA nt tc]:=Bk.new _ _ _;have KB:=Af3 kb;have fS:Hid (Below w.heap.size w (w.alloc (.cells #[.int .i64 b.ag,.slice PA np pc,.slice A m c,.slice TA nt tc] 26))):=Af3 ((Af6 _ _).alloc (Ac2 _) _);have mG:(w.alloc (.cells #[.int .i64 b.ag,.slice PA np pc,.slice A m c,.slice TA nt tc] 26)).heap.size=w.heap.size+1:=by simp
 have QH:Hid (Af1 prog 20 #[.agg #[.int .i64 b.ag,.slice PA np pc,.slice A m c,.slice TA nt tc]] (w.alloc (.cells #[.int .i64 b.ag,.slice PA np pc,.slice A m c,.slice TA nt tc] 26)) fun e w'=>e=.returned (.bool (uU b))/\Below (w.heap.size+1) (w.alloc (.cells #[.int .i64 b.ag,.slice PA np pc,.slice A m c,.slice TA nt tc] 26)) w'):=Af3 (by
  have:=adh (bT.out.still (Still.aK fS.out hB)) (by rw[mG];omega)
  rw[mG] at this;exact this)
 clear ai kb;cases hg:uU b with
 |true=>
  go_enter func40,Tryz.ntmps40;go_wp2
  go_at_call 20
  refine QH.out.mono ?_
  rintro e w1 ⟨rfl,ae⟩;rw[hg];have BX:=Af3 (fS.out.trans (ae.mono (by omega)))
  clear ae;go_wp2;go_ret;exact⟨b9 (by unfold xk;rw[hg];rfl),BX.out⟩
 |false=>
  go_enter func40,Tryz.ntmps40;go_wp2
  go_at_call 20
  refine QH.out.mono ?_
  rintro e w1 ⟨rfl,ae⟩;rw[hg];have k1:=KB.out.below ae (by omega)
  have r0:=k1.cell 0;have r1:=k1.cell 1;have r2:=k1.cell 2;have r3:=k1.cell 3;have aN:w.heap.size<w1.heap.size:=k1.lt;have bx:Below w.heap.size w w1:=fS.out.trans (ae.mono (by omega))
  have Yo:Hid (Af1 prog 69 #[.agg #[.int .i64 b.ag,.slice PA np pc,.slice A m c,.slice TA nt tc]] w1 fun e w'=>e=.returned (.int .i64 (dF b))/\Below w1.heap.size w1 w'):=Af3 (ajY (bT.out.still (Still.aK bx hB)) (by omega))
  have BX:=Af3 bx;clear ae bx k1;go_wp2
  go_at_call 69
  refine Yo.out.mono ?_
  rintro e w2 ⟨rfl,ak⟩;have BY:=Af3 (BX.out.trans (ak.mono (by omega)))
  clear ak;go_wp2;go_ret;exact⟨b9 (by unfold xk;rw[hg];simp;rfl),BY.out⟩
theorem PG{b:ao}{n:an}{out:Nat->Bool}:∀(f:Nat) (cs full:List Cut),search b n out f cs=some full->full.length=cs.length+f/\∀j,j<=f->search b n out (f - j) (full.take (cs.length+j))=some full
 |0,cs,full,h=>by
  have h':=h;unfold search at h;cases h
  refine⟨rfl,fun j hj=>?_⟩
  obtain rfl:j=0:=by omega
  simpa using h'
 |f+1,cs,full,h=>by
  have h':=h;unfold search at h;obtain⟨k,hk,h⟩:=Ah3 h
  unfold pC at h;split at h
  ·cases h
  ·obtain⟨fr,b7,h⟩:=Ah3 h
   unfold kj at h;split at h
   ·obtain⟨h1,h2⟩:=PG f (cs++ [⟨k,fr⟩]) full h
    have hl:full.length=cs.length+(f+1):=by rw[h1];simp;omega
    have h0:=h2 0 (Agm _);refine⟨hl,fun j hj=>?_⟩
    cases j with
    |zero=>
     have e:full.take (cs.length+0)=cs:=by
      obtain⟨g1,g2⟩:=PH f (cs++ [⟨k,fr⟩]) full h;rw[<-g2];simp
     rw[e];exact h'
    |succ j=>
     have:=h2 j (by omega)
     simp only[Ahq,List.length_singleton] at this;rw[show f+1 - (j+1)=f - j by omega,show cs.length+(j+1)=cs.length+1+j by omega]
     exact this
   ·cases h
where
 PH {b:ao} {n:an} {out:Nat->Bool}:∀(f:Nat) (cs full:List Cut),search b n out f cs=some full->∃r,cs++r=full
  |0,cs,full,h=>by unfold search at h;cases h;exact⟨[],by simp⟩
  |f+1,cs,full,h=>by
   unfold search at h;obtain⟨k,hk,h⟩:=Ah3 h
   unfold pC at h;split at h
   ·cases h
   ·obtain⟨fr,b7,h⟩:=Ah3 h
    unfold kj at h;split at h
    ·obtain⟨r,hr⟩:=PH f _ full h
     exact⟨⟨k,fr⟩::r,by rw[<-hr];simp⟩
    ·cases h
theorem Xc{b:ao}{n:an}{out:Nat->Bool}{f:Nat}{cs full:List Cut}(h:search b n out (f+1) cs=some full):
 ∃k fr:Nat,k<b.aF.length/\out k=false/\fr<mJ b k/\tT b n cs ⟨k,fr⟩=true/\full[cs.length]?=some ⟨k,fr⟩/\search b n out f (cs++ [⟨k,fr⟩])=some full/\
  ∀g,g<fr->kj b n (search b n out f) cs k g=none:=by
 unfold search at h;obtain⟨l1,k,l2,e1,hk,-⟩:=Aik.1 h
 have hkm:k∈Af9 b.aF.length:=by rw[e1];simp
 have xR:k<b.aF.length:=by simpa using hkm
 unfold pC at hk;split at hk
 ·cases hk
 ·rename_i ho
  obtain⟨m1,fr,m2,e2,hf,bj⟩:=Aik.1 hk
  have hfm:fr∈Af9 (mJ b k):=by rw[e2];simp
  have ql:fr<mJ b k:=by simpa using hfm
  have MR:∀g,g<fr->kj b n (search b n out f) cs k g=none:=by
   intro g hg;refine bj g ?_
   have e3:m1=Af9 fr:=by
    have h1:=congrArg (List.take m1.length) e2;rw[List.take_range,List.take_left] at h1;have h2:m1.length<=mJ b k:=by have:=congrArg List.length e2;simp at this;omega
    rw[Nat.min_eq_left h2] at h1;have h3:=congrArg (fun l=>l[m1.length]?) e2
    simp only[Ail (Ac2 _),Nat.sub_self,List.getElem?_cons_zero] at h3
    have h4:m1.length<mJ b k:=by have:=congrArg List.length e2;simp at this;omega
    rw[List.getElem?_range h4] at h3
    cases h3;exact h1.symm
   rw[e3];simpa using hg
  unfold kj at hf;split at hf
  ·rename_i dh
   obtain⟨r,hr⟩:=PG.PH f _ full hf;refine⟨k,fr,xR,by simpa using ho,ql,dh,?_,hf,MR⟩
   rw[<-hr];simp
  ·cases hf
theorem Xb{b:ao}{n:an}{out:Nat->Bool}{l:List Cut}(hk:∀(j:Nat) (c:Cut),l[j]?=some c->∃k fr:Nat,c=⟨k,fr⟩/\k<b.aF.length/\out k=false/\fr<mJ b k/\tT b n (l.take j) c=true):
 ∀(f j:Nat),l.length=j+f->search b n out f (l.take j)≠none
 |0,j,_=>by unfold search;simp
 |f+1,j,hl=>by
  have hj:j<l.length:=by omega
  obtain⟨k,fr,hc,h1,h2,h3,h4⟩:=hk j l[j] (Aga hj)
  have ih:=Xb hk f (j+1) (by omega)
  intro bj;unfold search at bj;have bj:=C6.1 bj k h1;unfold pC at bj;rw[h2] at bj;simp only[Bool.false_eq_true,if_false] at bj;have bj:=C6.1 bj fr h3;unfold kj at bj;rw[<-hc,h4] at bj;simp only[if_true] at bj;rw[Aim,Aga hj] at ih
  exact ih (by simpa using bj)
theorem RZ{b:ao}(hv:Valid b):∀(f i:Nat) (n:an),i+f=b.pieces.length->(∀k,k<i->1<=n.at k)->∀L∈eu b f i n,∀k,k<b.pieces.length->1<=L.at k
 |0,i,n,hi,hn,L,hL=>by
  unfold eu at hL;split at hL
  ·simp at hL;subst hL;intro k hk;exact hn k (by omega)
  ·cases hL
 |f+1,i,n,hi,hn,L,hL=>by
  unfold eu at hL;split at hL
  ·rename_i p hp
   obtain⟨k,hk,hL⟩:=List.mem_flatMap.1 hL;unfold mR at hk;obtain⟨j,hj,rfl⟩:=Ain.1 hk;have nI:=hv.piece p (Agg hp);have:=nI.lo;refine RZ hv f (i+1) _ (by omega) (fun q hq=>?_) L hL
   have fZ:i<3:=by have:=hv.np.2;omega
   by_cases e:q=i
   ·subst e
    have:(n.set q (p.len.lo+(j:Int))).at q=p.len.lo+j:=by
     unfold an.set an.at;have:q=0\/q=1\/q=2:=by omega
     rcases this with rfl|rfl|rfl<;>simp
    rw[this];omega
   ·have mD:=hn q (by omega)
    have:(n.set i (p.len.lo+(j:Int))).at q=n.at q:=by
     unfold an.set an.at;have Uo:i=0\/i=1\/i=2:=by omega
     have afr:q=0\/q=1\/q=2:=by omega
     rcases Uo with rfl|rfl|rfl<;>rcases afr with rfl|rfl|rfl<;>simp at e |-
    rw[this];exact mD
  ·cases hL
theorem wU{b:ao}(hv:Valid b){L:an}(hL:L∈aD b){k:Nat}(hk:k<b.pieces.length):1<=L.at k:=RZ hv _ 0 _ (by omega) (fun k hk=>absurd hk (Nat.not_lt_zero _)) L hL k hk
theorem adi{k:Nat}:∀(n:Nat) (l:List an),l.length=n->(∀L∈l,0<=L.at k)->l≠ []->∃L∈l,L.at k=(cz l).at k:=by
 intro n;induction n with
 |zero=>intro l hl _ h;exact absurd (Aio hl) h
 |succ n En=>
  intro l' dC h0 aw;obtain⟨l,x,rfl⟩:∃l x,l'=l++ [x]:=⟨l'.dropLast,l'.getLast aw,(Aip aw).symm⟩
  have ih:=En l (by simpa using dC)
  rw[TF];have hx:=h0 x (by simp)
  by_cases hl:l=[]
  ·subst hl
   refine⟨x,by simp,?_⟩
   unfold cz mU an.at;unfold an.at at hx;simp only[List.foldl_nil];split
   ·rename_i h;simp only[h,if_true] at hx;simp;omega
   ·split
    ·rename_i h h';simp only[h,h',if_true,if_false] at hx;simp;omega
    ·rename_i h h';simp only[h,h',if_false] at hx;simp;omega
  ·obtain⟨L,hL,e⟩:=ih (fun L hL=>h0 L (by simp[hL])) hl
   have hu:(mU (cz l) x 3).at k=if(cz l).at k<x.at k then x.at k else(cz l).at k:=by
    unfold mU an.at;simp only[show 0<3 by omega,show 1<3 by omega,show 2<3 by omega,if_true]
    split
    ·rfl
    ·split<;>rfl
   rw[hu];split
   ·exact⟨x,by simp,rfl⟩
   ·exact⟨L,by simp[hL],e⟩
theorem TD{k:Nat}(l:List an)(h0:∀L∈l,0<=L.at k)(aw:l≠ []):∃L∈l,L.at k=(cz l).at k:=adi _ l rfl h0 aw
theorem amj{n m:Int}(h:za n m=1):n=m:=by
 unfold za at h;split at h
 ·cases h
 ·split at h
  ·assumption
  ·cases h
theorem aa4{p:an->Bool}{l:List an}(h:iI p l=l.length):∀L∈l,p L=true:=by
 unfold iI at h;have h:(l.filter p).length=l.length:=by omega
 intro L hL;exact List.length_filter_eq_length_iff.1 h L hL
theorem Zk{s:Int}{c d:Cut}{n m n' m':Int}(hs:0<=s)(hn:1<=n')(hm:1<=m')(h1:nv s c d n m'=true)(h2:nv s c d n' m=true)(jX:1<=n)(DN:1<=m):nv s c d n m=true:=by
 unfold nv at *;cases hb:(c.bp==d.bp) with
 |false=>simp
 |true=>
  simp only[hb,Bool.not_true,Bool.false_or,Aic,decide_eq_true_eq] at *;omega
theorem abe{b:ao}(hv:Valid b)(aw:aD b≠ []){l:List Cut}(hl:l.length=b.pieces.length)(h:∀L∈aD b,fp b L l=true):fp b (cz (aD b)) l=true:=by
 have hg:∀k,k<b.pieces.length->∃L∈aD b,L.at k=(cz (aD b)).at k:=fun k hk=>TD _ (fun L hL=>by have:=wU hv hL hk;omega) aw
 refine oi.2 fun i hi=>?_
 unfold td;rw[Aga hi]
 simp only[Aax];obtain⟨L,hL,e⟩:=hg i (by omega)
 have Dd:=oi.1 (h L hL) i hi;unfold td at Dd;rw[Aga hi] at Dd
 simp only[Aax] at Dd;refine⟨by rw[<-e];exact Dd.1,oi.2 fun k hk=>?_⟩
 have dg:=oi.1 Dd.2 k hk;obtain⟨L2,nB,e2⟩:=hg k (by omega)
 have G1:=oi.1 (h L2 nB) i hi;unfold td at G1;rw[Aga hi] at G1
 simp only[Aax] at G1;have cP:=oi.1 G1.2 k hk;have xR:k<l.length:=by omega
 unfold rm at dg cP |-
 rw[Aga xR] at dg cP |-
 simp only at dg cP |-
 rw[e] at dg;rw[e2] at cP;have a1:=wU hv hL (k:=i) (by omega)
 have a2:=wU hv hL (k:=k) (by omega)
 have a3:=wU hv nB (k:=i) (by omega)
 have a4:=wU hv nB (k:=k) (by omega)
 exact Zk hv.ag.1 a3 a2 dg cP (by omega) (by omega)
theorem SP{b:ao}{n:an}{l:List Cut}(h:fp b n l=true){j:Nat}{c:Cut}(hj:l[j]?=some c):tT b n (l.take j) c=true:=by
 have hl:=(Agb.1 hj).1
 have h1:=oi.1 h j hl;unfold td at h1;rw[hj] at h1;simp only[Aax] at h1;have hlen:(l.take j).length=j:=by rw[Aiq];omega
 unfold tT;rw[hlen,Aax];refine⟨h1.1,oi.2 fun k hk=>?_⟩
 have:=oi.1 h1.2 k hk;unfold rm at this |-
 rw[List.getElem?_take_of_lt hk]
 exact this
theorem Lv{b:ao}{n:an}{mI:List Cut->Int}:∀(M:Nat) (c:List Cut) (m:Int),iG b n mI M=some (c,m)->∃k,search b n (jf k) b.pieces.length []=some c
 |0,c,m,h=>by simp[iG] at h
 |M+1,c,m,h=>by
  rw[kS] at h;unfold sY at h;split at h
  ·exact Lv M c m h
  ·rename_i l hl
   unfold nw at h;split at h
   ·simp at h;rw[<-h.1];exact⟨M,hl⟩
   ·split at h
    ·simp at h;rw[<-h.1];exact⟨M,hl⟩
    ·rename_i c' m' heq _
     simp at h;rw[<-h.1];exact Lv M c' m' heq
theorem Lw{b:ao}{n:an}{mI:List Cut->Int}:∀(M:Nat),(iG b n mI M).isSome=(Af9 M).any (fun k=>(search b n (jf k) b.pieces.length []).isSome)
 |0=>rfl
 |M+1=>by
  rw[kS,Air,List.any_append,<-Lw (mI:=mI) M];unfold sY;cases h:search b n (jf M) b.pieces.length [] with
  |none=>simp[h]
  |some l=>
   simp only[List.any_cons,h,Option.isSome_some,List.any_nil,Bool.or_true,Bool.or_false];unfold nw;split
   ·rfl
   ·split<;>rfl
theorem RM(b:ao)(m1 m2:List Cut->Int):(fA b m1).isSome=(fA b m2).isSome:=by
 unfold fA;split
 ·rw[Lw,Lw]
 ·rfl
theorem Vo{b:ao}{mI:List Cut->Int}{x:List Cut}{m:Int}(h:fA b mI=some (x,m)){i:Nat}{c:Cut}(hi:x[i]?=some c){g:Int}(h0:0<=g)(hg:g<c.from_):
 cj b (ey b (x.set i ⟨c.bp,g⟩))=0/\zP b (x.set i ⟨c.bp,g⟩)≠1:=by
 unfold fA at h;split at h
 ·rename_i ab
  have ic:dF b=0:=by
   unfold cj at ab;split at ab
   ·exact ab
   ·rename_i hh;simpa using hh
  have bt:(aD b).length≠0:=by
   intro e;unfold cj at ab;rw[if_neg (by simp[ic]),if_neg (by simp),if_pos e] at ab
   cases ab
  have hv:=iy ic;have o5:=Cx hv _ x m h;have qp:i<x.length:=(Agb.1 hi).1
  have hcut:ey b (x.set i ⟨c.bp,g⟩)=0:=by
   unfold ey;rw[if_neg (by rw[Ais];simpa using o5.1)]
   have key:∀(l dw:List Cut),(∀q∈l,oO b q)->scan (fun _ c=>fO b.aF.length c) dw l=0:=by
    intro l;induction l with
    |nil=>intro dw _;rfl
    |cons a l ih=>
     intro dw hq;obtain⟨⟨k,dg,cP⟩,fh⟩:=hq a (by simp)
     have ha:fO b.aF.length a=0:=by
      unfold fO;rw[if_pos (by unfold bX;simp;omega),if_pos (by unfold bX;simp;omega)]
     unfold scan;rw[if_neg (by simp[ha])]
     exact ih _ fun q mD=>hq q (by simp[mD])
   refine key _ _ fun q hq=>?_
   rcases List.mem_or_eq_of_mem_set hq with hq|rfl
   ·exact o5.2 q hq
   ·have:=o5.2 c (Agg hi)
    exact⟨this.bp,h0,by have:=this.from_.2;show g<=40;omega⟩
  refine⟨by unfold cj;rw[if_neg (by simp[ic]),if_neg (by simp[hcut]),if_neg bt],fun hd=>?_⟩
  unfold zP at hd;rw[if_neg (by unfold cj;rw[if_neg (by simp[ic]),if_neg (by simp[hcut]),if_neg bt];simp)] at hd
  have eA:=aa4 (amj hd);have TZ:=abe hv (fun e=>bt (by rw[e];rfl)) (by rw[Ais];exact o5.1) eA
  obtain⟨M,hM⟩:=Lv _ x m h;obtain⟨Ia,rT⟩:=PG _ _ _ hM;simp only[List.length_nil,Nat.zero_add] at Ia rT;have ou:=rT i (by omega)
  rw[show b.pieces.length - i=(b.pieces.length - i - 1)+1 by omega] at ou
  obtain⟨k,fr,dg,cP,fh,xQ,DF,jV,hk7⟩:=Xc ou;have qG:(x.take i).length=i:=by rw[Aiq];omega
  rw[qG,hi] at DF;cases DF;simp only at hg;have bj:=hk7 g.toNat (by omega)
  have qm:((g.toNat:Nat):Int)=g:=by omega
  unfold kj at bj;have lT:(x.set i ⟨(k:Int),g⟩).take i=x.take i:=by rw[List.take_set,List.set_eq_of_length_le (by rw[qG];omega)]
  have jy:(x.set i ⟨(k:Int),g⟩)[i]?=some ⟨k,g⟩:=by rw[List.getElem?_set_self qp]
  have dh:=SP TZ jy;rw[lT] at dh;rw[qm,dh] at bj;simp only[if_true] at bj;have gN:∀q,q<b.pieces.length->1<=(cz (aD b)).at q:=fun q hq=>by
   obtain⟨L,hL,e⟩:=TD (k:=q) (aD b) (fun L hL=>by have:=wU hv hL hq;omega) (fun e=>bt (by rw[e];rfl))
   rw[<-e];exact wU hv hL hq
  refine Xb (l:=x.set i ⟨(k:Int),g⟩) (n:=cz (aD b)) (out:=jf M) (b:=b) (fun j c hj=>?_) (b.pieces.length - i - 1) (i+1) (by rw[Ais];omega) (by rw[Aim,jy,lT];exact bj)
  have T1:=SP TZ hj;have nE:j<x.length:=by have:=(Agb.1 hj).1;rwa[Ais] at this
  by_cases e:j=i
  ·subst e
   rw[jy] at hj;cases hj
   refine⟨k,g.toNat,by rw[qm],dg,cP,by omega,T1⟩
  ·rw[List.getElem?_set_ne (fun h=>e h.symm)] at hj
   have SR:=rT j (by omega)
   rw[show b.pieces.length - j=(b.pieces.length - j - 1)+1 by omega] at SR
   obtain⟨k',aV,q1,q2,q3,q4,q5,q6,q7⟩:=Xc SR;have afo:(x.take j).length=j:=by rw[Aiq];omega
   rw[afo,hj] at q5;cases q5;exact⟨k',aV,rfl,q1,q2,q3,T1⟩
 ·cases h
theorem SI{b:ao}:∀(l dw:List Cut),(∀q∈l,oO b q)->scan (fun _ c=>fO b.aF.length c) dw l=0
 | [],dw,_=>rfl
 |a::l,dw,hq=>by
  obtain⟨⟨k,dg,cP⟩,fh⟩:=hq a (by simp)
  have ha:fO b.aF.length a=0:=by
   unfold fO;rw[if_pos (by unfold bX;simp;omega),if_pos (by unfold bX;simp;omega)]
  unfold scan;rw[if_neg (by simp[ha])]
  exact SI l _ fun q mD=>hq q (by simp[mD])
theorem RP{b:ao}{mI:List Cut->Int}{x:List Cut}{m:Int}(h:fA b mI=some (x,m)):wH b x/\ey b x=0/\Valid b:=by
 unfold fA at h;split at h
 ·rename_i ab
  have ic:dF b=0:=by
   unfold cj at ab;split at ab
   ·exact ab
   ·rename_i hh;simpa using hh
  have hv:=iy ic;have o5:=Cx hv _ x m h;refine⟨o5,?_,hv⟩
  unfold ey;rw[if_neg (by simpa using o5.1)]
  exact SI _ _ o5.2
 ·cases h
theorem L8{α:Type}{xs ys:List α}(hl:xs.length=ys.length)(h:∀(j:Nat) (x:α),j<xs.length->xs[j]?=some x->ys[j]?=some x):xs=ys:=by
 apply List.ext_getElem?;intro j;by_cases hj:j<xs.length
 ·rw[Aga hj,h j _ hj (Aga hj)]
 ·rw[Ait (by omega),Ait (by omega)]
theorem GK{xs ys:List Int}{av bv:Value}{w:Aa4}{B:Nat}(ha:Row w B 1 cH av xs)(hb:Row w B 1 cH bv ys)(hB:B<=w.heap.size):
 Af1 prog 30 #[av,bv] w fun e w'=>e=.returned (.bool (decide (xs=ys)))/\Below w.heap.size w w':=by
 obtain⟨A1,n,c1,rfl,e1,h1,ez,r1⟩:=ha.open_;obtain⟨A2,m,c2,rfl,e2,h2,dW,r2⟩:=hb.open_;unfold Af0 at ez dW;have E:=Af3 (Afx e1 e2);have R1:=Af3 r1;have R2:=Af3 r2;clear ha hb e1 e2 r1 r2;by_cases fC:n=m
 ·subst fC
  have hq:((n:Int) !=(n:Int))=false:=by simp
  go_enter func30,Tryz.ntmps30;go_wp2;go_loopw [4,5] (fun r k wr=>∃i:Nat,i<=n/\k=.int .i64 i/\Hid (∀(j:Nat) (x:Int),j<i->xs[j]?=some x->ys[j]?=some x)/\Hid (Below w.heap.size w wr)) (fun _ k _=>n - (Ag7 k).toNat)
  case atStart=>exact⟨0,Agm _,rfl,Af3 fun j _ hj=>by omega,Af3 (Af6 _ _)⟩
  case round=>
   obtain⟨i,hi,rfl,bt,cF⟩:=hrel;have st:Still B w wr:=Still.aK cF.out hB;have aI:=cF.out.size;by_cases al:i<n
   ·obtain⟨ad,x,cs,rfl,aC,hx,rfl,-,au⟩:=R1.out i al
    obtain⟨cI,y,jQ,rfl,fV,hy,rfl,-,ie⟩:=R2.out i al;have h0:=cC au st aC rfl;have Mp:=cC ie st fV rfl;rw[Agp] at h0 Mp;have q0:(ad.add i).block<wr.heap.size:=by rw[cq];omega
    have WB:(cI.add i).block<wr.heap.size:=by rw[cq];omega
    have HX:=Af3 (Afx hx hy);clear hx hy au ie;by_cases hxy:x=y
    ·have aw:(x !=y)=false:=by simp[hxy]
     have pQ:=Af3 hxy;clear hxy;go_wp2;go_quiet (fail);go_wp2;go_roundw;case rel=>exact⟨i+1,by omega,by go_num,Af3 fun j z hj hz=>by
      rcases Agn.1 hj with h|rfl
      ·exact bt.out j z h hz
      ·rw[HX.out.1] at hz;cases hz;rw[HX.out.2,pQ.out],Af3 (jq cF.out _)⟩
     case measure=>simp[Ag7];omega
    ·have aw:(x !=y)=true:=by simpa using hxy
     have pQ:=Af3 hxy;clear hxy;go_wp2;go_quiet (fail);go_wp2;go_ret;refine⟨b9 ?_,jq cF.out _⟩
     simp only[Aid,decide_eq_false_iff_not];rintro rfl;have:=HX.out.1.symm.trans HX.out.2;exact pQ.out (Ac5 this)
   ·obtain rfl:i=n:=by omega
    go_wp2;go_ret;refine⟨b9 ?_,cF.out⟩
    have:=L8 (xs:=xs) (ys:=ys) (by rw[E.out.1,E.out.2]) fun j x hj hx=>bt.out j x (by rw[E.out.1] at hj;exact hj) hx
    simp[this]
 ·have hq:((n:Int) !=(m:Int))=true:=by simp;omega
  have HQ:=Af3 fC;clear fC;go_enter func30,Tryz.ntmps30;go_wp2;go_ret;refine⟨b9 ?_,Af6 _ _⟩
  simp only[Aid,decide_eq_false_iff_not];rintro rfl;exact HQ.out (E.out.1.symm.trans E.out.2)
theorem alX:Tryz.prog.stoodInHeld 37=false:=by decide+kernel
theorem alY:Tryz.prog.stoodInHeld 56=false:=by decide+kernel
theorem adl:Tryz.prog.eqGuardType Tryz.prog.depth 37=false:=by decide+kernel
theorem adm:Tryz.prog.eqGuardType Tryz.prog.depth 56=false:=by decide+kernel
theorem abP(w:Aa4)(a b c d:Int):(Op.equalIn 10000 37 (.agg #[.int .i64 a,.int .i64 b]) (.agg #[.int .i64 c,.int .i64 d])).run prog w=.ok (a==c && b==d) w:=by
 have hu:=U Tryz.underlying37;rw[run_equalIn_struct w 9999 37 _ _ (by simp[Aie,hu]) (by rw[XK];exact alX)]
 have h3:=U Tryz.underlying3;have hf:(prog.fieldsOf 37).toList=[{name:= "Low",type:=3,offset:=0,embedded:=false,tag:= "",pkgPath:= "",byteOffset:=0},{name:= "High",type:=3,offset:=1,embedded:=false,tag:= "",pkgPath:= "",byteOffset:=8}]:=by simp[Aie,hu]
 rw[hf];cases h1:(a==c)<;>cases h2:(b==d)<;>simp[Op.eqFields,go_sem,h1,h2,run_equalIn_int,h3]
theorem abQ(w:Aa4)(a b c d:Int):(Op.equalIn 10000 56 (.agg #[.int .i64 a,.int .i64 b]) (.agg #[.int .i64 c,.int .i64 d])).run prog w=.ok (a==c && b==d) w:=by
 have hu:=U Tryz.underlying56;rw[run_equalIn_struct w 9999 56 _ _ (by simp[Aie,hu]) (by rw[XK];exact alY)]
 have h3:=U Tryz.underlying3;have hf:(prog.fieldsOf 56).toList=[{name:= "Board",type:=3,offset:=0,embedded:=false,tag:= "",pkgPath:= "",byteOffset:=0},{name:= "From",type:=3,offset:=1,embedded:=false,tag:= "",pkgPath:= "",byteOffset:=8}]:=by simp[Aie,hu]
 rw[hf];cases h1:(a==c)<;>cases h2:(b==d)<;>simp[Op.eqFields,go_sem,h1,h2,run_equalIn_int,h3]
theorem Wd(w:Aa4)(a b c d:Int):(binOp .neq 37 (.agg #[.int .i64 a,.int .i64 b]) (.agg #[.int .i64 c,.int .i64 d])).run prog w=.ok (.bool (!(a==c && b==d))) w:=by
 rw[run_neq_struct,abP];rfl
theorem We(w:Aa4)(a b c d:Int):(binOp .neq 56 (.agg #[.int .i64 a,.int .i64 b]) (.agg #[.int .i64 c,.int .i64 d])).run prog w=.ok (.bool (!(a==c && b==d))) w:=by
 rw[run_neq_struct,abQ];rfl
theorem Tx(w:Aa4)(op:BinOp)(x y:Operand)(xs ys:Array Value):(eqGuard op 37 x y (.agg xs) (.agg ys)).run prog w=.ok () w:=run_eqGuard_agg w op 37 x y xs ys (by simpa using adl)
theorem Ty(w:Aa4)(op:BinOp)(x y:Operand)(xs ys:Array Value):(eqGuard op 56 x y (.agg xs) (.agg ys)).run prog w=.ok () w:=run_eqGuard_agg w op 56 x y xs ys (by simpa using adm)
theorem abR{xs ys:List Span}{av bv:Value}{w:Aa4}{B:Nat}(ha:Row w B 2 Span.R av xs)(hb:Row w B 2 Span.R bv ys)(hB:B<=w.heap.size):
 Af1 prog 75 #[av,bv] w fun e w'=>e=.returned (.bool (decide (xs=ys)))/\Below w.heap.size w w':=by
 obtain⟨A1,n,c1,rfl,e1,h1,ez,r1⟩:=ha.open_;obtain⟨A2,m,c2,rfl,e2,h2,dW,r2⟩:=hb.open_;unfold Af0 at ez dW;have E:=Af3 (Afx e1 e2);have R1:=Af3 r1;have R2:=Af3 r2;clear ha hb e1 e2 r1 r2;by_cases fC:n=m
 ·subst fC
  have hq:((n:Int) !=(n:Int))=false:=by simp
  have qn:=Wd;have qg:=Tx;go_enter func75,Tryz.ntmps75;go_wp2;go_loopw [4,5] (fun r k wr=>∃i:Nat,i<=n/\k=.int .i64 i/\Hid (∀(j:Nat) (x:Span),j<i->xs[j]?=some x->ys[j]?=some x)/\Hid (Below w.heap.size w wr)) (fun _ k _=>n - (Ag7 k).toNat)
  case atStart=>exact⟨0,Agm _,rfl,Af3 fun j _ hj=>by omega,Af3 (Af6 _ _)⟩
  case round=>
   obtain⟨i,hi,rfl,bt,cF⟩:=hrel;have st:Still B w wr:=Still.aK cF.out hB;have aI:=cF.out.size;by_cases al:i<n
   ·obtain⟨ad,x,cs,rfl,aC,hx,rfl,-,au⟩:=R1.out i al
    obtain⟨cI,y,jQ,rfl,fV,hy,rfl,-,ie⟩:=R2.out i al;have h0:=cC au st aC rfl;have h1c:=bK au st aC 0 rfl;have Mp:=cC ie st fV rfl;have adr:=bK ie st fV 0 rfl;have q0:(ad.add (i * 2)).block<wr.heap.size:=by rw[cq];omega
    have WB:(cI.add (i * 2)).block<wr.heap.size:=by rw[cq];omega
    have HX:=Af3 (Afx hx hy);clear hx hy au ie;by_cases hxy:x=y
    ·have aw:(x.lo==y.lo && x.hi==y.hi)=true:=by simp[hxy]
     have pQ:=Af3 hxy;clear hxy;go_wp2;go_quiet (fail);go_wp2;go_roundw;case rel=>exact⟨i+1,by omega,by go_num,Af3 fun j z hj hz=>by
      rcases Agn.1 hj with h|rfl
      ·exact bt.out j z h hz
      ·rw[HX.out.1] at hz;cases hz;rw[HX.out.2,pQ.out],Af3 (jq cF.out _)⟩
     case measure=>simp[Ag7];omega
    ·have aw:(x.lo==y.lo && x.hi==y.hi)=false:=by
      rw[Bool.eq_false_iff];intro h;simp only[Aax,beq_iff_eq] at h;exact hxy (by cases x;cases y;simp_all)
     have pQ:=Af3 hxy;clear hxy;go_wp2;go_quiet (fail);go_wp2;go_ret;refine⟨b9 ?_,jq cF.out _⟩
     simp only[Aid,decide_eq_false_iff_not];rintro rfl;have:=HX.out.1.symm.trans HX.out.2;exact pQ.out (Ac5 this)
   ·obtain rfl:i=n:=by omega
    go_wp2;go_ret;refine⟨b9 ?_,cF.out⟩
    have:=L8 (xs:=xs) (ys:=ys) (by rw[E.out.1,E.out.2]) fun j x hj hx=>bt.out j x (by rw[E.out.1] at hj;exact hj) hx
    simp[this]
 ·have hq:((n:Int) !=(m:Int))=true:=by simp;omega
  have HQ:=Af3 fC;clear fC;have qn:=Wd;have qg:=Tx;go_enter func75,Tryz.ntmps75;go_wp2;go_ret;refine⟨b9 ?_,Af6 _ _⟩
  simp only[Aid,decide_eq_false_iff_not];rintro rfl;exact HQ.out (E.out.1.symm.trans E.out.2)
theorem PF{xs ys:List Cut}{av bv:Value}{w:Aa4}{B:Nat}(ha:Row w B 2 Cut.R av xs)(hb:Row w B 2 Cut.R bv ys)(hB:B<=w.heap.size):
 Af1 prog 35 #[av,bv] w fun e w'=>e=.returned (.bool (decide (xs=ys)))/\Below w.heap.size w w':=by
 obtain⟨A1,n,c1,rfl,e1,h1,ez,r1⟩:=ha.open_;obtain⟨A2,m,c2,rfl,e2,h2,dW,r2⟩:=hb.open_;unfold Af0 at ez dW;have E:=Af3 (Afx e1 e2);have R1:=Af3 r1;have R2:=Af3 r2;clear ha hb e1 e2 r1 r2;by_cases fC:n=m
 ·subst fC
  have hq:((n:Int) !=(n:Int))=false:=by simp
  have qn:=We;have qg:=Ty;go_enter func35,Tryz.ntmps35;go_wp2;go_loopw [4,5] (fun r k wr=>∃i:Nat,i<=n/\k=.int .i64 i/\Hid (∀(j:Nat) (x:Cut),j<i->xs[j]?=some x->ys[j]?=some x)/\Hid (Below w.heap.size w wr)) (fun _ k _=>n - (Ag7 k).toNat)
  case atStart=>exact⟨0,Agm _,rfl,Af3 fun j _ hj=>by omega,Af3 (Af6 _ _)⟩
  case round=>
   obtain⟨i,hi,rfl,bt,cF⟩:=hrel;have st:Still B w wr:=Still.aK cF.out hB;have aI:=cF.out.size;by_cases al:i<n
   ·obtain⟨ad,x,cs,rfl,aC,hx,rfl,-,au⟩:=R1.out i al
    obtain⟨cI,y,jQ,rfl,fV,hy,rfl,-,ie⟩:=R2.out i al;have h0:=cC au st aC rfl;have h1c:=bK au st aC 0 rfl;have Mp:=cC ie st fV rfl;have adr:=bK ie st fV 0 rfl;have q0:(ad.add (i * 2)).block<wr.heap.size:=by rw[cq];omega
    have WB:(cI.add (i * 2)).block<wr.heap.size:=by rw[cq];omega
    have HX:=Af3 (Afx hx hy);clear hx hy au ie;by_cases hxy:x=y
    ·have aw:(x.bp==y.bp && x.from_==y.from_)=true:=by simp[hxy]
     have pQ:=Af3 hxy;clear hxy;go_wp2;go_quiet (fail);go_wp2;go_roundw;case rel=>exact⟨i+1,by omega,by go_num,Af3 fun j z hj hz=>by
      rcases Agn.1 hj with h|rfl
      ·exact bt.out j z h hz
      ·rw[HX.out.1] at hz;cases hz;rw[HX.out.2,pQ.out],Af3 (jq cF.out _)⟩
     case measure=>simp[Ag7];omega
    ·have aw:(x.bp==y.bp && x.from_==y.from_)=false:=by
      rw[Bool.eq_false_iff];intro h;simp only[Aax,beq_iff_eq] at h;exact hxy (by cases x;cases y;simp_all)
     have pQ:=Af3 hxy;clear hxy;go_wp2;go_quiet (fail);go_wp2;go_ret;refine⟨b9 ?_,jq cF.out _⟩
     simp only[Aid,decide_eq_false_iff_not];rintro rfl;have:=HX.out.1.symm.trans HX.out.2;exact pQ.out (Ac5 this)
   ·obtain rfl:i=n:=by omega
    go_wp2;go_ret;refine⟨b9 ?_,cF.out⟩
    have:=L8 (xs:=xs) (ys:=ys) (by rw[E.out.1,E.out.2]) fun j x hj hx=>bt.out j x (by rw[E.out.1] at hj;exact hj) hx
    simp[this]
 ·have hq:((n:Int) !=(m:Int))=true:=by simp;omega
  have HQ:=Af3 fC;clear fC;have qn:=We;have qg:=Ty;go_enter func35,Tryz.ntmps35;go_wp2;go_ret;refine⟨b9 ?_,Af6 _ _⟩
  simp only[Aid,decide_eq_false_iff_not];rintro rfl;exact HQ.out (E.out.1.symm.trans E.out.2)
theorem Bc(w:Aa4)(n:Int):Af1 prog 50 #[.int .i64 n] w fun e w'=>e=.returned (.agg #[.int .i64 n,.int .i64 n])/\w'=w.alloc (.cells #[.int .i64 n,.int .i64 n] 37):=by
 go_enter func50,Tryz.ntmps50;go_wp2;refine Ag1 (v:=.agg #[.int .i64 n,.int .i64 n]) (by simp[results,Tryz.results50,go_sem]) rfl ⟨rfl,rfl⟩
theorem P8(w:Aa4)(a b:Int):Af1 prog 67 #[.int .i64 a,.int .i64 b] w fun e w'=>e=.returned (.agg #[.int .i64 a,.int .i64 b])/\w'=w.alloc (.cells #[.int .i64 a,.int .i64 b] 37):=by
 go_enter func67,Tryz.ntmps67;go_wp2;refine Ag1 (v:=.agg #[.int .i64 a,.int .i64 b]) (by simp[results,Tryz.results67,go_sem]) rfl ⟨rfl,rfl⟩
theorem di(w:Aa4)(a b:Int):Af1 prog 66 #[.int .i64 a,.int .i64 b] w fun e w'=>e=.returned (.agg #[.int .i64 a,.int .i64 b])/\w'=w.alloc (.cells #[.int .i64 a,.int .i64 b] 56):=by
 go_enter func66,Tryz.ntmps66;go_wp2;refine Ag1 (v:=.agg #[.int .i64 a,.int .i64 b]) (by simp[results,Tryz.results66,go_sem]) rfl ⟨rfl,rfl⟩
theorem abb(w:Aa4):Af1 prog 95 #[] w fun e w'=>∃g,e=.returned (.slice (some ⟨g,0,none⟩) 3 3)/\w.heap.size<=g/\Bk w' g 56 #[.int .i64 1,.int .i64 0,.int .i64 0,.int .i64 0,.int .i64 0,.int .i64 4]/\Below w.heap.size w w':=by
 go_enter func95,Tryz.ntmps95;go_wp2_with (first
  | (go_at_call 66;refine(di _ _ _).mono ?_;rintro e w1 ⟨rfl,rfl⟩))
 go_ret;refine⟨w.heap.size+1+1+1,rfl,by omega,Bk.cG (by simp) _ _,?_⟩
 exact((((Af6 _ _).alloc (Ac2 _) _).alloc (by simp) _).alloc (by simp;omega) _).alloc (by simp;omega) _
def It:ByteArray:={data:=#[107,101,101,108]}
def Iu:ByteArray:={data:=#[114,105,98]}
def Is:ByteArray:={data:=#[97,114,109]}
def EA:ByteArray:={data:=#[101,108,109]}
def EC:ByteArray:={data:=#[111,97,107]}
structure wL(w:Aa4)(base gp gb gk gt gl:Nat):Prop where
 p:Bk w gp 72 #[.string It,.int .i64 4,.int .i64 5,.int .i64 0,.string Iu,.int .i64 3,.int .i64 3,.int .i64 1,.string Is,.int .i64 2,.int .i64 3,.int .i64 0]
 b:Bk w gb 59 #[.string EA,.int .i64 8,.slice (some ⟨gk,0,none⟩) 1 1,.string EC,.int .i64 6,.slice none 0 0]
 k:Bk w gk 37 #[.int .i64 3,.int .i64 3]
 t:Bk w gt 95 #[.slice (some ⟨gl,0,none⟩) 2 2,.int .i64 7,.int .i64 7]
 l:Bk w gl 3 #[.int .i64 0,.int .i64 2]
 hp:base<=gp
 hb:base<=gb
 hk:base<=gk
 ht:base<=gt
 hl:base<=gl
def acb(w:Aa4)(e:Ending)(w':Aa4):Prop:=
 ∃gp gb gk gt gl,e=.returned (.agg #[.int .i64 1,.slice (some ⟨gp,0,none⟩) 3 3,.slice (some ⟨gb,0,none⟩) 2 2,.slice (some ⟨gt,0,none⟩) 1 1])/\wL w' w.heap.size gp gb gk gt gl/\Below w.heap.size w w'
theorem acn(w:Aa4):Af1 prog 94 #[] w (acb w):=by
 go_enter func94,Tryz.ntmps94;go_wp2_with (first
  | (go_at_call 67;refine(P8 _ _ _).mono ?_;rintro e w1 ⟨rfl,rfl⟩)
  | (go_at_call 50;refine(Bc _ _).mono ?_;rintro e w1 ⟨rfl,rfl⟩))
 refine Ag1 (v:=.agg #[.int .i64 1,.slice (some ⟨w.heap.size+1+1+1+1,0,none⟩) 3 3,.slice (some ⟨w.heap.size+1+1+1+1+1+1+1,0,none⟩) 2 2,.slice (some ⟨w.heap.size+1+1+1+1+1+1+1+1+1+1,0,none⟩) 1 1]) (by simp[results,Tryz.results94,go_sem]) rfl ?_
 refine⟨_,_,w.heap.size+1+1+1+1+1+1,_,w.heap.size+1+1+1+1+1+1+1+1,rfl,⟨?_,?_,?_,?_,?_,by omega,by omega,by omega,by omega,by omega⟩,?_⟩
 ·repeat first|exact Bk.cG (by simp) _ _|refine Bk.alloc ?_ _
 ·repeat first|exact Bk.cG (by simp) _ _|refine Bk.alloc ?_ _
 ·repeat first|exact Bk.cG (by simp) _ _|refine Bk.alloc ?_ _
 ·repeat first|exact Bk.cG (by simp) _ _|refine Bk.alloc ?_ _
 ·repeat first|exact Bk.cG (by simp) _ _|refine Bk.alloc ?_ _
 ·repeat first|exact Af6 _ _|refine Below.alloc ?_ (by simp;try omega) _
def aW:ao:=⟨1,[⟨It,⟨4,5⟩,0⟩,⟨Iu,⟨3,3⟩,1⟩,⟨Is,⟨2,3⟩,0⟩],[⟨EA,8,[⟨3,3⟩]⟩,⟨EC,6,[]⟩],[⟨[0,2],⟨7,7⟩⟩]⟩
def dQ:List Cut:=[⟨1,0⟩,⟨0,0⟩,⟨0,4⟩]
theorem yX{α:Type}{w:Aa4}{B sz g e:Nat}{R:α->List Value->Prop}{xs:List α}{cs:Array Value}{oX:List (List Value)}(hb:Bk w g e cs)(hg:g<B)(aw:xs≠ [])(hlen:oX.length=xs.length)(hx:xs.length<=1000)
 (hR:∀(i:Nat) (x:α) (c:List Value),xs[i]?=some x->oX[i]?=some c->R x c/\c.length=sz)(hc:∀(i:Nat) (c:List Value),oX[i]?=some c->∀(j:Nat) (u:Value),c[j]?=some u->cs[i * sz+j]?=some u){c:Nat}(M6:xs.length<=c)(kZ:c<=1000):Row w B sz R (.slice (some ⟨g,0,none⟩) xs.length c) xs:=by
 refine⟨_,c,rfl,M6,by unfold Af0;omega,fun _=>⟨⟨g,0,none⟩,rfl,hg,fun i x hi=>?_⟩⟩
 have qp:i<xs.length:=(Agb.1 hi).1
 obtain⟨c,T6⟩:∃c,oX[i]?=some c:=⟨oX[i]'(by omega),Aga _⟩
 obtain⟨h1,h2⟩:=hR i x c hi T6;refine⟨c,h1,h2,fun j u hu=>?_⟩
 have:=hc i c T6 j u hu;rw[nu];unfold World.cell?;rw[show w.heap[(⟨g,i * sz+j,none⟩:Addr).block]?=some (.cells cs e) from hb]
 simpa using this
theorem kY{w:Aa4}{base gp gb gk gt gl:Nat}(h:wL w base gp gb gk gt gl):bg w w.heap.size aW (.slice (some ⟨gp,0,none⟩) 3 3) (.slice (some ⟨gb,0,none⟩) 2 2) (.slice (some ⟨gt,0,none⟩) 1 1):=by
 have hk:Row w w.heap.size 2 Span.R (.slice (some ⟨gk,0,none⟩) 1 1) [⟨3,3⟩]:=yX (xs:=[(⟨3,3⟩:Span)]) (sz:=2) (R:=Span.R) (oX:=[[.int .i64 3,.int .i64 3]]) h.k h.k.lt (by simp) rfl (by simp) (fun i x c hx hc=>by
  match i with
  |0=>cases hx;cases hc;exact⟨rfl,rfl⟩
  |i+1=>simp at hx) (fun i c hc j u hu=>by
  match i with
  |0=>
   cases hc;match j with
   |0=>exact hu
   |1=>exact hu
   |j+2=>simp at hu
  |i+1=>simp at hc) (c:=1) (by simp) (by omega)
 have hl:Row w w.heap.size 1 cH (.slice (some ⟨gl,0,none⟩) 2 2) [0,2]:=yX (xs:=[(0:Int),2]) (sz:=1) (R:=cH) (oX:=[[.int .i64 0],[.int .i64 2]]) h.l h.l.lt (by simp) rfl (by simp) (fun i x c hx hc=>by
  match i with
  |0=>cases hx;cases hc;exact⟨rfl,rfl⟩
  |1=>cases hx;cases hc;exact⟨rfl,rfl⟩
  |i+2=>simp at hx) (fun i c hc j u hu=>by
  match i with
  |0=>
   cases hc;match j with
   |0=>exact hu
   |j+1=>simp at hu
  |1=>
   cases hc;match j with
   |0=>exact hu
   |j+1=>simp at hu
  |i+2=>simp at hc) (c:=2) (by simp) (by omega)
 refine⟨?_,?_,?_⟩
 ·refine yX (xs:=aW.pieces) (sz:=4) (R:=Piece.R) (oX:=[[.string It,.int .i64 4,.int .i64 5,.int .i64 0],[.string Iu,.int .i64 3,.int .i64 3,.int .i64 1],[.string Is,.int .i64 2,.int .i64 3,.int .i64 0]]) h.p h.p.lt (by simp[aW]) rfl (by simp[aW]) (fun i x c hx hc=>?_) (fun i c hc j u hu=>?_) (c:=3) (by simp[aW]) (by omega)
  ·match i with
   |0=>cases hx;cases hc;exact⟨⟨rfl,by decide⟩,rfl⟩
   |1=>cases hx;cases hc;exact⟨⟨rfl,by decide⟩,rfl⟩
   |2=>cases hx;cases hc;exact⟨⟨rfl,by decide⟩,rfl⟩
   |i+3=>simp[aW] at hx
  ·match i with
   |0=>
    cases hc;match j with
    |0=>exact hu
    |1=>exact hu
    |2=>exact hu
    |3=>exact hu
    |j+4=>simp at hu
   |1=>
    cases hc;match j with
    |0=>exact hu
    |1=>exact hu
    |2=>exact hu
    |3=>exact hu
    |j+4=>simp at hu
   |2=>
    cases hc;match j with
    |0=>exact hu
    |1=>exact hu
    |2=>exact hu
    |3=>exact hu
    |j+4=>simp at hu
   |i+3=>simp at hc
 ·refine yX (xs:=aW.aF) (sz:=3) (R:=bR.R w w.heap.size) (oX:=[[.string EA,.int .i64 8,.slice (some ⟨gk,0,none⟩) 1 1],[.string EC,.int .i64 6,.slice none 0 0]]) h.b h.b.lt (by simp[aW]) rfl (by simp[aW]) (fun i x c hx hc=>?_) (fun i c hc j u hu=>?_) (c:=2) (by simp[aW]) (by omega)
  ·match i with
   |0=>cases hx;cases hc;exact⟨⟨_,rfl,by decide,hk⟩,rfl⟩
   |1=>cases hx;cases hc;exact⟨⟨_,rfl,by decide,Row.nil⟩,rfl⟩
   |i+2=>simp[aW] at hx
  ·match i with
   |0=>
    cases hc;match j with
    |0=>exact hu
    |1=>exact hu
    |2=>exact hu
    |j+3=>simp at hu
   |1=>
    cases hc;match j with
    |0=>exact hu
    |1=>exact hu
    |2=>exact hu
    |j+3=>simp at hu
   |i+2=>simp at hc
 ·refine yX (xs:=aW.aJ) (sz:=3) (R:=Tape.R w w.heap.size) (oX:=[[.slice (some ⟨gl,0,none⟩) 2 2,.int .i64 7,.int .i64 7]]) h.t h.t.lt (by simp[aW]) rfl (by simp[aW]) (fun i x c hx hc=>?_) (fun i c hc j u hu=>?_) (c:=1) (by simp[aW]) (by omega)
  ·match i with
   |0=>cases hx;cases hc;exact⟨⟨_,rfl,hl⟩,rfl⟩
   |i+1=>simp[aW] at hx
  ·match i with
   |0=>
    cases hc;match j with
    |0=>exact hu
    |1=>exact hu
    |2=>exact hu
    |j+3=>simp at hu
   |i+1=>simp at hc
theorem aa9{w:Aa4}{g:Nat}(h:Bk w g 56 #[.int .i64 1,.int .i64 0,.int .i64 0,.int .i64 0,.int .i64 0,.int .i64 4]):Row w w.heap.size 2 Cut.R (.slice (some ⟨g,0,none⟩) 3 3) dQ:=by
 refine yX (xs:=dQ) (sz:=2) (R:=Cut.R) (oX:=[[.int .i64 1,.int .i64 0],[.int .i64 0,.int .i64 0],[.int .i64 0,.int .i64 4]]) h h.lt (by simp[dQ]) rfl (by simp[dQ]) (fun i x c hx hc=>?_) (fun i c hc j u hu=>?_) (c:=3) (by simp[dQ]) (by omega)
 ·match i with
  |0=>cases hx;cases hc;exact⟨rfl,rfl⟩
  |1=>cases hx;cases hc;exact⟨rfl,rfl⟩
  |2=>cases hx;cases hc;exact⟨rfl,rfl⟩
  |i+3=>simp[dQ] at hx
 ·match i with
  |0=>
   cases hc;match j with
   |0=>exact hu
   |1=>exact hu
   |j+2=>simp at hu
  |1=>
   cases hc;match j with
   |0=>exact hu
   |1=>exact hu
   |j+2=>simp at hu
  |2=>
   cases hc;match j with
   |0=>exact hu
   |1=>exact hu
   |j+2=>simp at hu
  |i+3=>simp at hc
def Span.vs(x:Span):List Value:=[.int .i64 x.lo,.int .i64 x.hi]
def j5(out:List Span)(x:Span):List Span:=match out.getLast? with
 |some y=>if y.hi+1=x.lo then out.dropLast++ [⟨y.lo,x.hi⟩] else out++ [x]
 |none=>out++ [x]
def fq(l:List Span):List Span:=l.foldl j5 []
theorem agr{l:List Span}{i:Nat}{x:Span}(h:l[i]?=some x):fq (l.take (i+1))=j5 (fq (l.take i)) x:=by
 unfold fq;rw[oJ h,List.foldl_append];rfl
theorem IG{w:Aa4}{base:Nat}{e:TypeId}{sz n g cap k:Nat}{xs:List Value}{u:Value}(h:w.ownsRow base e sz (.slice (some ⟨g,0,none⟩) n cap) n xs)(hk:k<n * sz):(w.setCell ⟨g,k,none⟩ u).ownsRow base e sz (.slice (some ⟨g,0,none⟩) n cap) n (xs.set k u):=by
 refine⟨by rw[Ais];exact h.1,.inr ?_⟩
 rcases h.2 with⟨h0,_⟩ | ⟨g',xc,cur,h1,h2,h3,h4,h5,h6,h7⟩
 ·cases h0
 ·cases h1
  refine⟨g,cap,cur.setIfInBounds k u,rfl,h2,?_,h4,h5,by simp[h6],?_⟩
  ·have:=Go.Sim.Bx (a:=⟨g,k,none⟩) (v:=u) h3 rfl g
   simpa using this
  ·rw[<-h7]
   simp[List.take_set]
theorem Xr(l:List Span):(l.flatMap Span.vs).length=l.length * 2:=by
 induction l with
 |nil=>rfl
 |cons a l ih=>simp[Span.vs,ih];omega
theorem agP{out:List Span}{y x:Span}(h: out.getLast? =some y):(out.flatMap Span.vs).set ((out.length - 1) * 2+1) (.int .i64 x.hi)=(out.dropLast++ [(⟨y.lo,x.hi⟩:Span)]).flatMap Span.vs:=by
 have aw:out≠ []:=by rintro rfl;cases h
 have e:out=out.dropLast++ [y]:=by
  have:=Aip aw;rw[Aiu aw] at h
  cases h;exact this.symm
 obtain⟨d,hd⟩:∃d,d=out.dropLast:=⟨_,rfl⟩
 rw[<-hd] at e |-
 subst e;rw[Aho,Aho,Ahq];have hl:=Xr d;have e2:(d.length+ [y].length - 1) * 2+1=(d.flatMap Span.vs).length+1:=by rw[hl];simp
 rw[e2,List.set_append,if_neg (by omega),Nat.add_sub_cancel_left]
 simp[Span.vs]
theorem agO{out:List Span}{y:Span}(h: out.getLast? =some y):(out.flatMap Span.vs)[(out.length - 1) * 2+1]?=some (.int .i64 y.hi):=by
 have aw:out≠ []:=by rintro rfl;cases h
 have e:out=out.dropLast++ [y]:=by
  have:=Aip aw;rw[Aiu aw] at h
  cases h;exact this.symm
 obtain⟨d,hd⟩:∃d,d=out.dropLast:=⟨_,rfl⟩
 rw[<-hd] at e;subst e;rw[Aho,Ahq];have hl:=Xr d;rw[Ail (by rw[hl];simp),hl]
 simp[Span.vs]
theorem VE:(prog.info? 37).map (fun i=>(i.zero,i.size,i.bytes))=some (some (.agg #[.int .i64 0,.int .i64 0]),2,16):=by
 rw[pB];kernel_rfl
def rl(l:List Span):Prop:=∀x∈l,-1000<=x.lo/\x.lo<=1000/\ -1000<=x.hi/\x.hi<=1000
theorem agt{out:List Span}{x:Span}(h:rl out)(hx:rl [x]):rl (j5 out x):=by
 have hx:=hx x (by simp)
 unfold j5;split
 ·rename_i y hy
  have hy:=h y (Aiv hy);split
  ·intro z hz
   rcases Aft.1 hz with hz|hz
   ·exact h z (List.dropLast_subset _ hz)
   ·simp at hz;subst hz;exact⟨hy.1,hy.2.1,hx.2.2⟩
  ·intro z hz
   rcases Aft.1 hz with hz|hz
   ·exact h z hz
   ·simp at hz;subst hz;exact hx
 ·intro z hz
  rcases Aft.1 hz with hz|hz
  ·exact h z hz
  ·simp at hz;subst hz;exact hx
theorem agq{l:List Span}(h:rl l):rl (fq l):=by
 have key:∀(l out:List Span),rl out->rl l->rl (l.foldl j5 out):=by
  intro l;induction l with
  |nil=>intro out h _;exact h
  |cons a l ih=>exact fun out h k=>ih _ (agt h fun z hz=>by simp at hz;subst hz;exact k z (by simp)) fun z hz=>k z (by simp[hz])
 exact key l [] (fun z hz=>by simp at hz) h
theorem ags(out:List Span)(x:Span):(j5 out x).length<=out.length+1:=by
 unfold j5;split
 ·split<;>simp<;>omega
 ·simp
theorem agp(l:List Span):(fq l).length<=l.length:=by
 have key:∀(l out:List Span),(l.foldl j5 out).length<=out.length+l.length:=by
  intro l;induction l with
  |nil=>intro out;simp
  |cons a l ih=>intro out;have:=ih (j5 out a);have:=ags out a;simp only[List.foldl_cons,List.length_cons];omega
 have:=key l [];simpa [fq] using this
theorem II{w:Aa4}{base:Nat}{e:TypeId}{sz n:Nat}{v:Value}{xs:List Value}(h:w.ownsRow base e sz v n xs):∃A c,v=.slice A n c/\(0<n->∃g,A=some ⟨g,0,none⟩/\base<=g/\g<w.heap.size/\∃cur,w.heap[g]?=some (.cells cur e (0,0)))/\n<=c/\c<=Af0:=by
 rcases h.2 with⟨rfl,rfl⟩ | ⟨g,cap,cur,rfl,h2,h3,h4,h5,_⟩
 ·exact⟨none,0,rfl,fun h=>absurd h (by omega),Ac2 _,Agm _⟩
 ·exact⟨_,_,rfl,fun _=>⟨g,rfl,h2,(Array.getElem?_eq_some_iff.1 h3).1,cur,h3⟩,h4,h5⟩
theorem Pa{w:Aa4}{base:Nat}{e:TypeId}{sz n:Nat}{v:Value}{xs:List Value}(h:w.ownsRow base e sz v n xs)(k:Nat):(w.drewN k).ownsRow base e sz v n xs:=h
theorem join{l:List Span}{v:Value}{w:Aa4}{B:Nat}(hv:Row w B 2 Span.R v l)(hB:B<=w.heap.size)(xv:l.length<=1000)(hs:rl l):
 Af1 prog 133 #[v] w fun e w'=>∃u,e=.returned u/\w'.ownsRow w.heap.size 37 2 u (fq l).length ((fq l).flatMap Span.vs)/\Below w.heap.size w w':=by
 obtain⟨i0,cR,cT,aN,ba⟩:=info_parts VE;obtain⟨A,n,c,rfl,hl,dX,cX,hr⟩:=hv.open_;have hn:n<=1000:=by omega
 unfold Af0 at cX;have nh:=Af3 hl;have H2:=Af3 hr;have HS:=Af3 hs;have HI:=Af3 (Afx cR (Afx cT (Afx aN ba)));clear hl hr hv xv cR cT aN ba hs;go_enter func133,Tryz.ntmps133;go_wp2;go_loopw [3,5,6,9] (fun o p q k wr=>∃i:Nat,i<=n/\k=.int .i64 i/\Hid (wr.ownsRow w.heap.size 37 2 o (fq (l.take i)).length ((fq (l.take i)).flatMap Span.vs))/\Below w.heap.size w wr) (fun _ _ _ k _=>n - (Ag7 k).toNat)
 case atStart=>exact⟨0,Agm _,rfl,Af3 ⟨by simp[fq],.inl ⟨rfl,by simp[fq]⟩⟩,Af6 _ _⟩
 case round=>
  obtain⟨i,hi,rfl,aG,hb⟩:=hrel;have HB:=Af3 hb;have aI:=hb.size;by_cases al:i<n
  ·obtain⟨ad,x,cs,rfl,aC,hx,rfl,-,au⟩:=H2.out i al
   have st:Still B w wr:=Still.aK hb hB;have h0:=cC au st aC rfl;have h1:=bK au st aC 0 rfl;have q0:(ad.add (i * 2)).block<wr.heap.size:=by rw[cq];omega
   have HX:=Af3 hx;have hxs:=HS.out x (Agg hx);have Ut:=agq (l:=l.take i) fun z hz=>HS.out z (List.mem_of_mem_take hz)
   have nE:(fq (l.take i)).length<=i:=Ac3 (agp _) (by simp;omega)
   have NX:=Af3 (agr hx);clear hb hx au st;obtain⟨m,hm⟩:∃m,m=(fq (l.take i)).length:=⟨_,rfl⟩
   rw[<-hm] at aG nE;have HM:=Af3 hm;clear hm;obtain⟨A9,c9,rfl,GX,eS,MZ⟩:=II aG.out;unfold Af0 at MZ;have YG:=Af3 Ut;clear Ut;rcases Aiz m with DN|rO
   ·subst DN
    clear GX;have HO:=Af3 aG.out;have oR:Hid (((j5 (fq (l.take i)) x).flatMap Span.vs=(fq (l.take i)).flatMap Span.vs++ [.int .i64 x.lo,.int .i64 x.hi])/\(j5 (fq (l.take i)) x).length=0+1):=Af3 (by
     rw[Aio HM.out.symm];exact⟨rfl,rfl⟩)
    clear aG;go_wp2;go_quiet (fail);go_wp2_with (first
     | (at_builtin
        refine Agx _ rfl (.tmp 36) (.tmp 38) 57 rfl w.heap.size 37 i0 (.agg #[.int .i64 0,.int .i64 0]) 2 16 (U Tryz.underlying57) HI.out.1 HI.out.2.1 HI.out.2.2.1 HI.out.2.2.2 rfl (by decide) _ _ _ rfl (Aif (Pa (Aif HO.out _) nq) _) ⟨wr.heap.size+1,0,none⟩ 1 1 [.int .i64 x.lo,.int .i64 x.hi] rfl rfl ?c1 ?c2 ?c3 ?c4 ?c5 ?_
        case c1=>(intro j u hu;match j,hu with|0,hu=>(simp at hu;subst hu;simp[go_sem,Addr.add]) |1,hu=>(simp at hu;subst hu;simp[go_sem,Addr.add]))
        case c2=>simp[Value.oneCell']
        case c3=>(simp only[Af0];omega)
        case c4=>omega
        case c5=>(simp;omega)
        intro v' w1 cK dT _;have gW:=Af3 cK;have gV:=Af3 dT;clear cK dT))
    go_roundw;case rel=>exact⟨i+1,by omega,by go_num,Af3 (by rw[NX.out,oR.out.1,oR.out.2];exact gW.out),
     ((HB.out.trans (jq ((Af6 _ _).alloc aI _) nq)).trans ((Af6 _ _).alloc (by simp;omega) _)).grown gV.out (by simp;omega) (fun k hk=>ei HO.out k hk)⟩
    case measure=>simp[Ag7];omega
   ·obtain⟨k,rfl⟩:∃k,m=k+1:=⟨m - 1,by omega⟩
    obtain⟨g9,rfl,hg9,aoh,cur,tB⟩:=GX (by omega)
    clear rO;have vE:IntKind.i64.wrap (k:Int)=k:=by rw[IntWalk.i64_left];exact IntWalk.wrap64_in _ (by omega)
    obtain⟨y,hy⟩:∃y,(fq (l.take i)).getLast? =some y:=by
     cases e:(fq (l.take i)).getLast? with
     |some y=>exact⟨y,rfl⟩
     |none=>
      rw[List.getLast?_eq_none_iff.1 e] at HM
      exact absurd HM.out (by simp)
    have hys:=YG.out y (Aiv hy);have g1: wr.cell? ⟨g9,k * 2+1,none⟩=some (.int .i64 y.hi):=by
     have h1:=agO hy;rw[<-HM.out] at h1;have:=vT aG.out _ _ h1;rwa[nu] at this
    have z1: wr.frozen? ⟨g9,k * 2+1,none⟩=false:=by rw[Go.Sim.xm (a:=⟨g9,k * 2+1,none⟩) tB];rfl
    have HY:=Af3 hy;have g9l:g9<=wr.heap.size:=by omega
    have HO:=Af3 aG.out;clear hy tB aG;by_cases heq:y.hi+1=x.lo
    ·have hd:(y.hi+1==x.lo)=true:=by simpa using heq
     have oR:Hid (((j5 (fq (l.take i)) x).flatMap Span.vs=((fq (l.take i)).flatMap Span.vs).set (k * 2+1) (.int .i64 x.hi))/\(j5 (fq (l.take i)) x).length=k+1):=Af3 (by
      have e:j5 (fq (l.take i)) x=(fq (l.take i)).dropLast++ [⟨y.lo,x.hi⟩]:=by unfold j5;rw[HY.out];simp[heq]
      rw[e];refine⟨?_,by simp[<-HM.out]⟩
      rw[<-agP HY.out,<-HM.out];rfl)
     go_wp2;go_quiet (fail);go_wp2;go_roundw;case rel=>exact⟨i+1,by omega,by go_num,Af3 (by
          rw[NX.out,oR.out.1,oR.out.2];exact IG (Pa (Aif HO.out _) nq) (by omega)),
      (HB.out.trans (jq ((Af6 _ _).alloc aI _) nq)).setCell (by simp;omega) _⟩
     case measure=>simp[Ag7];omega
    ·have hd:(y.hi+1==x.lo)=false:=by simpa using heq
     have oR:Hid (((j5 (fq (l.take i)) x).flatMap Span.vs=(fq (l.take i)).flatMap Span.vs++ [.int .i64 x.lo,.int .i64 x.hi])/\(j5 (fq (l.take i)) x).length=k+1+1):=Af3 (by
      have e:j5 (fq (l.take i)) x=fq (l.take i)++ [x]:=by unfold j5;rw[HY.out];simp[heq]
      rw[e];exact⟨by simp[Span.vs],by simp[<-HM.out]⟩)
     go_wp2;go_quiet (fail);go_wp2_with (first
      | (at_builtin
         refine Agx _ rfl (.tmp 36) (.tmp 38) 57 rfl w.heap.size 37 i0 (.agg #[.int .i64 0,.int .i64 0]) 2 16 (U Tryz.underlying57) HI.out.1 HI.out.2.1 HI.out.2.2.1 HI.out.2.2.2 rfl (by decide) _ _ _ rfl (Aif (Pa (Aif HO.out _) nq) _) ⟨wr.heap.size+1,0,none⟩ 1 1 [.int .i64 x.lo,.int .i64 x.hi] rfl rfl ?c1 ?c2 ?c3 ?c4 ?c5 ?_
         case c1=>(intro j u hu;match j,hu with|0,hu=>(simp at hu;subst hu;simp[go_sem,Addr.add]) |1,hu=>(simp at hu;subst hu;simp[go_sem,Addr.add]))
         case c2=>simp[Value.oneCell']
         case c3=>(simp only[Af0];omega)
         case c4=>omega
         case c5=>(simp;omega)
         intro v' w1 cK dT _;have gW:=Af3 cK;have gV:=Af3 dT;clear cK dT))
     go_roundw;case rel=>exact⟨i+1,by omega,by go_num,Af3 (by rw[NX.out,oR.out.1,oR.out.2];exact gW.out),
      ((HB.out.trans (jq ((Af6 _ _).alloc aI _) nq)).trans ((Af6 _ _).alloc (by simp;omega) _)).grown gV.out (by simp;omega) (fun k hk=>ei HO.out k hk)⟩
     case measure=>simp[Ag7];omega
  ·obtain rfl:i=n:=by omega
   go_wp2;go_ret;refine⟨_,rfl,?_,hb⟩
   have:=aG.out;rwa[Agf (Nat.le_of_eq nh.out)] at this
def jv(x:bR)(n:Nat):List Span:=((Af9 n).filter fun i:Nat=>decide (lh x.cM (i:Int) i=0)).map fun i:Nat=>⟨(i:Int),i⟩
def GB(x:bR):List Span:=fq (jv x x.aH.toNat)
theorem ac0(x:bR)(n:Nat):jv x (n+1)=jv x n++(if lh x.cM (n:Int) n=0 then [⟨(n:Int),n⟩] else []):=by
 unfold jv;rw[Air,List.filter_append,List.map_append];congr 1;by_cases h:lh x.cM (n:Int) n=0<;>simp[h]
theorem Tq(x:bR)(n:Nat):(jv x n).length<=n:=by
 unfold jv;rw[Aiw];exact Ac3 (List.length_filter_le _ _) (by simp)
theorem acZ(x:bR){n:Nat}(hn:n<=1000):rl (jv x n):=by
 intro y hy;unfold jv at hy;obtain⟨i,hi,rfl⟩:=Ain.1 hy;have:=List.mem_range.1 (List.mem_filter.1 hi).1;simp only;omega
theorem aaz{w:Aa4}{b:ao}{k:Nat}{x:bR}{pv bv tv:Value}{B:Nat}(hB:B<=w.heap.size)(ai:bg w B b pv bv tv)(h0:dF b=0)(hx:b.aF[k]?=some x):
 Af1 prog 47 #[.agg #[.int .i64 b.ag,pv,bv,tv],.int .i64 k] w fun e w'=>∃v,e=.returned (.tuple #[v,.int .i64 0])/\w'.ownsRow w.heap.size 37 2 v (GB x).length ((GB x).flatMap Span.vs)/\Below w.heap.size w w':=by
 obtain⟨i0,cR,cT,aN,ba⟩:=info_parts VE;have HI:=Af3 (Afx cR (Afx cT (Afx aN ba)));have hv:=iy h0;have va:=hv.bp x (Agg hx);have bT:=Af3 ai;have H0:=Af3 h0;obtain⟨A1,n1,c1,rfl,-⟩:=ai.pieces.open_;obtain⟨A2,n2,c2,rfl,e2,h2,dW,r2⟩:=ai.aF.open_;obtain⟨A3,n3,c3,rfl,-⟩:=ai.aJ.open_;unfold Af0 at dW;have hk:k<n2:=by have:=(Agb.1 hx).1;omega
 obtain⟨cI,x',jQ,rfl,fV,jz,⟨kv,rfl,UY,dj⟩,-,ef⟩:=r2 k hk;obtain rfl:x'=x:=by rw[jz] at hx;exact Ac5 hx
 obtain⟨A4,n4,c4,rfl,-⟩:=dj.open_;have st:=Still.refl (B:=B) w;have b0:=cC ef st fV rfl;have b1:=bK ef st fV 0 rfl;have b2:=bK ef st fV 1 rfl;have HC:=Af3 (Afx b0 (Afx b1 b2));have sS:=Af3 dj;have La:Hid (1<=x'.aH/\x'.aH<=40):=Af3 va.aH;have D6:(if bX k 0 ((n2:Int) - 1) then(0:Int) else 6)=0:=by rw[if_pos (by unfold bX;simp;omega)]
 have HT:=Af3 D6;have sQ:Hid ((cI.add (k * 3)).block<w.heap.size):=Af3 (by rw[cq];omega)
 clear ai e2 r2 hx jz ef dj cR cT aN ba b0 b1 b2 st hv h0 D6 va;go_enter func47,Tryz.ntmps47;go_wp2_with (first
  | (go_at_call 68;refine(ry (bT.out.still ((Still.refl w).alloc hB _)) (by simp;omega) H0.out).mono ?_;rintro e w1 ⟨rfl,ae⟩
     have kb:Bk w1 w.heap.size 26 #[.int .i64 b.ag,.slice A1 n1 c1,.slice (some cI) n2 c2,.slice A3 n3 c3]:=(Bk.new w _ _).below ae (by simp)
     have b2: w1.cell? ⟨w.heap.size,2,none⟩=some (.slice (some cI) n2 c2):=kb.cell 2;have aN:w.heap.size<w1.heap.size:=kb.lt;have ba:w.heap.size<=w1.heap.size:=by omega
     have cF:=cU (Af6 _ _) ae (Ac2 _);have aY:=Af3 cF;have d0: w1.cell? (cI.add (k * 3))=some (.string x'.name):=(cF.cell sQ.out).trans HC.out.1;have d1: w1.cell? ⟨(cI.add (k * 3)).block,(cI.add (k * 3)).off+(0+1),none⟩=some (.int .i64 x'.aH):=(cF.cell (p:=⟨(cI.add (k * 3)).block,(cI.add (k * 3)).off+(0+1),none⟩) sQ.out).trans HC.out.2.1;have d2: w1.cell? ⟨(cI.add (k * 3)).block,(cI.add (k * 3)).off+(1+1),none⟩=some (.slice A4 n4 c4):=(cF.cell (p:=⟨(cI.add (k * 3)).block,(cI.add (k * 3)).off+(1+1),none⟩) sQ.out).trans HC.out.2.2;have dz:(cI.add (k * 3)).block<w1.heap.size:=by have:=sQ.out;omega
     clear kb ae cF)
  | (go_at_call 100;refine(there k n2 (by omega) w1 (by omega)).mono ?_;rintro e w2 ⟨rfl,rfl⟩
     rw[HT.out]))
 have rL:1<=x'.aH/\x'.aH<=40:=La.out;obtain⟨N,hN⟩:∃N:Nat,x'.aH=N:=⟨x'.aH.toNat,by omega⟩
 rw[hN] at rL |-
 have HN:=Af3 hN;clear hN d0 d1 d2;go_loopw [9,10,11,32] (fun o p q u wr=>∃i:Nat,i<=N/\u=.int .i64 i/\Hid (wr.ownsRow (w1.heap.size+1) 37 2 o (jv x' i).length ((jv x' i).flatMap Span.vs))/\Hid (Below (w1.heap.size+1) (w1.alloc (.cells #[.string x'.name,.int .i64 N,.slice A4 n4 c4] 59)) wr)) (fun _ _ _ u _=>N - (Ag7 u).toNat)
 case atStart=>exact⟨0,Agm _,rfl,Af3 ⟨by simp[jv],.inl ⟨rfl,by simp[jv]⟩⟩,Af3 (Af6 _ _)⟩
 case round=>
  obtain⟨i,hi,rfl,aG,hb⟩:=hrel;have aI:w1.heap.size+1<=wr.heap.size:=by have:=hb.out.size;simpa using this
  have nV:Hid (Below w1.heap.size w1 wr):=Af3 (((Af6 _ _).alloc (by omega) _).trans (hb.out.mono (by omega)))
  have kx:Bk wr w1.heap.size 59 #[.string x'.name,.int .i64 N,.slice A4 n4 c4]:=(Bk.new w1 _ _).below hb.out (by omega)
  have k0:=kx.cell 0;have k1:=kx.cell 1;have k2:=kx.cell 2;have kl:w1.heap.size<wr.heap.size:=kx.lt;have Ii:w1.heap.size<=wr.heap.size:=by omega
  clear kx;by_cases al:i<N
  ·have qp:i<40:=by omega
   have ql:=Tq x' i;have NX:=Af3 (ac0 x' i);have B7:Hid (∀o,Row (wr.alloc o) w.heap.size 2 Span.R (.slice A4 n4 c4) x'.cM):=Af3 fun o=>sS.out.more hB|>.still ((Still.aK (aY.out.trans (nV.out.mono (by omega))) (Ac2 _)).alloc (by omega) o) fun _ _ h=>h
   obtain⟨m,hm⟩:∃m,m=(jv x' i).length:=⟨_,rfl⟩
   rw[<-hm] at aG ql;have HM:=Af3 hm;clear hm;obtain⟨A9,c9,rfl,GX,eS,MZ⟩:=II aG.out;clear GX;unfold Af0 at MZ;by_cases Ax:lh x'.cM (i:Int) i=0
   ·have hd:(lh x'.cM (i:Int) i==0)=true:=by simpa using Ax
    have oR:Hid (jv x' (i+1)=jv x' i++ [⟨(i:Int),i⟩]):=Af3 (by rw[NX.out,if_pos Ax])
    clear Ax;go_wp2_with (first
     | (go_at_call 132;refine(met (B7.out _) (by simp;omega)).mono ?_;rintro e w2 ⟨rfl,ak⟩
        have ba:wr.heap.size<w2.heap.size:=by have:=ak.size;simp at this;omega
        have aoQ:wr.heap.size<=w2.heap.size:=by omega
        have ks:Bk w2 wr.heap.size 37 #[.int .i64 i,.int .i64 i]:=(Bk.new wr _ _).below ak (by simp)
        have s0:=ks.cell 0;have s1:=ks.cell 1;have rf:Hid (w2.ownsRow (w1.heap.size+1) 37 2 (.slice A9 m c9) m ((jv x' i).flatMap Span.vs)):=Af3 (qO (Aif aG.out _) ak (Ac2 _));have dV:=Af3 (cU hb.out ak aI);clear ak ks)
     | (at_builtin
        refine Agx _ rfl (.tmp 42) (.tmp 44) 57 rfl (w1.heap.size+1) 37 i0 (.agg #[.int .i64 0,.int .i64 0]) 2 16 (U Tryz.underlying57) HI.out.1 HI.out.2.1 HI.out.2.2.1 HI.out.2.2.2 rfl (by decide) _ _ _ rfl (Aif rf.out _) ⟨w2.heap.size,0,none⟩ 1 1 [.int .i64 i,.int .i64 i] rfl rfl ?c1 ?c2 ?c3 ?c4 ?c5 ?_
        case c1=>(intro j u hu;match j,hu with|0,hu=>(simp at hu;subst hu;simp[go_sem,Addr.add]) |1,hu=>(simp at hu;subst hu;simp[go_sem,Addr.add]))
        case c2=>simp[Value.oneCell']
        case c3=>(simp only[Af0];omega)
        case c4=>omega
        case c5=>(simp;omega)
        intro v' w3 cK dT _;have uC:=Af3 cK;have iD:=Af3 dT;clear cK dT))
    go_roundw;case rel=>exact⟨i+1,by omega,by go_num,Af3 (by rw[oR.out,Aho,Ahq,<-HM.out];exact uC.out),
     Af3 ((dV.out.trans ((Af6 _ _).alloc (by omega) _)).grown iD.out (by simp;omega) (fun k hk=>ei rf.out k hk))⟩
    case measure=>simp[Ag7];omega
   ·have hd:(lh x'.cM (i:Int) i==0)=false:=by simpa using Ax
    have oR:Hid (jv x' (i+1)=jv x' i):=Af3 (by rw[NX.out,if_neg Ax,List.append_nil])
    clear Ax;go_wp2_with (first
     | (go_at_call 132;refine(met (B7.out _) (by simp;omega)).mono ?_;rintro e w2 ⟨rfl,ak⟩
        have rf:Hid (w2.ownsRow (w1.heap.size+1) 37 2 (.slice A9 m c9) m ((jv x' i).flatMap Span.vs)):=Af3 (qO (Aif aG.out _) ak (Ac2 _));have dV:=Af3 (cU hb.out ak aI);clear ak))
    go_roundw;case rel=>exact⟨i+1,by omega,by go_num,Af3 (by rw[oR.out,<-HM.out];exact rf.out),dV⟩
    case measure=>simp[Ag7];omega
  ·obtain rfl:i=N:=by omega
   have YW:=Af3 (lu (R:=Span.R) (f:=Span.vs) (l:=jv x' i) aG.out (fun _=>rfl) (fun _ _=>rfl))
   have Hz:=acZ x' (n:=i) (by omega)
   have rJ:=Tq x' i;clear hi;go_wp2_with (first
    | (go_at_call 133;refine(join YW.out (Ac2 _) (by omega) Hz).mono ?_;rintro e w2 ⟨u,rfl,lR,ak⟩;have rf:=Af3 lR;have dV:=Af3 ak;clear lR ak))
   go_ret2
   refine⟨_,rfl,?_,?_⟩
   ·have:=rf.out.base (sV:=w.heap.size) (by omega)
    unfold GB;rw[HN.out];exact this
   ·exact aY.out.trans ((nV.out.mono (by omega)).trans (dV.out.mono (by omega)))
def vI(x:bR)(bears:Int)(N fr:Nat):Nat->Int->Int
 |0,m=>m
 |s+1,m=>if lh x.cM fr ((N:Int) - (s+1:Nat))>bears then m else vI x bears N fr s (max m ((N:Int) - (s+1:Nat) - fr+1))
def vJ(x:bR)(bears:Int)(N:Nat):Nat->Int
 |0=>0
 |fr+1=>vI x bears N fr (N - fr) (vJ x bears N fr)
def Im(x:bR)(bears:Int):Int:=vJ x bears x.aH.toNat x.aH.toNat
theorem ahi(x:bR)(bears:Int)(N fr:Nat)(hN:N<=40)(hf:fr<=N):∀(s:Nat) (m:Int),s<=N - fr->0<=m->m<=40->0<=vI x bears N fr s m/\vI x bears N fr s m<=40:=by
 intro s;induction s with
 |zero=>intro m _ h0 h1;exact⟨h0,h1⟩
 |succ s ih=>
  intro m hs h0 h1;unfold vI;split
  ·exact⟨h0,h1⟩
  ·refine ih _ (by omega) ?_ ?_<;>omega
theorem ahk(x:bR)(bears:Int)(N:Nat)(hN:N<=40):∀fr,fr<=N->0<=vJ x bears N fr/\vJ x bears N fr<=40:=by
 intro fr;induction fr with
 |zero=>intro _;exact⟨by unfold vJ;omega,by unfold vJ;omega⟩
 |succ fr ih=>
  intro h;have:=ih (by omega)
  exact ahi x bears N fr hN (by omega) _ _ (Ac2 _) this.1 this.2
theorem V0{w:Aa4}{b:ao}{k:Nat}{x:bR}{bears:Int}{pv bv tv:Value}{B:Nat}(hB:B<=w.heap.size)(ai:bg w B b pv bv tv)(h0:dF b=0)(hx:b.aF[k]?=some x)(MQ:bX bears 0 2=true):
 Af1 prog 48 #[.agg #[.int .i64 b.ag,pv,bv,tv],.int .i64 k,.int .i64 bears] w fun e w'=>e=.returned (.tuple #[.int .i64 (Im x bears),.int .i64 0])/\Below w.heap.size w w':=by
 have hv:=iy h0;have va:=hv.bp x (Agg hx);have bT:=Af3 ai;have H0:=Af3 h0;obtain⟨A1,n1,c1,rfl,-⟩:=ai.pieces.open_;obtain⟨A2,n2,c2,rfl,e2,h2,dW,r2⟩:=ai.aF.open_;obtain⟨A3,n3,c3,rfl,-⟩:=ai.aJ.open_;unfold Af0 at dW;have hk:k<n2:=by have:=(Agb.1 hx).1;omega
 obtain⟨cI,x',jQ,rfl,fV,jz,⟨kv,rfl,UY,dj⟩,-,ef⟩:=r2 k hk;obtain rfl:x'=x:=by rw[jz] at hx;exact Ac5 hx
 obtain⟨A4,n4,c4,rfl,-⟩:=dj.open_;have st:=Still.refl (B:=B) w;have b0:=cC ef st fV rfl;have b1:=bK ef st fV 0 rfl;have b2:=bK ef st fV 1 rfl;have HC:=Af3 (Afx b0 (Afx b1 b2));have sS:=Af3 dj;have D6:(if bX k 0 ((n2:Int) - 1) then(0:Int) else 6)=0:=by rw[if_pos (by unfold bX;simp;omega)]
 have HT:=Af3 D6;have sQ:Hid ((cI.add (k * 3)).block<w.heap.size):=Af3 (by rw[cq];omega)
 have La:Hid (1<=x'.aH/\x'.aH<=40):=Af3 va.aH;have F3:=Af3 MQ;clear ai e2 r2 hx jz ef dj b0 b1 b2 st hv h0 D6 va MQ;go_enter func48,Tryz.ntmps48;go_wp2_with (first
  | (go_at_call 68;refine(ry (bT.out.still ((Still.refl w).alloc hB _)) (by simp;omega) H0.out).mono ?_;rintro e w1 ⟨rfl,ae⟩
     have kb:Bk w1 w.heap.size 26 #[.int .i64 b.ag,.slice A1 n1 c1,.slice (some cI) n2 c2,.slice A3 n3 c3]:=(Bk.new w _ _).below ae (by simp)
     have b2: w1.cell? ⟨w.heap.size,2,none⟩=some (.slice (some cI) n2 c2):=kb.cell 2;have aN:w.heap.size<w1.heap.size:=kb.lt;have ba:w.heap.size<=w1.heap.size:=by omega
     have cF:=cU (Af6 _ _) ae (Ac2 _);have aY:=Af3 cF;have d0: w1.cell? (cI.add (k * 3))=some (.string x'.name):=(cF.cell sQ.out).trans HC.out.1;have d1: w1.cell? ⟨(cI.add (k * 3)).block,(cI.add (k * 3)).off+(0+1),none⟩=some (.int .i64 x'.aH):=(cF.cell (p:=⟨(cI.add (k * 3)).block,(cI.add (k * 3)).off+(0+1),none⟩) sQ.out).trans HC.out.2.1;have d2: w1.cell? ⟨(cI.add (k * 3)).block,(cI.add (k * 3)).off+(1+1),none⟩=some (.slice A4 n4 c4):=(cF.cell (p:=⟨(cI.add (k * 3)).block,(cI.add (k * 3)).off+(1+1),none⟩) sQ.out).trans HC.out.2.2;have dz:(cI.add (k * 3)).block<w1.heap.size:=by have:=sQ.out;omega
     clear kb ae cF)
  | (go_at_call 100;refine(there k n2 (by omega) w1 (by omega)).mono ?_;rintro e w2 ⟨rfl,rfl⟩
     rw[HT.out])
  | (go_at_call 134;refine(inside _ _ _ w1).mono ?_;rintro e w2 ⟨rfl,rfl⟩;rw[F3.out]))
 have rL:1<=x'.aH/\x'.aH<=40:=La.out;obtain⟨N,hN⟩:∃N:Nat,x'.aH=N:=⟨x'.aH.toNat,by omega⟩
 rw[hN] at rL |-
 have HN:=Af3 hN;clear hN d0 d1 d2;have xH:0<=bears/\bears<=2:=nJ F3.out;go_loopw [11,12,13,37] (fun m p q u wr=>∃i:Nat,i<=N/\u=.int .i64 i/\m=.int .i64 (vJ x' bears N i)/\Hid (Below (w1.heap.size+1) (w1.alloc (.cells #[.string x'.name,.int .i64 N,.slice A4 n4 c4] 59)) wr)) (fun _ _ _ u _=>N - (Ag7 u).toNat)
 case atStart=>exact⟨0,Agm _,rfl,rfl,Af3 (Af6 _ _)⟩
 case round=>
  obtain⟨wo,rfl⟩:∃wo:Aa4,wo=wr:=⟨_,rfl⟩
  obtain⟨i,hi,rfl,rfl,hb⟩:=hrel;by_cases al:i<N
  ·go_wp2
   go_step3
   go_wp2
   go_step3
   go_wp2;have HBo:Hid (Below w1.heap.size w1 wo):=Af3 (((Af6 _ _).alloc (by omega) _).trans (hb.out.mono (by omega)))
   have DN:=ahk x' bears N (by have:=rL.2;omega) i hi
   go_loopw [11,13] (fun m u wr=>∃(j:Nat) (q:Int),i<=j/\j<=N/\u=.int .i64 j/\m=.int .i64 q/\0<=q/\q<=40/\Hid (vI x' bears N i (N - j) q=vJ x' bears N (i+1))/\Hid (Below (w1.heap.size+1) (w1.alloc (.cells #[.string x'.name,.int .i64 N,.slice A4 n4 c4] 59)) wr)) (fun _ u _=>N - (Ag7 u).toNat)
   case atStart=>exact⟨i,_,Ac2 _,hi,rfl,rfl,DN.1,DN.2,Af3 rfl,hb⟩
   case round=>
    obtain⟨j,q,vo,hj,rfl,rfl,NV,tH,pb,Ai⟩:=hrel;have aI:w1.heap.size+1<=wr.heap.size:=by have:=Ai.out.size;simpa using this
    have nV:Hid (Below w1.heap.size w1 wr):=Af3 (((Af6 _ _).alloc (by omega) _).trans (Ai.out.mono (by omega)))
    have kx:Bk wr w1.heap.size 59 #[.string x'.name,.int .i64 N,.slice A4 n4 c4]:=(Bk.new w1 _ _).below Ai.out (by omega)
    have k0:=kx.cell 0;have k1:=kx.cell 1;have k2:=kx.cell 2;have kl:w1.heap.size<wr.heap.size:=kx.lt;have Ii:w1.heap.size<=wr.heap.size:=by omega
    clear kx;by_cases nE:j<N
    ·have B7:Hid (Row wr w.heap.size 2 Span.R (.slice A4 n4 c4) x'.cM):=Af3 (sS.out.more hB|>.still (Still.aK (aY.out.trans (nV.out.mono (by omega))) (Ac2 _)) fun _ _ h=>h)
     obtain⟨M,hM⟩:∃M,M=lh x'.cM (i:Int) j:=⟨_,rfl⟩
     have HM:=Af3 hM;clear hM;by_cases As:M>bears
     ·go_wp2_with (first
       | (go_at_call 132;refine(met B7.out (by omega)).mono ?_;rintro e w2 ⟨rfl,ak⟩;rw[<-HM.out];have dV:=Af3 (chain Ai.out ak aI);clear ak))
      rw[Exit.noGoto_normal];go_wp2;go_roundw;case rel=>exact⟨i+1,by omega,by go_num,by
       congr 1;rw[<-pb.out];obtain⟨d,hd⟩:∃d,N - j=d+1:=⟨N - j - 1,by omega⟩
       rw[hd];unfold vI;have e:(N:Int) - ((d+1:Nat):Int)=j:=by omega
       rw[e,<-HM.out,if_pos As],dV⟩
      case measure=>simp[Ag7];omega
     ·go_wp2_with (first
       | (go_at_call 132;refine(met B7.out (by omega)).mono ?_;rintro e w2 ⟨rfl,ak⟩;rw[<-HM.out];have dV:=Af3 (chain Ai.out ak aI);clear ak))
      go_roundw;case rel=>exact⟨j+1,max q (j - i+1),by omega,by omega,by go_num,by go_num,by omega,by omega,Af3 (by
       rw[<-pb.out];obtain⟨d,hd⟩:∃d,N - j=d+1:=⟨N - j - 1,by omega⟩
       rw[hd,show N - (j+1)=d by omega]
       conv=>rhs;unfold vI
       have e:(N:Int) - ((d+1:Nat):Int)=j:=by omega
       rw[e,<-HM.out,if_neg (by omega)]),dV⟩
      case measure=>simp[Ag7];omega
    ·obtain rfl:j=N:=by omega
     go_wp2;rw[Exit.noGoto_normal];go_wp2;go_roundw;case rel=>exact⟨i+1,by omega,by go_num,by
      congr 1;rw[<-pb.out,Nat.sub_self];rfl,Ai⟩
     case measure=>simp[Ag7];omega
  ·obtain rfl:i=N:=by omega
   go_wp2
   go_ret2
   refine⟨I0 ?_ rfl,?_⟩
   ·unfold Im;rw[HN.out];rfl
   ·exact aY.out.trans (((((Af6 _ _).alloc (by omega) _).trans (hb.out.mono (by omega)))).mono (by omega))
def fK(l:List Int):an:=⟨l[0]?.getD 0,l[1]?.getD 0,l[2]?.getD 0⟩
theorem Xn:(prog.info? 3).map (fun i=>i.size)=some 1:=by rw[pB];kernel_rfl
theorem aa0(l:List Int)(h3:l.length<=3):(((#[Value.int .i64 0,.int .i64 0,.int .i64 0]:Array Value).toList.take 0++l.map (Value.int .i64)++(#[Value.int .i64 0,.int .i64 0,.int .i64 0]:Array Value).toList.drop (0+l.length)).toArray:Array Value)=#[.int .i64 (fK l).a,.int .i64 (fK l).b,.int .i64 (fK l).c]:=by
 rcases l with _| ⟨a,_| ⟨b,_| ⟨c,_| ⟨d,l⟩⟩⟩⟩
 ·simp[fK]
 ·simp[fK]
 ·simp[fK]
 ·simp[fK]
 ·simp at h3
theorem aaZ{l:List Int}{A:Option Addr}{n c B:Nat}{w W:Aa4}(hv:Row w B 1 cH (.slice A n c) l)(hB:B<=w.heap.size)(h3:l.length<=3){s:Nat}(hs:s=w.heap.size)
 (hW:W=(w.alloc (.cells #[.int .i64 0,.int .i64 0,.int .i64 0] 128)).alloc (.cells #[.int .i64 0,.int .i64 0,.int .i64 0] 128)):
 ∃W',(Builtin.copy_ #[33,33] 3 #[.slice (some ⟨s+1,0,none⟩) 3 3,.slice A n c]).run prog W=.ok (goInt n) W'/\Bk W' s 128 #[.int .i64 0,.int .i64 0,.int .i64 0]/\Bk W' (s+1) 128 #[.int .i64 (fK l).a,.int .i64 (fK l).b,.int .i64 (fK l).c]/\Below w.heap.size w W':=by
 obtain⟨A',n',c',e,hl,dX,cX,hr⟩:=hv.open_;cases e;have qh:Below w.heap.size w W:=by rw[hW];exact((Af6 _ _).alloc (Ac2 _) _).alloc (by simp) _
 have k0:Bk W s 128 #[.int .i64 0,.int .i64 0,.int .i64 0]:=by rw[hW,hs];exact(Bk.new w _ _).alloc _
 have k1:Bk W (s+1) 128 #[.int .i64 0,.int .i64 0,.int .i64 0]:=by rw[hW,hs];exact Bk.cG (by simp) _ _
 rcases Aiz n with h0|hp
 ·subst h0
  have:l=[]:=Aio hl;subst this;exact⟨W,run_copy_none W 33 33 3 3 _ _ 3 3 0 c (U Tryz.underlying33) Xn (by simp),k0,k1,qh⟩
 ·obtain⟨ad,_,_,rfl,TT,_⟩:=hr 0 hp
  have afz:∀(j:Nat) (v:Value),(l.map (Value.int .i64))[j]?=some v-> W.cell? (ad.add j)=some v:=by
   intro j v hj;rw[Aix] at hj
   obtain⟨x,hx,rfl⟩:=Option.map_eq_some_iff.1 hj;obtain⟨Cs,x',cs,e,aC,jz,rfl,-,au⟩:=hr j (by have:=(Agb.1 hx).1;omega)
   cases e;rw[hx] at jz;cases jz
   have:=au 0 _ rfl;rw[Agp,Nat.add_zero] at this;exact(qh.cell (by rw[cq];omega)).trans this
  have bz:=run_copy_row (P:=prog) W 33 33 3 3 (s+1) 0 3 3 ad n c #[.int .i64 0,.int .i64 0,.int .i64 0] 128 (l.map (Value.int .i64)) (U Tryz.underlying33) Xn k1 (by rw[Aiw,hl];exact(Nat.min_eq_left (by omega)).symm) afz (by simp;omega) (fun v hv=>by
   obtain⟨x,_,rfl⟩:=Ain.1 hv;rfl)
  refine⟨_,by rw[bz,Aiw,hl],?_,?_,?_⟩
  ·exact(setRow_other _ _ _ _ (by omega)).trans k0
  ·refine(setRow_heap _ _ _ _ _ _ k1).trans ?_
   rw[<-hl];rw[aa0 l h3]
  ·exact below_setRow qh (by omega) _
theorem ag7{l:List Int}{v:Value}{w:Aa4}{B:Nat}(hv:Row w B 1 cH v l)(hB:B<=w.heap.size)(h3:l.length<=3):
 Af1 prog 128 #[v] w fun e w'=>e=.returned (.agg #[.int .i64 (fK l).a,.int .i64 (fK l).b,.int .i64 (fK l).c])/\Below w.heap.size w w':=by
 obtain⟨A,n,c,rfl,-⟩:=hv.open_;obtain⟨W',o4,k0,k1,hb⟩:=aaZ (w:=w) hv hB h3 rfl rfl;have r0:=k1.cell 0;have r1:=k1.cell 1;have r2:=k1.cell 2;have s0:=k0.cell 0;have s1:=k0.cell 1;have s2:=k0.cell 2;have z0:=k0.frozen 0;have z1:=k0.frozen 1;have z2:=k0.frozen 2;have l0:=k0.lt;have l1:=k1.lt;have l0':w.heap.size<=W'.heap.size:=by omega
 have yB:w.heap.size+1<=W'.heap.size:=by omega
 have HB:=Af3 hb;have HK:=Af3 k0;clear hv hb k0 k1;go_enter func128,Tryz.ntmps128;go_wp2;have k3:=((HK.out.set 0 (.int .i64 (fK l).a)).set 1 (.int .i64 (fK l).b)).set 2 (.int .i64 (fK l).c);have t0:=k3.cell 0;have t1:=k3.cell 1;have t2:=k3.cell 2;simp at t0 t1 t2;have fw:=((HB.out.setCell (p:=⟨w.heap.size,0,none⟩) (Ac2 _) (.int .i64 (fK l).a)).setCell (p:=⟨w.heap.size,1,none⟩) (Ac2 _) (.int .i64 (fK l).b)).setCell (p:=⟨w.heap.size,2,none⟩) (Ac2 _) (.int .i64 (fK l).c);refine Ag1 (v:=.agg #[.int .i64 (fK l).a,.int .i64 (fK l).b,.int .i64 (fK l).c]) (by simp[results,Tryz.results128,go_sem,t0,t1,t2]) rfl ⟨rfl,fw⟩
theorem akm(w:Aa4)(a b:Int)(e:TypeId):Row (w.alloc (.cells #[.int .i64 a,.int .i64 b] e)) (w.heap.size+1) 1 cH (.slice (some ⟨w.heap.size,0,none⟩) 2 2) [a,b]:=
 yX (xs:=[a,b]) (sz:=1) (R:=cH) (oX:=[[.int .i64 a],[.int .i64 b]]) (Bk.new w _ _) (by omega) (by simp) rfl (by simp) (fun i x c hx hc=>by
  match i with
  |0=>cases hx;cases hc;exact⟨rfl,rfl⟩
  |1=>cases hx;cases hc;exact⟨rfl,rfl⟩
  |i+2=>simp at hx) (fun i c hc j u hu=>by
  match i with
  |0=>
   cases hc;match j with
   |0=>exact hu
   |j+1=>simp at hu
  |1=>
   cases hc;match j with
   |0=>exact hu
   |j+1=>simp at hu
  |i+2=>simp at hc) (c:=2) (by simp) (by omega)
theorem ahl{b:ao}{l:List Int}(h:qL b l=0):l.length=b.pieces.length/\∀n∈l,1<=n/\n<=40:=by
 unfold qL at h;split at h
 ·contradiction
 ·rename_i h1
  split at h
  ·contradiction
  ·rename_i h2
   refine⟨by simpa using h1,fun n hn=>?_⟩
   have h2:l.any (fun n=> !bX n 1 40)=false:=by simpa using h2
   have:=Aii.1 h2 n hn;exact nJ (by simpa using this)
theorem ag9{l:List Int}(h:∀n∈l,1<=n/\n<=40):(fK l).Ok:=by
 have key:∀i:Nat,0<=(l[i]?.getD 0:Int)/\(l[i]?.getD 0:Int)<=1000:=by
  intro i;cases e:l[i]? with
  |none=>exact⟨by simp,by simp⟩
  |some x=>
   have:=h x (Agg e);simp only[Option.getD_some];omega
 intro i;have k0:=key 0;have k1:=key 1;have k2:=key 2;unfold an.at fK;match i with
 |0=>exact k0
 |1=>exact k1
 |i+2=>exact k2
def fW(w:Aa4)(s:Int)(p q r:Value):Aa4:=w.alloc (Obj.cells #[.int .i64 s,p,q,r] 117)
theorem acw(w:Aa4)(s:Int)(p q r:Value):Below w.heap.size w (fW w s p q r):=(Af6 _ _).alloc (Ac2 _) _
theorem Ta{w:Aa4}{b:ao}{l:List Int}{kD:List Cut}{pv bv tv lv cv:Value}{B:Nat}(hB:B<=w.heap.size)(ai:bg w B b pv bv tv)(hl:Row w B 1 cH lv l)(hc:Row w B 2 Cut.R cv kD)(h0:dF b=0)(h:scan (fun _ s=>s) [] [qL b l,ey b kD]=0):
 Af1 prog 43 #[.agg #[.int .i64 b.ag,pv,bv,tv],lv,cv] w fun e w'=>e=.returned (.tuple #[.bool (fp b (fK l) kD),.int .i64 0])/\Below w.heap.size w w':=by
 have bT:=Af3 ai;have HL:=Af3 hl;have HC:=Af3 hc;have H0:=Af3 h0;obtain⟨A1,n1,c1,rfl,-⟩:=ai.pieces.open_;obtain⟨A2,n2,c2,rfl,-⟩:=ai.aF.open_;obtain⟨A3,n3,c3,rfl,-⟩:=ai.aJ.open_;obtain⟨A4,n4,c4,rfl,-⟩:=hl.open_;obtain⟨A5,n5,c5,rfl,-⟩:=hc.open_;obtain⟨s1,cZ⟩:∃s,s=qL b l:=⟨_,rfl⟩
 obtain⟨s2,dD⟩:∃s,s=ey b kD:=⟨_,rfl⟩
 rw[<-cZ,<-dD] at h;obtain⟨S,hS⟩:∃S,S=scan (fun _ s=>s) [] [s1,s2]:=⟨_,rfl⟩
 rw[<-hS] at h;have HS:=Af3 (Afx hS (Afx cZ dD));have hd:(S !=0)=false:=by simp[h]
 clear ai hl hc h0 hS cZ dD;go_enter func43,Tryz.ntmps43;go_wp2_with (first
  | (go_at_call 68;refine(ry (bT.out.still ((Still.refl w).alloc hB _)) (by simp;omega) H0.out).mono ?_;rintro e w1 ⟨rfl,ae⟩
     have kb:Bk w1 w.heap.size 26 #[.int .i64 b.ag,.slice A1 n1 c1,.slice A2 n2 c2,.slice A3 n3 c3]:=(Bk.new w _ _).below ae (by simp)
     have b0:=kb.cell 0;have b1:=kb.cell 1;have b2:=kb.cell 2;have b3:=kb.cell 3;have aY:=Af3 (cU (Af6 _ _) ae (Ac2 _));clear kb ae))
 have HW:=Af3 (acw w1 b.ag (.slice A1 n1 c1) (.slice A2 n2 c2) (.slice A3 n3 c3));have kw:Bk (fW w1 b.ag (.slice A1 n1 c1) (.slice A2 n2 c2) (.slice A3 n3 c3)) w1.heap.size 117 #[.int .i64 b.ag,.slice A1 n1 c1,.slice A2 n2 c2,.slice A3 n3 c3]:=Bk.new w1 _ _;have k0:=kw.cell 0;have k1:=kw.cell 1;have k2:=kw.cell 2;have k3:=kw.cell 3;have HZ:=Af3 kw.lt;change Code.wp _ _ _ _ (fW w1 b.ag (.slice A1 n1 c1) (.slice A2 n2 c2) (.slice A3 n3 c3));clear kw b0 b1 b2 b3;generalize fW w1 b.ag (.slice A1 n1 c1) (.slice A2 n2 c2) (.slice A3 n3 c3)=W3 at HW k0 k1 k2 k3 HZ |-
 have wO:Hid (Below (w1.heap.size+1) W3 W3.drew):=Af3 (iY (Af6 _ _));have hle:B<=w1.heap.size:=by have:=aY.out.size;omega
 have CL:Hid (∀w',Below (w1.heap.size+1) W3 w'->Af1 prog 127 #[.agg #[.int .i64 b.ag,.slice A1 n1 c1,.slice A2 n2 c2,.slice A3 n3 c3],.slice A4 n4 c4] w' fun e bq=>e=.returned (.int .i64 s1)/\Below (w1.heap.size+1) W3 bq):=Af3 fun w' hw=>by
  have st:Still B w w':=(Still.aK aY.out hB).trans ((Still.aK HW.out hle).trans (Still.aK hw (by omega)))
  have aI:=hw.size;have:=HZ.out;refine(ahh (B:=B) (bT.out.still st) (HL.out.still st fun _ _ h=>h) (by omega)).mono ?_
  rintro e bq ⟨rfl,hb⟩;exact⟨aX HS.out.2.1.symm,hw.trans (hb.mono (by omega))⟩
 have CC:Hid (∀w',Below (w1.heap.size+1) W3 w'->Af1 prog 109 #[.agg #[.int .i64 b.ag,.slice A1 n1 c1,.slice A2 n2 c2,.slice A3 n3 c3],.slice A5 n5 c5] w' fun e bq=>e=.returned (.int .i64 s2)/\Below (w1.heap.size+1) W3 bq):=Af3 fun w' hw=>by
  have st:Still B w w':=(Still.aK aY.out hB).trans ((Still.aK HW.out hle).trans (Still.aK hw (by omega)))
  have aI:=hw.size;have:=HZ.out;refine(LX (B:=B) (bT.out.still st) (HC.out.still st fun _ _ h=>h) (by omega)).mono ?_
  rintro e bq ⟨rfl,hb⟩;exact⟨aX HS.out.2.2.symm,hw.trans (hb.mono (by omega))⟩
 have CE:∀ {w':Aa4} {j:Nat} {v:Value},Below (w1.heap.size+1) W3 w'-> W3.cell? ⟨w1.heap.size,j,none⟩=some v-> w'.cell? ⟨w1.heap.size,j,none⟩=some v:=fun hb hv=>(hb.cell (Nat.lt_succ_self _)).trans hv
 have AL:∀ {w':Aa4},Below (w1.heap.size+1) W3 w'->∀o,Below (w1.heap.size+1) W3 (w'.alloc o):=fun hb o=>hb.alloc (by have:=hb.size;have:=HZ.out;omega) o
 go_region_held3 (fun w'=> w'.cell? ⟨w1.heap.size,0,none⟩=some (.int .i64 b.ag)/\ w'.cell? ⟨w1.heap.size,1,none⟩=some (.slice A1 n1 c1)/\ w'.cell? ⟨w1.heap.size,2,none⟩=some (.slice A2 n2 c2)/\ w'.cell? ⟨w1.heap.size,3,none⟩=some (.slice A3 n3 c3)/\Hid (Below (w1.heap.size+1) W3 w'))
  (first|exact⟨k0,k1,k2,k3,wO⟩ |exact⟨CE oQ.out k0,CE oQ.out k1,CE oQ.out k2,CE oQ.out k3,oQ⟩ |exact⟨CE ng.out k0,CE ng.out k1,CE ng.out k2,CE ng.out k3,ng⟩ |exact⟨CE (AL oQ.out _) k0,CE (AL oQ.out _) k1,CE (AL oQ.out _) k2,CE (AL oQ.out _) k3,Af3 (AL oQ.out _)⟩ |exact⟨CE (AL ng.out _) k0,CE (AL ng.out _) k1,CE (AL ng.out _) k2,CE (AL ng.out _) k3,Af3 (AL ng.out _)⟩)
  (first
    | (go_at_call 127
       refine(CL.out _ ?hx).mono ?_
       case hx=>first|exact oQ.out|exact wO.out
       rintro e w4 ⟨rfl,cO⟩;have ng:=Af3 cO;clear cO)
    | (go_at_call 109
       refine(CC.out _ ?hx).mono ?_
       case hx=>first|exact ng.out|exact wO.out
       rintro e w5 ⟨rfl,eR⟩;have oQ:=Af3 eR;clear eR)
    | (go_at_call 126
       refine(first (akm _ _ _ _)).mono ?_
       rintro e w6 ⟨rfl,rfl⟩;rw[<-HS.out.1]))
 go_wp2;have tH:qL b l=0/\ey b kD=0:=by
  have h:=HS.out.1;have hz:(scan (fun _ s=>s) [] [s1,s2]:Int)=0:=by
   have G3:S=0:=by simpa using hd
   rw[<-h,G3]
  unfold scan at hz;split at hz
  ·contradiction
  ·rename_i h1
   unfold scan at hz;split at hz
   ·contradiction
   ·rename_i h2
    exact⟨by rw[<-HS.out.2.1];simpa using h1,by rw[<-HS.out.2.2];simpa using h2⟩
 have dh:=GI (iy H0.out) tH.2;have pb:=ahl tH.1;have Ny:=ag9 pb.2;have hv:=iy H0.out;have ij:=hv.np.2;have Au:l.length<=3:=by rw[pb.1];exact ij
 obtain⟨W5,MK⟩:∃W5,W5=w5.alloc (Obj.cells #[Value.int IntKind.i64 s1,Value.int IntKind.i64 s2] 30):=⟨_,rfl⟩
 have eR:Below (w1.heap.size+1) W3 W5:=by rw[MK];exact AL oQ.out _
 rw[<-MK];have mi:=Af3 eR;have j0:=CE eR k0;have j1:=CE eR k1;have j2:=CE eR k2;have j3:=CE eR k3;have HJ:Hid (Below (w1.heap.size+1) W3 W5.drew):=Af3 (iY eR);obtain⟨L,hL⟩:∃L,L=fK l:=⟨_,rfl⟩
 rw[<-hL] at Ny;have uB:=Af3 hL;have Yp:Hid (∀w',Below (w1.heap.size+1) W3 w'->Af1 prog 128 #[.slice A4 n4 c4] w' fun e bq=>e=.returned (.agg #[.int .i64 L.a,.int .i64 L.b,.int .i64 L.c])/\Below (w1.heap.size+1) W3 bq):=Af3 fun w' hw=>by
  have st:Still B w w':=(Still.aK aY.out hB).trans ((Still.aK HW.out hle).trans (Still.aK hw (by omega)))
  have aI:=hw.size;have:=HZ.out;refine(ag7 (B:=B) (HL.out.still st fun _ _ h=>h) (by omega) Au).mono ?_
  rintro e bq ⟨rfl,hb⟩;rw[<-uB.out];exact⟨rfl,hw.trans (hb.mono (by omega))⟩
 have CD:Hid (∀w',Below (w1.heap.size+1) W3 w'->Af1 prog 110 #[.agg #[.int .i64 b.ag,.slice A1 n1 c1,.slice A2 n2 c2,.slice A3 n3 c3],.agg #[.int .i64 L.a,.int .i64 L.b,.int .i64 L.c],.slice A5 n5 c5] w' fun e bq=>e=.returned (.bool (fp b L kD))/\Below (w1.heap.size+1) W3 bq):=Af3 fun w' hw=>by
  have st:Still B w w':=(Still.aK aY.out hB).trans ((Still.aK HW.out hle).trans (Still.aK hw (by omega)))
  have aI:=hw.size;have:=HZ.out;refine(L3 (B:=B) (bT.out.still st) (HC.out.still st fun _ _ h=>h) (by omega) dh.len dh.three dh.kD Ny dh.ag).mono ?_
  rintro e bq ⟨rfl,hb⟩;exact⟨rfl,hw.trans (hb.mono (by omega))⟩
 have KK:=Af3 (Afx k0 (Afx k1 (Afx k2 k3)));clear dh pb Ny hv ij Au MK eR k0 k1 k2 k3 tH hL;go_region_held3 (fun w'=> w'.cell? ⟨w1.heap.size,0,none⟩=some (.int .i64 b.ag)/\ w'.cell? ⟨w1.heap.size,1,none⟩=some (.slice A1 n1 c1)/\ w'.cell? ⟨w1.heap.size,2,none⟩=some (.slice A2 n2 c2)/\ w'.cell? ⟨w1.heap.size,3,none⟩=some (.slice A3 n3 c3)/\Hid (Below (w1.heap.size+1) W3 w'))
  (first|exact⟨j0,j1,j2,j3,HJ⟩ |exact⟨i0,i1,i2,i3,HI⟩ |exact⟨CE HN.out KK.out.1,CE HN.out KK.out.2.1,CE HN.out KK.out.2.2.1,CE HN.out KK.out.2.2.2,HN⟩)
  (first
    | (go_at_call 128
       refine(Yp.out _ ?hx).mono ?_
       case hx=>exact HJ.out
       rintro e w7 ⟨rfl,jx⟩;have i0:=CE jx KK.out.1;have i1:=CE jx KK.out.2.1;have i2:=CE jx KK.out.2.2.1;have i3:=CE jx KK.out.2.2.2;have HI:=Af3 jx;clear jx)
    | (go_at_call 110
       refine(CD.out _ ?hx).mono ?_
       case hx=>exact HI.out
       rintro e w8 ⟨rfl,Ah⟩;have HN:=Af3 Ah;clear Ah))
 go_wp2
 go_ret2
 exact⟨by rw[uB.out];rfl,aY.out.trans ((HW.out.mono (by have:=aY.out.size;omega)).trans (HN.out.mono (by have:=aY.out.size;omega)))⟩
theorem bg.more{w:Aa4}{B B':Nat}{b:ao}{pv bv tv:Value}(h:bg w B b pv bv tv)(hB:B<=B'):bg w B' b pv bv tv:=
 ⟨h.pieces.more hB,(h.aF.more hB).still (Still.refl w) fun _ _ ⟨kv,e1,e2,e3⟩=>⟨kv,e1,e2,e3.more hB⟩,(h.aJ.more hB).still (Still.refl w) fun _ _ ⟨pv,e1,e3⟩=>⟨pv,e1,e3.more hB⟩⟩
theorem RA{b:ao}{l:List Cut}{pv bv tv lv:Value}{w:Aa4}{B g:Nat}(hB:B<=w.heap.size)(ai:bg w B b pv bv tv)(hl:Row w B 2 Cut.R lv l)(hg:Bk w g 27 #[lv]):sK b pv bv tv w 113 #[.pointer (some ⟨g,0,none⟩)] (ey b l):=by
 have bT:=Af3 ai;have HL:=Af3 hl;refine⟨call113,fun _ W hW=>?_⟩
 have k7:=hg.lt;obtain⟨A,n,c,rfl,-⟩:=hl.open_;have g0: W.cell? ⟨g,0,none⟩=some (.slice A n c):=(hg.below hW k7).cell 0;have hz:g<W.heap.size:=by have:=hW.size;omega
 have Vs:g<=W.heap.size:=by omega
 have sW:Still B w W:=Still.aK hW hB;have TL:B<=W.heap.size:=by have:=hW.size;omega
 obtain⟨A1,n1,c1,rfl,-⟩:=ai.pieces.open_;obtain⟨A2,n2,c2,rfl,-⟩:=ai.aF.open_;obtain⟨A3,n3,c3,rfl,-⟩:=ai.aJ.open_;have call:=LX (w:=W.alloc (.cells #[.int .i64 b.ag,.slice A1 n1 c1,.slice A2 n2 c2,.slice A3 n3 c3] 117)) (B:=B) (bT.out.still (sW.alloc TL _)) (HL.out.still (sW.alloc TL _) fun _ _ h=>h) (by simp;omega)
 have aB:=Af3 call;clear ai hl hW hg sW call;refine app1 ?_
 go_enter func113,Tryz.ntmps113;go_wp2_with (first
  | (go_at_call 109;refine aB.out.mono ?_;rintro e w1 ⟨rfl,ae⟩))
 go_ret;exact⟨aX rfl,cU (Af6 _ _) ae (Ac2 _)⟩
def FF(b:ao)(G:an)(l:List Cut)(out:List Int)(i:Nat):List Int:=match l[i]? with
 |some c=>out.set c.bp.toNat (min (out[c.bp.toNat]?.getD 0) ((mJ b c.bp.toNat:Int) - c.from_ - G.at i))
 |none=>out
def mS(b:ao)(l:List Cut)(n:Nat):List Int:=(Af9 n).foldl (FF b (cz (aD b)) l) (b.aF.map (·.aH))
theorem alB(b:ao)(G:an)(l:List Cut)(out:List Int)(i:Nat):(FF b G l out i).length=out.length:=by
 unfold FF;split<;>simp
theorem Xt(b:ao)(l:List Cut)(n:Nat):mS b l (n+1)=FF b (cz (aD b)) l (mS b l n) n:=by
 unfold mS;rw[Air,List.foldl_append];rfl
theorem Xs(b:ao)(l:List Cut)(n:Nat):(mS b l n).length=b.aF.length:=by
 induction n with
 |zero=>simp[mS]
 |succ n ih=>rw[Xt,alB,ih]
theorem agx{w3 wq:Aa4}{g:Nat}(h:w3.heap.size<wq.heap.size)(hg:g<w3.heap.size):g<wq.heap.size:=by omega
def BB(b:ao)(l:List Cut):List Int:=mS b l l.length
theorem alD{w:Aa4}{b:ao}{l:List Cut}{pv bv tv lv:Value}{B:Nat}(hB:B<=w.heap.size)(ai:bg w B b pv bv tv)(hl:Row w B 2 Cut.R lv l)(h:cj b (ey b l)=0)(D4:FJ b (aD b) l=true):
 Af1 prog 31 #[.agg #[.int .i64 b.ag,pv,bv,tv],lv] w fun e w'=>∃v,e=.returned (.tuple #[v,.int .i64 0])/\w'.ownsRow w.heap.size 3 1 v (BB b l).length ((BB b l).map (Value.int .i64))/\Below w.heap.size w w':=by
 have st:Still B w ((w.alloc (.cells #[.int .i64 b.ag,pv,bv,tv] 26)).alloc (.cells #[lv] 27)):=((Still.refl w).alloc hB _).alloc (by simp;omega) _
 have aB:=Af3 (yL (w:=((w.alloc (.cells #[.int .i64 b.ag,pv,bv,tv] 26)).alloc (.cells #[lv] 27))) (B:=B) (by simp;omega) (ai.still st) (RA (by simp;omega) (ai.still st) (hl.still st fun _ _ h=>h) (Bk.cG (g:=w.heap.size+1) (by simp) _ _)) h)
 have hz:=pq h;have hv:=iy hz.1;have OK:=Af3 (Afx (GI hv hz.2.1) (uG hv));have bT:=Af3 ai;have uB:=Af3 hl;have HV:=Af3 hv;have lQ:b.aF.length<=3:=hv.nb;have KZ:=Af3 D4;obtain⟨i0,cR,cT,aN,ba⟩:=info_parts Oo;have bI:=Af3 (Afx cR (Afx cT (Afx aN ba)));obtain⟨A1,n1,c1,rfl,-⟩:=ai.pieces.open_;obtain⟨A2,n2,c2,rfl,e2,h2,dW,r2⟩:=ai.aF.open_;obtain⟨A3,n3,c3,rfl,-⟩:=ai.aJ.open_;obtain⟨A,n,c,rfl,e5,h5,GW,r5⟩:=hl.open_;have R2:=Af3 r2;have R5:=Af3 r5;have wJ:=Af3 (Afx e2 e5);unfold Af0 at dW GW;have UT:n2<=3:=by omega
 clear ai hl st hz hv h cR cT aN ba r2 r5 e2 e5 D4 lQ;go_enter func31,Tryz.ntmps31;go_wp2_with (first
  | (go_at_call 98;refine aB.out.mono ?_;rintro e w1 ⟨sv,rfl,aG,ae⟩
     obtain⟨A9,n9,c9,rfl,cY,nG,eS,iN⟩:=aG.row.open_;have HO:=Af3 aG;have kb:Hid (Bk w1 w.heap.size 26 #[.int .i64 b.ag,.slice A1 n1 c1,.slice A2 n2 c2,.slice A3 n3 c3]):=Af3 (((Bk.new w _ _).alloc _).below ae (by simp;omega))
     have kl:Hid (Bk w1 (w.heap.size+1) 27 #[.slice A n c]):=Af3 ((Bk.cG (by simp) _ _).below ae (by simp))
     have aN:w.heap.size+2<=w1.heap.size:=by have:=ae.size;simpa using this
     have afU:w.heap.size+1<w1.heap.size:=by omega
     have afV:w.heap.size+1<=w1.heap.size:=by omega
     have l0:=kl.out.cell 0;have cF:Below w.heap.size w w1:=((((Af6 _ _).alloc (Ac2 _) _).alloc (by simp) _).trans (ae.mono (by simp;omega)))
     have aY:=Af3 cF;have Lf:Hid (Af1 prog 114 #[.agg #[.int .i64 b.ag,.slice A1 n1 c1,.slice A2 n2 c2,.slice A3 n3 c3,.slice A9 n9 c9],.slice A n c] (w1.alloc (.cells #[.int .i64 b.ag,.slice A1 n1 c1,.slice A2 n2 c2,.slice A3 n3 c3,.slice A9 n9 c9] 122)) fun e w'=>e=.returned (.bool true)/\Below (w1.heap.size+1) (w1.alloc (.cells #[.int .i64 b.ag,.slice A1 n1 c1,.slice A2 n2 c2,.slice A3 n3 c3,.slice A9 n9 c9] 122)) w'):=Af3 (by
      have uf:Still B w (w1.alloc (.cells #[.int .i64 b.ag,.slice A1 n1 c1,.slice A2 n2 c2,.slice A3 n3 c3,.slice A9 n9 c9] 122)):=(Still.aK cF hB).alloc (by omega) _
      refine(XH (B:=w1.heap.size) (ps:=aD b) (b:=b) (l:=l) ((bT.out.still uf).more (by omega)) (aG.row.still ((Still.refl w1).alloc (Ac2 _) _) fun _ _ h=>h) ((uB.out.still uf fun _ _ h=>h).more (by omega)) (by simp) OK.out.1 OK.out.2).mono ?_
      rintro e w' ⟨rfl,hb⟩;rw[KZ.out];exact⟨rfl,hb.mono (by simp)⟩)
     clear ae aG cY iN cF)
  | (go_at_call 114
     refine Lf.out.mono ?_
     rintro e w2 ⟨rfl,ak⟩;have kf:Bk w2 w1.heap.size 122 #[.int .i64 b.ag,.slice A1 n1 c1,.slice A2 n2 c2,.slice A3 n3 c3,.slice A9 n9 c9]:=(Bk.new w1 _ _).below ak (by omega)
     have KF:=Af3 kf;have xI:Below w1.heap.size w1 w2:=((Af6 _ _).alloc (by omega) _).trans (ak.mono (by omega))
     have dV:=Af3 xI;have ba:w1.heap.size+1<=w2.heap.size:=kf.lt;have mH:=kb.out.below xI (by omega)
     have b2: w2.cell? ⟨w.heap.size,2,none⟩=some (.slice A2 n2 c2):=mH.cell 2;have jB:w.heap.size<w2.heap.size:=by omega
     have Vt:w.heap.size<=w2.heap.size:=by omega
     clear kf mH ak xI l0))
 go_loopw [8,10,32] (fun o p u wr=>∃i:Nat,i<=n2/\u=.int .i64 i/\Hid (wr.ownsRow w2.heap.size 3 1 o i ((b.aF.take i).map fun x=>.int .i64 x.aH))/\Hid (Below w2.heap.size w2 wr)) (fun _ _ u _=>n2 - (Ag7 u).toNat)
 case atStart=>exact⟨0,Agm _,rfl,Af3 ⟨by simp,.inl ⟨rfl,rfl⟩⟩,Af3 (Af6 _ _)⟩
 case round=>
  obtain⟨i,hi,rfl,Ga,hb⟩:=hrel;have aI:=hb.out.size;have st:Still B w wr:=(Still.aK aY.out hB).trans (Still.aK (dV.out.trans (hb.out.mono (by omega))) (by omega))
  by_cases al:i<n2
  ·obtain⟨ad,x,cs,rfl,aC,hx,⟨kv,rfl,dH,dj⟩,-,au⟩:=R2.out i al
   obtain⟨A6,n6,c6,rfl,-⟩:=dj.open_;have g0:=cC au st aC rfl;have g1:=bK au st aC 0 rfl;have g2:=bK au st aC 1 rfl;have xD:(ad.add (i * 3)).block<wr.heap.size:=by rw[cq];omega
   have HX:=Af3 hx;clear hx au dj st;go_wp2_with (first
    | (at_builtin
       refine Agx _ rfl (.tmp 36) (.tmp 39) 33 rfl w2.heap.size 3 i0 (.int .i64 0) 1 8 (U Tryz.underlying33) bI.out.1 bI.out.2.1 bI.out.2.2.1 bI.out.2.2.2 rfl (by decide) _ i _ rfl ((Ga.out.alloc _).alloc _) ⟨wr.heap.size+1,0,none⟩ 1 1 [.int .i64 x.aH] rfl rfl ?c1 ?c2 ?c3 ?c4 ?c5 ?_
       case c1=>(intro j u hu;match j,hu with|0,hu=>(simp at hu;subst hu;simp[go_sem,Addr.add]))
       case c2=>simp[Value.oneCell']
       case c3=>(simp only[Af0];omega)
       case c4=>omega
       case c5=>(simp;omega)
       intro v' w3 cK dT _;have gW:=Af3 cK;have gV:=Af3 dT;clear cK dT))
   go_roundw;case rel=>exact⟨i+1,by omega,by go_num,Af3 (by rw[oJ HX.out,List.map_append];exact gW.out),
    Af3 ((hb.out.trans (((Af6 _ _).alloc aI _).alloc (by simp;omega) _)).grown gV.out (by simp;omega) (fun k hk=>ei Ga.out k hk))⟩
   case measure=>simp[Ag7];omega
  ·obtain rfl:i=n2:=by omega
   have vq:((b.aF.take i).map fun x=>Value.int .i64 x.aH)=(mS b l 0).map (Value.int .i64):=by
    rw[Agf (Nat.le_of_eq wJ.out.1)];simp[mS]
   have YQ:Hid (wr.ownsRow w2.heap.size 3 1 u8 i ((mS b l 0).map (Value.int .i64))):=Af3 (vq▸Ga.out);have ux:Hid (Below w1.heap.size w1 wr):=Af3 (dV.out.trans (hb.out.mono (by omega)))
   have AU:Bk wr w1.heap.size 122 #[.int .i64 b.ag,.slice A1 n1 c1,.slice A2 i c2,.slice A3 n3 c3,.slice A9 n9 c9]:=KF.out.below hb.out (by omega)
   have f0:=AU.cell 0;have f1:=AU.cell 1;have f2:=AU.cell 2;have f3:=AU.cell 3;have f4:=AU.cell 4;have GR:=Af3 (TC (w:=wr) (B:=w1.heap.size) (s:=b.ag) (ps:=aD b) (pv:=.slice A1 n1 c1) (bv:=.slice A2 i c2) (tv:=.slice A3 n3 c3) (HO.out.row.still (Still.aK ux.out (Ac2 _)) fun _ _ h=>h) (by omega) ⟨_,_,_,rfl⟩ ⟨_,_,_,rfl⟩ ⟨_,_,_,rfl⟩)
   obtain⟨G,hG⟩:∃G,G=cz (aD b):=⟨_,rfl⟩
   rw[<-hG] at GR;unfold an.cs at GR;have HG:=Af3 hG;clear hG vq Ga AU;go_wp2_with (first
    | (go_at_call 115
       refine GR.out.mono ?_
       rintro e w3 ⟨rfl,bD⟩;have MN:Below w2.heap.size w2 w3:=hb.out.trans (bD.mono (by omega))
       have wN:=Af3 MN;have VP:Bk w3 (w.heap.size+1) 27 #[.slice A n c]:=kl.out.below (dV.out.trans (MN.mono (by omega))) (by omega)
       have l0:=VP.cell 0;have vG:wr.heap.size<=w3.heap.size:=bD.size;have hz5:w.heap.size+1<w3.heap.size:=by omega
       have aoR:w.heap.size+1<=w3.heap.size:=by omega
       have uC:Hid (w3.ownsRow w2.heap.size 3 1 u8 i ((mS b l 0).map (Value.int .i64))):=Af3 (qO YQ.out bD (Ac2 _));clear bD MN VP f0 f1 f2 f3 f4))
   obtain⟨A8,c8,rfl,hA8,hc8,ad7⟩:=II uC.out;unfold Af0 at ad7;go_loopw [12,13,46] (fun p q u wq=>∃j:Nat,j<=n/\u=.int .i64 j/\Hid (wq.ownsRow w2.heap.size 3 1 (.slice A8 i c8) i ((mS b l j).map (Value.int .i64)))/\Hid (Below w2.heap.size w2 wq)/\Hid (Bk wq w3.heap.size 128 #[.int .i64 G.a,.int .i64 G.b,.int .i64 G.c])) (fun _ _ u _=>n - (Ag7 u).toNat)
   case atStart=>exact⟨0,Agm _,rfl,Af3 (uC.out.alloc _),Af3 (wN.out.alloc (by have:=wN.out.size;omega) _),Af3 (Bk.new w3 _ _)⟩
   case round=>
    obtain⟨wq,rfl⟩:∃wq:Aa4,wq=wr:=⟨_,rfl⟩
    obtain⟨j,hj,rfl,F9,Dp,Hl⟩:=hrel;have aoM:=Dp.out.size;have Hp:=Hl.out.lt;by_cases al:j<n
    ·obtain⟨ad,x,cs,rfl,aC,hx,rfl,-,au⟩:=R5.out j al
     obtain⟨bd,fr⟩:=x;have ID:=OK.out.1.kD j _ hx;obtain⟨k,hk,da⟩:=ID.bp;obtain rfl:bd=(k:Int):=hk;have b7:0<=fr/\fr<=40:=ID.from_;have qu:k<i:=by have:=wJ.out.1;omega
     have DE:j<3:=by have:=OK.out.1.len;have:=OK.out.1.three;have:=wJ.out.2;omega
     have Us:(j:Int)<3:=by omega
     obtain⟨g8,rfl,Nn,aeB,anP,aei⟩:=hA8 (by omega)
     obtain⟨Rs,xb,csb,eb,TT,Oi,⟨kvb,rfl,aoE,aeU⟩,-,T5⟩:=R2.out k qu;subst eb;have aor:(mS b l j).length=i:=by rw[Xs];exact wJ.out.1
     obtain⟨ov,vv⟩:∃ov,(mS b l j)[k]?=some ov:=⟨_,Aga (by omega)⟩
     have st:Still B w wq:=(Still.aK aY.out hB).trans (Still.aK (dV.out.trans (Dp.out.mono (by omega))) (by omega))
     have h0:=cC au st aC rfl;have h1:=bK au st aC 0 rfl;have q1:=bK T5 st TT 0 rfl;have o1: wq.cell? ⟨g8,k,none⟩=some (.int .i64 ov):=by
      have:=vT F9.out k (.int .i64 ov) (by rw[Aix,vv];rfl)
      rwa[nu] at this
     have z1: wq.frozen? ⟨g8,k,none⟩=false:=by
      obtain⟨_,_,e,h,_⟩:=II F9.out;obtain⟨g,e2,_,_,cur,hc⟩:=h (by omega)
      cases e;cases e2;rw[Go.Sim.xm (a:=⟨g8,k,none⟩) hc];rfl
     have VN:=kb.out.below (dV.out.trans (Dp.out.mono (by omega))) (by omega)
     have b2: wq.cell? ⟨w.heap.size,2,none⟩=some (.slice (some Rs) i c2):=VN.cell 2;have gj: wq.cell? ⟨w3.heap.size,j,none⟩=some (.int .i64 (G.at j)):=(Hl.out.cell j).trans (an.uR (n:=G) DE);have UP:mJ b k=xb.aH.toNat:=by unfold mJ;rw[Oi]
     have Eg:=(HV.out.bp xb (Agg Oi)).aH;have hGa:=(TE (aD b) OK.out.2) j;rw[<-HG.out] at hGa;have NX:Hid (mS b l (j+1)=(mS b l j).set k (min ov (xb.aH - fr - G.at j))):=Af3 (by
      rw[Xt];unfold FF;rw[hx,<-HG.out];simp only[Int.toNat_natCast,vv,Option.getD_some,UP];rw[Int.toNat_of_nonneg (by omega)])
     have y0:g8<wq.heap.size:=by have:=wN.out.size;exact agx (w3:=w3) Hl.out.lt aeB
     have y1:w.heap.size<wq.heap.size:=by omega
     have y2:w.heap.size<=wq.heap.size:=by omega
     have y3:w3.heap.size<=wq.heap.size:=by omega
     have y4:(Rs.add (k * 3)).block<wq.heap.size:=by rw[cq];omega
     have y5:(ad.add (j * 2)).block<wq.heap.size:=by rw[cq];omega
     have y6:g8<=wq.heap.size:=by omega
     have aop:(k:Int)<i:=by omega
     clear hx au ID Oi T5 aeU vv VN st aei UP;go_wp2;refine ua 24 (by kernel_rfl) (by kernel_rfl) ?_
     simp only[Agi,Agj,Agk,Agl];repeat still_step
     refine wpStill_nil ?_
     go_wp2;go_roundw;case rel=>exact⟨j+1,by omega,by go_num,Af3 (by
      rw[NX.out,List.map_set];exact(IG (u:=.int .i64 (min ov (xb.aH - fr - G.at j))) F9.out (by omega)).alloc _),
      Af3 (iY ((Dp.out.setCell (p:=⟨g8,k,none⟩) Nn _).alloc (by simp[World.setCell];omega) _)),Af3 (Bk.alloc (Hl.out.dn (by simp;omega) _) _)⟩
     case measure=>simp[Ag7];omega
    ·obtain rfl:j=n:=by omega
     go_wp2
     go_ret2
     refine⟨_,rfl,?_,?_⟩
     ·have rJ:(BB b l).length=i:=by unfold BB;rw[Xs];exact wJ.out.1
      rw[rJ];unfold BB;rw[wJ.out.2];exact F9.out.base (by omega)
     ·exact aY.out.trans ((dV.out.mono (by omega)).trans (Dp.out.mono (by omega)))
theorem alC{w:Aa4}{b:ao}{l:List Cut}{pv bv tv lv:Value}{B:Nat}(hB:B<=w.heap.size)(ai:bg w B b pv bv tv)(hl:Row w B 2 Cut.R lv l)(h:cj b (ey b l)=0)(D4:FJ b (aD b) l=false):
 Af1 prog 31 #[.agg #[.int .i64 b.ag,pv,bv,tv],lv] w fun e w'=>e=.returned (.tuple #[.slice none 0 0,.int .i64 8])/\Below w.heap.size w w':=by
 have st:Still B w ((w.alloc (.cells #[.int .i64 b.ag,pv,bv,tv] 26)).alloc (.cells #[lv] 27)):=((Still.refl w).alloc hB _).alloc (by simp;omega) _
 have aB:=Af3 (yL (w:=((w.alloc (.cells #[.int .i64 b.ag,pv,bv,tv] 26)).alloc (.cells #[lv] 27))) (B:=B) (by simp;omega) (ai.still st) (RA (by simp;omega) (ai.still st) (hl.still st fun _ _ h=>h) (Bk.cG (g:=w.heap.size+1) (by simp) _ _)) h)
 have hz:=pq h;have hv:=iy hz.1;have OK:=Af3 (Afx (GI hv hz.2.1) (uG hv));have bT:=Af3 ai;have uB:=Af3 hl;have HV:=Af3 hv;have lQ:b.aF.length<=3:=hv.nb;have KZ:=Af3 D4;obtain⟨A1,n1,c1,rfl,-⟩:=ai.pieces.open_;obtain⟨A2,n2,c2,rfl,e2,h2,dW,r2⟩:=ai.aF.open_;obtain⟨A3,n3,c3,rfl,-⟩:=ai.aJ.open_;obtain⟨A,n,c,rfl,e5,h5,GW,r5⟩:=hl.open_;have R2:=Af3 r2;have R5:=Af3 r5;have wJ:=Af3 (Afx e2 e5);unfold Af0 at dW GW;have UT:n2<=3:=by omega
 clear ai hl st hz hv h r2 r5 e2 e5 D4 lQ;go_enter func31,Tryz.ntmps31;go_wp2_with (first
  | (go_at_call 98;refine aB.out.mono ?_;rintro e w1 ⟨sv,rfl,aG,ae⟩
     obtain⟨A9,n9,c9,rfl,cY,nG,eS,iN⟩:=aG.row.open_;have HO:=Af3 aG;have kb:Hid (Bk w1 w.heap.size 26 #[.int .i64 b.ag,.slice A1 n1 c1,.slice A2 n2 c2,.slice A3 n3 c3]):=Af3 (((Bk.new w _ _).alloc _).below ae (by simp;omega))
     have kl:Hid (Bk w1 (w.heap.size+1) 27 #[.slice A n c]):=Af3 ((Bk.cG (by simp) _ _).below ae (by simp))
     have aN:w.heap.size+2<=w1.heap.size:=by have:=ae.size;simpa using this
     have afU:w.heap.size+1<w1.heap.size:=by omega
     have afV:w.heap.size+1<=w1.heap.size:=by omega
     have l0:=kl.out.cell 0;have cF:Below w.heap.size w w1:=((((Af6 _ _).alloc (Ac2 _) _).alloc (by simp) _).trans (ae.mono (by simp;omega)))
     have aY:=Af3 cF;have Lf:Hid (Af1 prog 114 #[.agg #[.int .i64 b.ag,.slice A1 n1 c1,.slice A2 n2 c2,.slice A3 n3 c3,.slice A9 n9 c9],.slice A n c] (w1.alloc (.cells #[.int .i64 b.ag,.slice A1 n1 c1,.slice A2 n2 c2,.slice A3 n3 c3,.slice A9 n9 c9] 122)) fun e w'=>e=.returned (.bool false)/\Below (w1.heap.size+1) (w1.alloc (.cells #[.int .i64 b.ag,.slice A1 n1 c1,.slice A2 n2 c2,.slice A3 n3 c3,.slice A9 n9 c9] 122)) w'):=Af3 (by
      have uf:Still B w (w1.alloc (.cells #[.int .i64 b.ag,.slice A1 n1 c1,.slice A2 n2 c2,.slice A3 n3 c3,.slice A9 n9 c9] 122)):=(Still.aK cF hB).alloc (by omega) _
      refine(XH (B:=w1.heap.size) (ps:=aD b) (b:=b) (l:=l) ((bT.out.still uf).more (by omega)) (aG.row.still ((Still.refl w1).alloc (Ac2 _) _) fun _ _ h=>h) ((uB.out.still uf fun _ _ h=>h).more (by omega)) (by simp) OK.out.1 OK.out.2).mono ?_
      rintro e w' ⟨rfl,hb⟩;rw[KZ.out];exact⟨rfl,hb.mono (by simp)⟩)
     clear ae aG cY iN cF)
  | (go_at_call 114
     refine Lf.out.mono ?_
     rintro e w2 ⟨rfl,ak⟩;have kf:Bk w2 w1.heap.size 122 #[.int .i64 b.ag,.slice A1 n1 c1,.slice A2 n2 c2,.slice A3 n3 c3,.slice A9 n9 c9]:=(Bk.new w1 _ _).below ak (by omega)
     have KF:=Af3 kf;have xI:Below w1.heap.size w1 w2:=((Af6 _ _).alloc (by omega) _).trans (ak.mono (by omega))
     have dV:=Af3 xI;have ba:w1.heap.size+1<=w2.heap.size:=kf.lt;have mH:=kb.out.below xI (by omega)
     have b2: w2.cell? ⟨w.heap.size,2,none⟩=some (.slice A2 n2 c2):=mH.cell 2;have jB:w.heap.size<w2.heap.size:=by omega
     have Vt:w.heap.size<=w2.heap.size:=by omega
     clear kf mH ak xI l0))
 go_ret2
 exact⟨rfl,aY.out.trans (dV.out.mono (by omega))⟩
def oN(w:Aa4)(g n:Nat)(xs:List Int):Prop:=
 ∃D:DataW Nat,w.ownsMap prog 3 (plainElem prog 3) g n D/\Maps.IsMap D/\∀x:Int,lI x->D.atKey (.int .i64 x) (.lit (.int .i64 0))=.lit (.int .i64 (xs.count x:Nat))
theorem Jm:prog.underlying 3=some (.int .i64):=(U Tryz.underlying3).trans rfl
theorem XV:prog.underlying 174=some (.map 3 3):=(U Tryz.underlying174).trans rfl
theorem OH{a:Int}(h:lI a):keyOf prog 3 (.int .i64 a)=some (.int .i64 a):=Maps.keyOf_int_mk Jm (BJ h)
theorem anq(W:Aa4):(zeroValue 3).run prog W=.ok (.int .i64 0) W:=by rw[Qb];kernel_rfl
theorem OJ:Maps.Keyed prog 3:=Maps.int_keyed Jm
theorem oN.kept{w w':Aa4}{g n:Nat}{xs:List Int}{row:Option Nat}(h:oN w g n xs)(hg:w.grownBy w' row)(aw:some g≠row):oN w' g n xs:=by
 obtain⟨D,h1,h2,h3⟩:=h;exact⟨D,h1.kept hg aw,h2,h3⟩
theorem oN.lt{w:Aa4}{g n:Nat}{xs:List Int}(h:oN w g n xs):g<w.heap.size:=by obtain⟨D,h1,_⟩:=h;exact h1.lt
theorem oN.made(w:Aa4):oN (w.alloc (.map #[] 0)) w.heap.size 0 []:=
 ⟨.map [],World.ownsMap_made w prog 3 _,⟨_,rfl⟩,fun x _=>rfl⟩
theorem Yd{ops:Array Oper}{rest:List Oper}{o:Oper}{a:Act}{w:Aa4}{Q:Exit->Act->Aa4->Prop}(hg:o.guard=none)(m x:Operand)(ab:o.op=Op.lookup 174 m x false)
 (g n:Nat)(xs:List Int)(k:Int)(hk:lI k)(hm:a.eval m=.map (some g))(hx:a.eval x=.int .i64 k)(h:oN w g n xs)
 (hK:wpList prog ops Q rest (a.put o.dst (.int .i64 (xs.count k:Nat))) w):wpList prog ops Q (o::rest) a w:=by
 obtain⟨D,h1,h2,h3⟩:=h;refine wpList_lookup_own_int w hg m x 174 ab 3 3 .i64 OJ XV Jm (anq w) g n D hm h1 _ _ hx (OH hk) ?_
 intro c ou _;rw[h3 k hk] at ou;injection ou with ou;injection ou with _ ou
 rw[<-ou];exact hK
theorem ane{ops:Array Oper}{rest:List Oper}{o:Oper}{a:Act}{w:Aa4}{Q:Exit->Act->Aa4->Prop}(hg:o.guard=none)(m x v:Operand)(ab:o.op=Op.mapUpdate 174 m x v)
 (g n:Nat)(xs:List Int)(k:Int)(hk:lI k)(hn:n<Af0)(hc:xs.count k+1<=Af0)(hm:a.eval m=.map (some g))(hx:a.eval x=.int .i64 k)(hv:a.eval v=.int .i64 ((xs.count k:Nat)+1))(h:oN w g n xs)
 (hK:∀w',oN w' g (n+1) (xs++ [k])->w.grownBy w' (some g)->wpList prog ops Q rest (a.put o.dst undef) w'):wpList prog ops Q (o::rest) a w:=by
 obtain⟨D,h1,h2,h3⟩:=h;unfold Af0 at hc;refine wpList_mapUpdate_own w hg m x v 174 ab 3 3 OJ XV _ g n D hm h1 hn _ _ _ hx hv (OH hk) (.lit (.int .i64 ((xs.count k:Nat)+1))) [] (plainElem_int Jm (BJ ⟨by omega,by omega⟩)) ?_
 intro w' AN eh;refine hK w' ⟨_,AN,AN.isMap,fun y hy=>?_⟩ eh
 by_cases e:y=k
 ·subst e
  rw[Maps.atKey_put_same h2 (OJ.key (OH hk)),List.count_append];simp
 ·rw[Maps.atKey_put_other (by intro h;injection h with _ h;exact e h),h3 y hy,List.count_append]
  simp[List.count_cons,Ne.symm e,e]
theorem anc{ops:Array Oper}{rest:List Oper}{o:Oper}{a:Act}{w:Aa4}{Q:Exit->Act->Aa4->Prop}(hg:o.guard=none)(t:TypeId)(ab:o.op=Op.makeMap t none)
 (hK:wpList prog ops Q rest (a.put o.dst (.map (some w.heap.size))) (w.alloc (.map #[] 0))):wpList prog ops Q (o::rest) a w:=by
 refine wpList_plain hg fun K' Db=>?_
 unfold Oper.wp;have bz:=RowKit.run_makeMap (P:=prog) t w;simp[execOp,ab,bz,Result.andThen];exact Db _ _ hK
theorem Z9{wp w2:Aa4}{g k:Nat}{x:an}{v:Int}(hg:(wp.alloc (.cells #[.int .i64 x.a,.int .i64 x.b,.int .i64 x.c] 128)).grownBy w2 (some g))(al:g<wp.heap.size)(hk:k<3)(hv:v=x.at k):
 w2.cell? ⟨wp.heap.size,k,none⟩=some (.int .i64 v):=by
 have h:Bk w2 wp.heap.size 128 #[.int .i64 x.a,.int .i64 x.b,.int .i64 x.c]:=(Bk.new wp _ _).grown hg (by simp;omega)
 rw[hv];exact(h.cell k).trans (an.uR (n:=x) hk)
def lZ(xs:List Int):Nat->Int
 |0=>0
 |j+1=>max (lZ xs j) ((xs.take (j+1)).count (xs.getD j 0):Nat)
def gZ(b:ao):Nat->Int×Int
 |0=>(-1,(aD b).length)
 |k+1=>let m:=lZ ((aD b).map (·.at k)) (aD b).length;if m<(gZ b k).2 then(k,m) else gZ b k
def Cu(b:ao):Int×Int:=gZ b b.pieces.length
theorem OW(xs:List Int):∀j,0<=lZ xs j/\lZ xs j<=j
 |0=>by simp[lZ]
 |j+1=>by
  have:=OW xs j;have h1:((xs.take (j+1)).count (xs.getD j 0))<=j+1:=Ac3 Aiy (by simp;omega)
  unfold lZ;omega
theorem Ry(b:ao):∀k,-1<=(gZ b k).1/\(gZ b k).1<=k/\0<=(gZ b k).2/\(gZ b k).2<=(aD b).length
 |0=>by simp[gZ]
 |k+1=>by
  have h:=Ry b k;have h2:=OW ((aD b).map (·.at k)) (aD b).length
  unfold gZ;simp only;split
  ·refine⟨?_,?_,?_,?_⟩<;>simp only<;>omega
  ·refine⟨?_,?_,?_,?_⟩<;>omega
theorem Rz{b:ao}{k:Nat}{m p l:Int}(h:p=(gZ b k).1/\l=(gZ b k).2)(hm:m=lZ ((aD b).map (·.at k)) (aD b).length)(al:m<l):gZ b (k+1)=((k:Int),m):=by
 show(if lZ ((aD b).map (·.at k)) (aD b).length<(gZ b k).2 then((k:Int),lZ ((aD b).map (·.at k)) (aD b).length) else gZ b k)=_
 rw[<-hm,<-h.2,if_pos al]
theorem Rx{b:ao}{k:Nat}{m p l:Int}(h:p=(gZ b k).1/\l=(gZ b k).2)(hm:m=lZ ((aD b).map (·.at k)) (aD b).length)(al:¬m<l):gZ b (k+1)=(p,l):=by
 show(if lZ ((aD b).map (·.at k)) (aD b).length<(gZ b k).2 then((k:Int),lZ ((aD b).map (·.at k)) (aD b).length) else gZ b k)=_
 rw[<-hm,<-h.2,if_neg al,h.1,h.2]
theorem akj{a c a' c':Int}{s:Value}(h:a=a')(h':c=c'):Ending.returned (.tuple #[.int .i64 a,.int .i64 c,s])=.returned (.tuple #[.int .i64 a',.int .i64 c',s]):=by rw[h,h']
theorem aha{L:an}(h:L.Ok){k:Nat}(hk:k<3):lI (L.at k):=by
 have:=h k;unfold lI;omega
theorem Zn{w:Aa4}{b:ao}{pv bv tv:Value}{B:Nat}(hB:B<=w.heap.size)(ai:bg w B b pv bv tv)(h:cj b 0=0):
 Af1 prog 61 #[.agg #[.int .i64 b.ag,pv,bv,tv]] w fun e w'=>e=.returned (.tuple #[.int .i64 (Cu b).1,.int .i64 (Cu b).2,.int .i64 0])/\Below w.heap.size w w':=by
 have st:Still B w (w.alloc (.cells #[.int .i64 b.ag,pv,bv,tv] 26)):=(Still.refl w).alloc hB _;have aB:=Af3 (yL (w:=(w.alloc (.cells #[.int .i64 b.ag,pv,bv,tv] 26))) (B:=B) (by simp;omega) (ai.still st) (Gp (ai.still st)) h)
 have hz:=pq h;have hv:=iy hz.1;have aeZ:=Ct hv;have Zd:=Af3 (uG hv);obtain⟨A1,n1,c1,rfl,e1,h1,ez,-⟩:=ai.pieces.open_;obtain⟨A2,n2,c2,rfl,-⟩:=ai.aF.open_;obtain⟨A3,n3,c3,rfl,-⟩:=ai.aJ.open_;have lQ:n1<=3:=by have:=hv.np;omega
 have E1:=Af3 e1;unfold Af0 at ez;clear ai st hz hv h e1;go_enter func61,Tryz.ntmps61;go_wp2_with (first
  | (go_at_call 98;refine aB.out.mono ?_;rintro e w1 ⟨sv,rfl,aG,ae⟩
     obtain⟨A9,n9,c9,rfl,cY,nG,eS,iN⟩:=aG.row.open_;have lF:=Af3 iN;have pO:=Af3 cY;have kk:Hid (Bk w1 w.heap.size 26 #[.int .i64 b.ag,.slice A1 n1 c1,.slice A2 n2 c2,.slice A3 n3 c3]):=Af3 ((Bk.new w _ _).below ae (by simp))
     have aN:w.heap.size+1<=w1.heap.size:=by have:=ae.size;simpa using this
     have afb:n9<=27:=by omega
     have aY:Hid (Below w.heap.size w w1):=Af3 ((((Af6 _ _).alloc (Ac2 _) _)).trans (ae.mono (by simp)));clear ae aG cY iN))
 have hB0:w.heap.size<w1.heap.size:=by omega
 have KH:Hid (n9=(aD b).length):=Af3 pO.out.symm;have q4:(w1.alloc (.cells #[.int .i64 b.ag,.slice A1 n1 c1,.slice A2 n2 c2,.slice A3 n3 c3,.slice A9 n9 c9] 122)).cell? ⟨w1.heap.size,4,none⟩=some (.slice A9 n9 c9):=(Bk.new _ _ _).cell 4;have q1:(w1.alloc (.cells #[.int .i64 b.ag,.slice A1 n1 c1,.slice A2 n2 c2,.slice A3 n3 c3,.slice A9 n9 c9] 122)).cell? ⟨w.heap.size,1,none⟩=some (.slice A1 n1 c1):=(kk.out.alloc _).cell 1;go_region
 go_wp2;clear q4 q1;go_loopw [2,3,25] (fun u2 u3 u wr=>∃k:Nat,k<=n1/\u=.int .i64 k/\u2=.int .i64 (gZ b k).1/\u3=.int .i64 (gZ b k).2/\Hid (Below (w1.heap.size+1) (w1.alloc (.cells #[.int .i64 b.ag,.slice A1 n1 c1,.slice A2 n2 c2,.slice A3 n3 c3,.slice A9 n9 c9] 122)).drew wr)) (fun _ _ u _=>n1 - (Ag7 u).toNat)
 case atStart=>exact⟨0,Agm _,rfl,rfl,by rw[KH.out];rfl,Af3 (Af6 _ _)⟩
 case round=>
  obtain⟨wo,rfl⟩:∃wo:Aa4,wo=wr:=⟨_,rfl⟩
  obtain⟨k,hk,rfl,rfl,rfl,hb⟩:=hrel;have bt:=Ry b k;obtain⟨pk,AD⟩:∃pk,pk=(gZ b k).1:=⟨_,rfl⟩
  obtain⟨lk,Hp⟩:∃lk,lk=(gZ b k).2:=⟨_,rfl⟩
  rw[<-AD,<-Hp] at bt |-
  have zp:=Af3 (Afx AD Hp);clear AD Hp;have rV:w1.heap.size+1<=wo.heap.size:=by have:=hb.out.size;simpa using this
  have kb:Bk wo w1.heap.size 122 #[.int .i64 b.ag,.slice A1 n1 c1,.slice A2 n2 c2,.slice A3 n3 c3,.slice A9 n9 c9]:=Bk.below (w:=(w1.alloc (.cells #[.int .i64 b.ag,.slice A1 n1 c1,.slice A2 n2 c2,.slice A3 n3 c3,.slice A9 n9 c9] 122)).drew) (Bk.new w1 _ _) hb.out (by simp)
  have kb4:(wo.alloc (.map #[] 0)).cell? ⟨w1.heap.size,4,none⟩=some (.slice A9 n9 c9):=(kb.alloc _).cell 4;have vG:w1.heap.size<wo.heap.size:=by omega
  have hz5:w1.heap.size<=wo.heap.size:=by omega
  clear kb;by_cases al:k<n1
  ·have fh:k<3:=by omega
   have aeJ:(k:Int)<3:=by omega
   go_wp2_with (first| (refine anc rfl 174 rfl ?_))
   go_loopw [8,32] (fun u8 u wr=>∃j:Nat,j<=n9/\u=.int .i64 j/\u8=.int .i64 (lZ ((aD b).map (·.at k)) j)/\Hid (oN wr wo.heap.size j (((aD b).map (·.at k)).take j))/\Hid (Below wo.heap.size wo wr)) (fun _ u _=>n9 - (Ag7 u).toNat)
   case atStart=>exact⟨0,Agm _,rfl,rfl,Af3 (oN.made wo),Af3 ((Af6 _ _).alloc (Ac2 _) _)⟩
   case round=>
    obtain⟨wp,rfl⟩:∃wp:Aa4,wp=wr:=⟨_,rfl⟩
    obtain⟨j,hj,rfl,rfl,HC,ak⟩:=hrel;have hm:=OW ((aD b).map (·.at k)) j
    obtain⟨mj,NG⟩:∃mj,mj=lZ ((aD b).map (·.at k)) j:=⟨_,rfl⟩
    rw[<-NG] at hm |-
    have Q6:=Af3 NG;clear NG;have Vw:wo.heap.size<wp.heap.size:=HC.out.lt;by_cases hjt:j<n9
    ·obtain⟨ad,x,cs,kX,aC,hx,rfl,-,au⟩:=lF.out j hjt
     subst kX;have ow:Below w1.heap.size w1 (w1.alloc (.cells #[.int .i64 b.ag,.slice A1 n1 c1,.slice A2 n2 c2,.slice A3 n3 c3,.slice (some ad) n9 c9] 122)).drew:=iY ((Af6 w1.heap.size w1).alloc (Ac2 _) _);have TX:Below w1.heap.size w1 wp:=(ow.trans (hb.out.mono (Nat.le_succ _))).trans (ak.out.mono (by omega))
     have nV:Hid (Below w1.heap.size w1 wp):=Af3 TX;clear ow TX;have st:Still w1.heap.size w1 wp:=Still.aK nV.out (Ac2 _);have g0:=cC au st aC rfl;have g1:=bK au st aC 0 rfl;have g2:=bK au st aC 1 rfl;have xD:(ad.add (j * 3)).block<wp.heap.size:=by rw[cq];omega
     have HX:=Af3 hx;obtain⟨v,hv⟩:∃v,v=x.at k:=⟨_,rfl⟩
     have Hz:lI v:=by rw[hv];exact aha (Zd.out x (Agg hx)) fh
     have SM:=Af3 Hz;have gk:(wp.alloc (.cells #[.int .i64 x.a,.int .i64 x.b,.int .i64 x.c] 128)).cell? ⟨wp.heap.size,k,none⟩=some (.int .i64 v):=by rw[hv];exact(Bk.new wp _ _).cell k|>.trans (an.uR (n:=x) fh)
     have HV:=Af3 hv;have Ua:((aD b).map (·.at k)).take (j+1)=((aD b).map (·.at k)).take j++ [v]:=by
      rw[Aim,Aix,hx];simp[hv]
     have Hk:((aD b).map (·.at k)).getD j 0=v:=by
      rw[List.getD_eq_getElem?_getD,Aix,hx];simp[hv]
     have Kw:=Af3 (Afx Ua Hk);obtain⟨cn,Na⟩:∃cn,cn=(((aD b).map (·.at k)).take j).count v:=⟨_,rfl⟩
     have an7:cn<=j:=by rw[Na];exact Ac3 Aiy (by simp;omega)
     have yo:IntKind.i64.wrap ((cn:Int)+1)=(cn:Int)+1:=by rw[IntWalk.i64_left];exact IntWalk.wrap64_in _ (by omega)
     have Kv:=Af3 Na;have aoz:n9<Af0:=by unfold Af0;omega
     clear hx au st Hz hv Ua Hk Na;go_wp2_with (first
      | (at_lookup;refine Yd rfl (.tmp 36) (.tmp 39) rfl wo.heap.size j _ v SM.out rfl rfl (HC.out.kept (World.grownBy_alloc wp _ none) nofun) ?_;rw[<-Kv.out])
      | (at_mapUpdate;refine ane rfl (.tmp 36) (.tmp 39) (.tmp 41) rfl wo.heap.size j _ v SM.out (by omega) ?hc rfl rfl (by rw[<-Kv.out];try rfl) (HC.out.kept (World.grownBy_alloc wp _ none) nofun) ?_
         case hc=>(rw[<-Kv.out];unfold Af0;omega)
         rw[<-Kw.out.1];intro w2 ef kG;have wP:=Af3 ef;have gk2: w2.cell? ⟨wp.heap.size,k,none⟩=some (.int .i64 v):=Z9 kG Vw fh HV.out;have YD:=Af3 kG;clear ef kG)
      | (at_lookup;refine Yd rfl (.tmp 43) (.tmp 46) rfl wo.heap.size (j+1) _ v SM.out rfl rfl wP.out ?_))
     go_roundw;case rel=>exact⟨j+1,by omega,by go_num,by
      rw[Q6.out];conv=>rhs;unfold lZ
      rw[Kw.out.1,Kw.out.2],wP,
      Af3 ((ak.out.trans ((Af6 wo.heap.size wp).alloc (by omega) _)).grown YD.out (by simp;omega) (fun q hq=>by injection hq with hq;omega))⟩
     case measure=>simp[Ag7];omega
    ·obtain rfl:j=n9:=by omega
     have UR:mj=lZ ((aD b).map (·.at k)) (aD b).length:=by rw[Q6.out,<-pO.out]
     have va:Hid (Below (w1.heap.size+1) (w1.alloc (.cells #[.int .i64 b.ag,.slice A1 n1 c1,.slice A2 n2 c2,.slice A3 n3 c3,.slice A9 j c9] 122)).drew wp):=Af3 (hb.out.trans (ak.out.mono rV));have F8:=Af3 UR;clear UR;by_cases Ho:mj<lk
     ·go_wp2
      go_roundw;case rel=>exact⟨k+1,by omega,by go_num,by
       rw[Rz zp.out F8.out Ho],by
       rw[Rz zp.out F8.out Ho],va⟩
      case measure=>simp[Ag7];omega
     ·go_wp2
      go_roundw;case rel=>exact⟨k+1,by omega,by go_num,by
       rw[Rx zp.out F8.out Ho],by
       rw[Rx zp.out F8.out Ho],va⟩
      case measure=>simp[Ag7];omega
  ·obtain rfl:k=n1:=by omega
   go_wp2
   go_ret3
   refine⟨akj ?_ ?_,?_⟩
   ·rw[zp.out.1];unfold Cu;rw[E1.out]
   ·rw[zp.out.2];unfold Cu;rw[E1.out]
   ·exact aY.out.trans ((iY ((Af6 w1.heap.size w1).alloc (Ac2 _) _)).trans (hb.out.mono (Nat.le_succ _)) |>.mono (by omega))
end Go.Tw
