import Derived.Test.YtfifdjajcogccaaGreatDoorZ03
set_option linter.all false
set_option maxHeartbeats 0
set_option maxRecDepth 100000
open And renaming intro -> Ϗ
open Go renaming maxLen -> ϕ, Calls -> ύ, info_parts -> Ö, bodyPost_ret -> ø
open Go.Act renaming put -> Ò
open Go.RowKit renaming intOf -> ϑ
open Go.RowKit.Below renaming refl -> ό
open List renaming length_map -> ã, map_append -> È, map_map -> Ajp, map_congr_left -> Ajq, getElem?_map -> ú, mem_map -> ô, mem_cons_self -> Ajr, filter_cons -> Ajs, filter_congr -> Ajt, mem_cons -> Ϡ, findSome?_cons -> Ajm, range -> ϣ, mem_cons_of_mem -> Aju, take_of_length_le -> Õ, mem_range -> Ď, exists_of_findSome?_eq_some -> Ĵ, mem_of_getElem? -> ϡ, setIfInBounds_toArray -> Í, set_cons_zero -> Î, set_cons_succ -> Ë, length_range -> Ajv, map_singleton -> Ķ, getElem?_eq_none -> Aib, eraseIdx_sublist -> Ajx
open Nat renaming le_refl -> ϊ, zero_le -> ϛ
open Prod renaming fst -> É
open Bool renaming true -> D, false -> U
open Go renaming Value -> z, undef -> L, World -> N
open Go.Ending renaming returned -> Ω
open Go.IntKind renaming i64 -> I
open Go.Lib renaming hid -> K
open Go.Obj renaming cells -> Ξ
open Go.RowKit renaming Below -> Γ, Below -> Γ
open Go.Value renaming slice -> E, tuple -> μ, agg -> η, int -> Y
open Option renaming some -> J, none -> H
variable{α:Type}{x:Go.Tw.bN}{b:Go.Tw.eR}{m:Int}{ks:List Nat}{B n k j i:Nat}{w w':N}{pv bv tv v:z}
namespace Go.Tw
variable [Go.Tw.aK]
open Go Go.Proofs Go.RowKit
def BE(b:eR)(x:bN):eR:=if cZ (fH b x)=0 then fH b x else jG
def aib{w1 w6:N}{bs:List (bN×z)}{kv gP:z}(hB:B<=w.heap.size)(ah:aQ w B b pv bv tv)(Aw:x.name.size<=ϕ)(iZ:Row w B 2 Span.R kv x.cM)
 (mO:∀p∈bs,p.1.name.size<=ϕ/\Row w B 2 Span.R p.2 p.1.cM)(fC:bs.map É=b.aC)(h1:φ w w1)(h6:φ w1 w6)(hz:w.heap.size+3<=w1.heap.size)
 (o:w6.ownsRow w1.heap.size 59 3 gP (bs.length+1) (bs.flatMap fc++ [.string x.name,Y I x.aL,kv]))
 (kb:Bk w1 w.heap.size 26 #[Y I b.ab,pv,bv,tv])(kr:Bk w1 (w.heap.size+2) 26 #[Y I 0,E H 0 0,E H 0 0,E H 0 0]):
 (∃lT nh,jJ (w6.setCell ⟨w.heap.size,2,H⟩ gP) (λk=>B<=k/\k<w.heap.size+3) (fH b x) pv gP tv lT nh)/\Bk (w6.setCell ⟨w.heap.size,2,H⟩ gP) w.heap.size 26 #[Y I b.ab,pv,gP,tv]/\
 Bk (w6.setCell ⟨w.heap.size,2,H⟩ gP) (w.heap.size+2) 26 #[Y I 0,E H 0 0,E H 0 0,E H 0 0]/\φ w (w6.setCell ⟨w.heap.size,2,H⟩ gP)/\LG gP:=by
 have e6:=h6.size;have bW:φ w (w6.setCell ⟨w.heap.size,2,H⟩ gP):=(h1.trans (h6.mono (by omega))).setCell (ϊ _) _
 have o':(w6.setCell ⟨w.heap.size,2,H⟩ gP).ownsRow w1.heap.size 59 3 gP (bs++ [(x,kv)]).length ((bs++ [(x,kv)]).flatMap fc):=by have:=gN (u:=gP) (p:=⟨w.heap.size,2,H⟩) o (by simp<;>omega);simpa [fc] using this
 have hN:∀k,B<=k/\k<w.heap.size+3->(λk=>B<=k) k\/w.heap.size<=k:=λk hk=>.inl hk.1;obtain⟨Lw,ts,hn⟩:=ah.pU (No:=λk=>B<=k) hB (λk hk=>hk);refine⟨⟨bs++ [(x,kv)],ts,hn.p.below bW hN,cV.tt o' (λ_=>rfl) (λp hm=>rfl) (λk hk=>by have:=hk.2;omega),hn.t.below bW hN,by simp[fH,fC],hn.oh,λp hm=>?_,λp hm=>(hn.tp p hm).below bW hN⟩,(kb.below h6 (by omega)).set 2 gP,(kr.below h6 (by omega)).dV (by simp) _,bW,ld o⟩;rcases List.mem_append.1 hm with hm|hm
 ·exact⟨(mO p hm).1,((mO p hm).2.pU (No:=λk=>B<=k) hB (λk hk=>hk)).below bW hN⟩
 ·simp at hm;subst hm;exact⟨Aw,(iZ.pU (No:=λk=>B<=k) hB (λk hk=>hk)).below bW hN⟩
def aaI{kv:z}(hB:B<=w.heap.size)(ah:aQ w B b pv bv tv)(Aw:x.name.size<=ϕ)(iZ:Row w B 2 Span.R kv x.cM)(h0:cZ b=0):
 ύ prog 53 #[η #[Y I b.ab,pv,bv,tv],η #[.string x.name,Y I x.aL,kv]] w λe w'=>yR (λk=>B<=k/\k<w.heap.size) w w' (BE b x) (cZ (fH b x)) e:=by
 obtain⟨bs,fC,zL⟩:=CY (R':=λ(p:bN×z) cs=>cs=fc p/\p.1.name.size<=ϕ/\Row w B 2 Span.R p.2 p.1.cM) ah.aC (λx cs ⟨kv,h1,h2,h3⟩=>⟨kv,h1,h2,h3⟩);have mO:∀p∈bs,p.1.name.size<=ϕ/\Row w B 2 Span.R p.2 p.1.cM:=λp hp=>by obtain⟨cs,h1,h2⟩:=zL.mem p hp;exact h2
 have uI:Hid (Row w B 3 (λp cs=>cs=fc p) bv bs):=K (zL.still (Δ.refl w) λ_ _ h=>h.1);have Ew:∀p∈bs,∀u∈fc p,u.oneCell'=D:=λp hp u hu=>by
  obtain⟨A,c,e,_⟩:=(mO p hp).2;simp[fc] at hu;rcases hu with rfl|rfl|rfl
  ·rfl
  ·rfl
  ·rw[e];rfl
 have gU:bs.length=b.aC.length:=by rw[<-fC,ã]
 have hv:=fG h0;have xH:bs.length<=3:=by rw[gU];exact hv.nb
 have C2:Hid (∀w',Δ B w w'->B<=w'.heap.size->ύ prog 135 #[bv] w' λe bz=>∃v',e=Ω v'/\bz.ownsRow w'.heap.size 59 3 v' bs.length (bs.flatMap fc)/\φ w' bz):=
  K λw' V hz=>Tx (uI.e.still V λ_ _ h=>h) hz (λ_=>rfl) Ew (by omega)
 have HM:=K (Ϗ mO (Ϗ fC gU));have bD:=K ah;have HH:=K (Ϗ h0 (Ϗ Aw iZ));obtain⟨A1,n1,c1,A2,n2,c2,A3,n3,c3,rfl,rfl,rfl⟩:=ah.op;obtain⟨A4,n4,c4,rfl,-⟩:=iZ.Φ;obtain⟨i0,cJ,cK,aO,aZ⟩:=Ö WR;have cy:=K (Ϗ cJ (Ϗ cK (Ϗ aO aZ)));clear ah zL mO Ew fC gU hv h0 Aw iZ cJ cK aO aZ;go_enter func53,Tryz.ntmps53;go_wp2_with (first
  | (go_at_call 68;refine(qj (bD.e.still ((((Δ.refl w).alloc hB _).alloc (by simp<;>omega) _).alloc (by simp<;>omega) _)) (by simp<;>omega) HH.e.1).mono ?_;rintro e w1 ⟨rfl,ai⟩
     have kb:Bk w1 w.heap.size 26 #[Y I b.ab,E A1 n1 c1,E A2 n2 c2,E A3 n3 c3]:=(((Bk.new w _ _).alloc _).alloc _).below ai (by simp<;>omega);have kx:Bk w1 (w.heap.size+1) 59 #[.string x.name,Y I x.aL,E A4 n4 c4]:=((Bk.bZ (by simp<;>omega) _ _).alloc _).below ai (by simp<;>omega);have kr:Bk w1 (w.heap.size+2) 26 #[Y I 0,E H 0 0,E H 0 0,E H 0 0]:=(Bk.bZ (by simp<;>omega) _ _).below ai (by simp);have aW:Hid (φ w w1):=K (((((ό _ _).alloc (ϊ _) _).alloc (by simp) _).alloc (by simp<;>omega) _).trans (ai.mono (by simp<;>omega)));have HK:=K (Ϗ kb (Ϗ kx kr));clear kb kx kr ai))
 have k2: w1.cell? ⟨w.heap.size,2,H⟩=J (E A2 n2 c2):=HK.e.1.cell 2;have x0: w1.cell? ⟨w.heap.size+1,0,H⟩=J (.string x.name):=HK.e.2.1.cell 0;have x1: w1.cell? ⟨w.heap.size+1,1,H⟩=J (Y I x.aL):=HK.e.2.1.cell 1;have x2: w1.cell? ⟨w.heap.size+1,2,H⟩=J (E A4 n4 c4):=HK.e.2.1.cell 2;have hz:w.heap.size+3<=w1.heap.size:=HK.e.2.2.lt;have iV:w.heap.size<w1.heap.size:=by omega
 have Ou:w.heap.size<=w1.heap.size:=by omega
 have ES:w.heap.size+1<w1.heap.size:=by omega
 have Ov:w.heap.size+1<=w1.heap.size:=by omega
 have XD:Hid (φ w1 w1.drew):=K (dT (ό _ _));have XA:Hid (∀o,φ w1 (w1.drew.alloc o)):=K λo=>(dT (ό _ _)).alloc (ϊ _) o
 have SB:Hid (∀w',φ w1 w'->Δ B w w'/\B<=w'.heap.size):=K λw' h=>⟨Δ.aJ (aW.e.trans (h.mono (by omega))) hB,by have:=h.size;omega⟩
 refine Code.wp_mono (Q:=dK λa W=>∃kL gM c12 Gn gV n19 c19,a={tmps:=#[Value.agg #[Y I b.ab,E A1 n1 c1,E A2 n2 c2,E A3 n3 c3],Value.agg #[.string x.name,Y I x.aL,E A4 n4 c4],Value.pointer (J {block:=w.heap.size,off:=0}),Value.pointer (J {block:=w.heap.size+1,off:=0}),Value.pointer (J {block:=w.heap.size+1+1,off:=0}),Y I 0,Y I 0,L,Value.agg #[Y I b.ab,E A1 n1 c1,E A2 n2 c2,E A3 n3 c3],Y I 0,Y I 0,.bool U,L,L,Value.pointer (J {block:=w.heap.size,off:=2}),E A2 n2 c2,E kL gM c12,Value.agg #[.string x.name,Y I x.aL,E A4 n4 c4],Gn,E gV n19 c19,Value.pointer (J {block:=w.heap.size,off:=2}),L,L,L,L,L,L,L,L],defers:=[]}/\Hid ((∃lT nh,jJ W (λk=>B<=k/\k<w.heap.size+3) (fH b x) (E A1 n1 c1) (E gV n19 c19) (E A3 n3 c3) lT nh)/\Bk W w.heap.size 26 #[Y I b.ab,E A1 n1 c1,E gV n19 c19,E A3 n3 c3]/\
  Bk W (w.heap.size+2) 26 #[Y I 0,E H 0 0,E H 0 0,E H 0 0]/\φ w W)) ?post ?region
 case region=>
  go_region_law (first
   | (go_simp
      go_at_call 135;refine(C2.e _ ?h1 ?h2).mono ?_;case h1=>first|exact(SB.e _ XD.e).1|exact(SB.e _ (XA.e _)).1
      case h2=>first|exact(SB.e _ XD.e).2|exact(SB.e _ (XA.e _)).2
      rintro e w3 ⟨v12,rfl,nW,bK⟩;have dR:Hid (φ w1 w3):=K (by first|exact XD.e.trans bK|exact(XA.e _).trans (bK.mono (by simp)))
      have rA:Hid (w3.ownsRow w1.heap.size 59 3 v12 bs.length (bs.flatMap fc)):=K (nW.base (by simp));have nH:=HK.e.2.1.below dR.e (by omega);have x0: w3.cell? ⟨w.heap.size+1,0,H⟩=J (.string x.name):=nH.cell 0;have x1: w3.cell? ⟨w.heap.size+1,1,H⟩=J (Y I x.aL):=nH.cell 1;have x2: w3.cell? ⟨w.heap.size+1,2,H⟩=J (E A4 n4 c4):=nH.cell 2;have gw:w1.heap.size<=w3.heap.size:=dR.e.size
      try(have HZ:Hid (∀(j:Nat) (u:z),[Value.string x.name,Y I x.aL,E A4 n4 c4][j]?=J u-> w3.cell? ((⟨w1.heap.size,0,H⟩:Addr).add j)=J u):=K (λj u hu=>by
       rw[kP];have:=((Bk.new w1.drew 59 #[.string x.name,Y I x.aL,E A4 n4 c4]).below bK (by simp)).cell j
       simpa using this.trans (by simpa using hu)))
      obtain⟨kL,gM,c12,rfl⟩:=ld nW;clear bK nW nH)
   | (refine oe rfl (.tmp 16) (.tmp 18) 23 rfl w1.heap.size 59 i0 (η #[.string {data:=#[]},Y I 0,E H 0 0]) 3 48 (χ Tryz.underlying23) cy.e.1 cy.e.2.1 cy.e.2.2.1 cy.e.2.2.2 rfl (by decide) _ bs.length (bs.flatMap fc) rfl rA.e ⟨w1.heap.size,0,H⟩ 1 1 [.string x.name,Y I x.aL,E A4 n4 c4] rfl rfl HZ.e ?c2 ?c3 ?c4 gw ?_
      case c2=>simp[Value.oneCell']
      case c3=>(simp only[ϕ];omega)
      case c4=>omega
      intro v' w6 aH gK;have HO:=K aH;have nK:φ w1 w6:=dR.e.grown gK gw (λk hk=>dX rA.e k hk)
      have dG:=K nK;have eP:=HK.e.1.below nK (by omega)
      have q2: w6.cell? ⟨w.heap.size,2,H⟩=J (E A2 n2 c2):=eP.cell 2;have f2: w6.frozen? ⟨w.heap.size,2,H⟩=U:=eP.frozen 2;obtain⟨gV,n19,c19,rfl⟩:=ld aH;clear aH gK nK eP)
   | (refine oe rfl (.tmp 16) (.tmp 18) 23 rfl w1.heap.size 59 i0 (η #[.string {data:=#[]},Y I 0,E H 0 0]) 3 48 (χ Tryz.underlying23) cy.e.1 cy.e.2.1 cy.e.2.2.1 cy.e.2.2.2 rfl (by decide) _ bs.length (bs.flatMap fc) rfl (rA.e.alloc _) ⟨w3.heap.size,0,H⟩ 1 1 [.string x.name,Y I x.aL,E A4 n4 c4] rfl rfl ?c1 ?c2 ?c3 ?c4 ?c5 ?_
      case c1=>(intro j u hu;rw[kP];have:=(Bk.new w3 59 #[.string x.name,Y I x.aL,E A4 n4 c4]).cell j;simpa using this.trans (by simpa using hu))
      case c2=>simp[Value.oneCell']
      case c3=>(simp only[ϕ];omega)
      case c4=>omega
      case c5=>(simp<;>omega)
      intro v' w6 aH gK;have HO:=K aH;have nK:φ w1 w6:=(dR.e.alloc gw _).grown gK (by simp<;>omega) (λk hk=>dX rA.e k hk)
      have dG:=K nK;have eP:=HK.e.1.below nK (by omega)
      have q2: w6.cell? ⟨w.heap.size,2,H⟩=J (E A2 n2 c2):=eP.cell 2;have f2: w6.frozen? ⟨w.heap.size,2,H⟩=U:=eP.frozen 2;obtain⟨gV,n19,c19,rfl⟩:=ld aH;clear aH gK nK eP))
  all_goals
   have vr:=aib hB bD.e HH.e.2.1 HH.e.2.2 HM.e.1 HM.e.2.1 aW.e dG.e hz HO.e HK.e.1 HK.e.2.2;show ∃_,_;exact⟨_,_,_,_,_,_,_,rfl,K ⟨vr.1,vr.2.1,vr.2.2.1,vr.2.2.2.1⟩⟩
 case post=>
  clear C2 cy k2 x0 x1 x2 XD XA SB iV Ou ES Ov HK uI xH;refine dK.imp ?_;rintro a W ⟨kL,gM,c12,Gn,gV,n19,c19,rfl,hh⟩;have Ll:=K hh.e.2;have k0:=hh.e.2.1.cell 0;have k1:=hh.e.2.1.cell 1;have k2:=hh.e.2.1.cell 2;have k3:=hh.e.2.1.cell 3;have iA:w.heap.size<W.heap.size:=hh.e.2.1.lt;have eD:w.heap.size+3<=W.heap.size:=hh.e.2.2.1.lt;obtain⟨lT,nh,hp⟩:=hh.e.1;have HP:=K hp;have r8:(fH b x).ab=b.ab:=rfl;have UG:=MD hp.book (ϊ _);rw[r8] at UG;have VR:=K UG;clear hp hh UG r8 hz;by_cases V:cZ (fH b x)=0
  ·have HV:=K (fG V);rw[V] at VR;have T:BE b x=fH b x:=by unfold BE;rw[if_pos V]
   have HR:=K T;have HS:=K V;clear T V;go_wp2
   go_at_call 68;refine VR.e.mono ?_;rintro e w7 ⟨rfl,oH⟩;have Wr:=Ll.e.1.below oH iA;have k0: w7.cell? ⟨w.heap.size,0,H⟩=J (Y I b.ab):=Wr.cell 0;have k1: w7.cell? ⟨w.heap.size,1,H⟩=J (E A1 n1 c1):=Wr.cell 1;have k2: w7.cell? ⟨w.heap.size,2,H⟩=J (E gV n19 c19):=Wr.cell 2;have k3: w7.cell? ⟨w.heap.size,3,H⟩=J (E A3 n3 c3):=Wr.cell 3;have LH:=K (Ll.e.2.1.below oH Ll.e.2.1.lt);have Mp:=(copied (w:=w7) (HP.e.grown (jQ oH (ϊ _) H) nofun) (λk hk=>by have:=hk.2;have:=LH.e.lt;omega) HV.e)
   have r8:(fH b x).ab=b.ab:=rfl;rw[r8] at Mp;have KJ:=K Mp;clear Mp r8;have RK:=K oH;clear oH Wr;go_wp2
   go_at_call 136;refine KJ.e.mono ?_;rintro e w8 ⟨p8,b8,t8,Z6,ts8,rfl,ve,pF⟩;have Ir:=ve.book;have jf:=LH.e.below pF LH.e.lt;have r0:=jf.cell 0;have r1:=jf.cell 1;have r2:=jf.cell 2;have r3:=jf.cell 3;have f0:=jf.frozen 0;have f1:=jf.frozen 1;have f2:=jf.frozen 2;have f3:=jf.frozen 3;have Is:w.heap.size+2<w8.heap.size:=jf.lt;obtain⟨Kx,PQ,Ms,Ky,PR,Mt,Kz,PS,Mu,rfl,rfl,rfl⟩:=Ir.op;have Lc:=K pF;have RP:=K (Ϗ ve jf);clear pF Ir ve jf;have ahW:Bk w8 (w.heap.size+1+1) 26 #[Y I 0,E H 0 0,E H 0 0,E H 0 0]:=RP.e.2;have Am:=((((ahW.set 0 (Y I b.ab)).set 1 (E Kx PQ Ms)).set 2 (E Ky PR Mt)).set 3 (E Kz PS Mu));have y0:=Am.cell 0;have y1:=Am.cell 1;have y2:=Am.cell 2;have y3:=Am.cell 3;go_wp2;have dw:φ w w8:=(Ll.e.2.2.trans (RK.e.mono (Nat.le_of_lt iA))).trans (Lc.e.mono (by have:=RK.e.size;omega))
   refine ø (v:=μ #[η #[Y I b.ab,E Kx PQ Ms,E Ky PR Mt,E Kz PS Mu],Y I 0]) (by simp[results,Tryz.results53,go_sem,y0,y1,y2,y3]) rfl ?_;rw[HR.e,HS.e];refine⟨_,_,_,_,_,_,_,_,_,rfl,λχ hU=>?_,?_⟩
   ·have hq:(λk=>B<=k/\k<w.heap.size+3) (w.heap.size+2):=⟨by omega,by omega⟩
    exact RP.e.1.kept ((((hU.weaken (oz:=λk=>B<=k/\k<w.heap.size+3) λk hk=>⟨hk.1,by have:=hk.2;omega⟩).qT hq).qT hq).qT hq|>.qT hq)
   ·exact(((dw.setCell (by simp<;>omega) _).setCell (by simp<;>omega) _).setCell (by simp<;>omega) _).setCell (by simp<;>omega) _
  ·obtain⟨υ,hz⟩:∃υ,υ=cZ (fH b x):=⟨_,rfl⟩
   have T:BE b x=jG:=(by unfold BE;rw[if_neg V]);have HR:=K T;have HZ:=K hz;rw[<-hz] at V VR;have aO:(υ !=0)=D:=by simpa using V
   clear T hz;go_wp2;go_at_call 68;refine VR.e.mono ?_;rintro e w7 ⟨rfl,oH⟩;have jf:=Ll.e.2.1.below oH Ll.e.2.1.lt;have r0:=jf.cell 0;have r1:=jf.cell 1;have r2:=jf.cell 2;have r3:=jf.cell 3;have f0:=jf.frozen 0;have f1:=jf.frozen 1;have f2:=jf.frozen 2;have f3:=jf.frozen 3;have Is:w.heap.size+2<w7.heap.size:=jf.lt;have RK:=K oH;have ahW:Bk w7 (w.heap.size+1+1) 26 #[Y I 0,E H 0 0,E H 0 0,E H 0 0]:=jf;have Am:=((((ahW.set 0 (Y I 0)).set 1 (E H 0 0)).set 2 (E H 0 0)).set 3 (E H 0 0));have y0:=Am.cell 0;have y1:=Am.cell 1;have y2:=Am.cell 2;have y3:=Am.cell 3;clear jf ahW Am oH;go_wp2;have dw:φ w w7:=Ll.e.2.2.trans (RK.e.mono (Nat.le_of_lt iA));refine ø (v:=μ #[η #[Y I 0,E H 0 0,E H 0 0,E H 0 0],Y I υ]) (by simp[results,Tryz.results53,go_sem,y0,y1,y2,y3]) rfl ?_
   rw[HR.e,<-HZ.e];refine Uz ?_;exact(((dw.setCell (by simp<;>omega) _).setCell (by simp<;>omega) _).setCell (by simp<;>omega) _).setCell (by simp<;>omega) _
def akG(l:List α)(j:Nat):l.eraseIdx j=l.take j++l.drop (j+1):=List.eraseIdx_eq_take_drop_succ l j
end Go.Tw
namespace Go.Tw
variable [Go.Tw.aK]
open Go Go.Proofs Go.RowKit
section
variable {b:eR}{i:Nat}
def Bd(b:eR)(i:Nat):Option (List Cut):=search b (cB (aB b)) (λk=>decide (k=i)) b.pieces.length []
end
end Go.Tw
namespace Go.Tw
variable [Go.Tw.aK]
open Go Go.Proofs Go.RowKit
def ahs{α β:Type}(f:α->β)(l:List α):∀i,sw (l.map f) i=(sw l i).map (List.map f)
 |0=>rfl
 |i+1=>by rw[sw,sw,ahs f l i,È,Ajp,Ajp];congr 1;refine Ajq λx _=>?_;simp only[Function.comp_apply,È,ú];cases l[i]?<;>rfl
def Yv{α:Type}(l x:List α):∀i,x∈sw l i↔x.Sublist (l.take i)
 |0=>by simp[sw]
 |i+1=>by
  rw[sw,List.mem_append,Yv l x i,List.take_succ];constructor
  ·rintro(h|h)
   ·exact h.trans (List.sublist_append_left _ _)
   ·obtain⟨y,hy,rfl⟩:=ô.1 h;exact((Yv l y i).1 hy).append (List.Sublist.refl _)
  ·intro h;obtain⟨a,c,rfl,h1,h2⟩:=List.sublist_append_iff.1 h;cases e:l[i]? with
   |none=>
    rw[e] at h2;obtain rfl:c=[]:=by simpa using h2
    left;rw[List.append_nil];exact h1
   |some y=>
    rw[e] at h2;have hc:c.Sublist [y]:=by simpa using h2
    cases c with
    |nil=>left;rw[List.append_nil];exact h1
    |cons υ t=>have hl:=hc.length_le;obtain rfl:t=[]:=(by simpa using hl);obtain rfl:υ=y:=(by simpa using hc.subset (Ajr ..));right;exact ô.2 ⟨a,(Yv l a i).2 h1,by simp⟩
def aeM{l:List Nat}(h:ks.Sublist l)(hn:l.Nodup):l.filter (λk=>decide (k∈ks))=ks:=by
 induction h with
 |slnil=>rfl
 | @cons ks l a h ih=>rw[List.nodup_cons] at hn;rw[Ajs,if_neg (by simp only[decide_eq_true_eq];exactλh'=>hn.1 (h.subset h'))];exact ih hn.2
 | @cons_cons ks l a h ih=>rw[List.nodup_cons] at hn;rw[Ajs,if_pos (by simp)];congr 1;refine Eq.trans (Ajt λx hx=>?_) (ih hn.2);rw[decide_eq_decide,Ϡ];exact⟨λh=>h.resolve_left λe=>hn.1 (e▸hx),.inr⟩
def abg{α β:Type}{F:α->Option β}{p:α->Bool}:∀l:List α,(l.filter p).findSome? F= l.findSome? λx=>if p x then F x else H
 | []=>rfl
 |a::l=>by
  rw[Ajs,Ajm];by_cases h:p a=D
  ·rw[if_pos h,if_pos h,Ajm,abg l]
  ·rw[if_neg h,if_neg h,abg l]
def Ri{b:eR}{G:al}{out:Nat->Bool}:∀(f:Nat) (cs:List Cut),jT b G ((ϣ b.aC.length).filter λk=> !out k) f cs=search b G out f cs
 |0,cs=>rfl
 |f+1,cs=>by have e:jT b G ((ϣ b.aC.length).filter λk=> !out k) f=search b G out f:=funext λcs=>Ri f cs;rw[jT,search,abg,e];congr 1;funext k;unfold jM;cases out k<;>rfl
def agQ{G:al}(h:ks.Sublist (ϣ b.aC.length))(f:Nat)(cs:List Cut):jT b G ks f cs=search b G (λk=> !decide (k∈ks)) f cs:=by
 rw[<-Ri,show(ϣ b.aC.length).filter (λk=> !(!decide (k∈ks)))=ks by
  simp only[Bool.not_not];exact aeM h List.nodup_range]
def lO(mI:List Cut->Int)(os:List (Option (List Cut)))(st:Option (List Cut×Int)):Option (List Cut×Int):=os.foldl (λst o=>match o with|none=>st|some l=>mF mI st l) st
def aaf(b:eR)(G:al)(mI:List Cut->Int)(ls:List (List Nat)):Option (List Cut×Int):=lO mI (ls.map λks=>jT b G ks b.pieces.length []) H
def Pl(c:List Cut)(m:Int)(d:List Cut)(k:Int):Prop:=m<k\/m=k/\¬ff d c<0
def agO{c d e:List Cut}{k j:Int}(h1:c.length=d.length)(h2:d.length=e.length)(h:Pl c m d k)(h':Pl d k e j):Pl c m e j:=by
 rcases h with h| ⟨rfl,h⟩
 ·rcases h' with h'| ⟨rfl,-⟩<;>(left;omega)
 ·rcases h' with h'| ⟨rfl,h'⟩
  ·left;exact h'
  ·right;refine⟨rfl,λhc=>?_⟩;by_cases e0:ff c d=0
   ·have:=TC h1 e0;subst this;exact h' hc
   ·have h3:ff c d<0:=by have:=TD h1;omega
    exact h' (MG (by omega) h1 hc h3)
def Vb{mI:List Cut->Int}{n:Nat}:∀(os:List (Option (List Cut))) (st:Option (List Cut×Int)),(∀l,J l∈os->l.length=n)->(∀c m,st=J (c,m)->c.length=n)->
 (lO mI os st=H->st=H/\∀o∈os,o=H)/\∀c m,lO mI os st=J (c,m)->(st=J (c,m)\/J c∈os/\m=mI c)/\(∀d k,st=J (d,k)->Pl c m d k)/\∀l,J l∈os->Pl c m l (mI l)
 | [],st,_,_=>⟨λh=>⟨h,λo ho=>by cases ho⟩,λc m h=>⟨.inl h,λd k hd=>by
     have h:st=J (c,m):=h;rw[h] at hd;cases hd;exact .inr ⟨rfl,by rw[MF];omega⟩,λl hl=>by cases hl⟩⟩
 |none::os,st,h1,h2=>by
  obtain⟨i1,i2⟩:=Vb os st (λl hl=>h1 l (Aju _ hl)) h2;refine⟨λh=>⟨(i1 h).1,λo ho=>?_⟩,λc m h=>?_⟩
  ·rcases Ϡ.1 ho with rfl|ho
   ·rfl
   ·exact(i1 h).2 o ho
  ·obtain⟨j1,j2,j3⟩:=i2 c m h;refine⟨j1.imp id λj=>⟨Aju _ j.1,j.2⟩,j2,λl hl=>?_⟩;rcases Ϡ.1 hl with e|hl
   ·cases e
   ·exact j3 l hl
 |some x::os,st,h1,h2=>by
  have hx:=h1 x (Ajr ..);have Kk:∀l,J l∈os->l.length=n:=λl hl=>h1 l (Aju _ hl)
  have V:∃d k,mF mI st x=J (d,k)/\d.length=n/\(st=J (d,k)\/d=x/\k=mI x)/\Pl d k x (mI x)/\∀d' k',st=J (d',k')->Pl d k d' k':=by
   cases st with
   |none=>exact⟨x,mI x,rfl,hx,.inr ⟨rfl,rfl⟩,.inr ⟨rfl,by rw[MF];omega⟩,λ_ _ h=>by cases h⟩
   |some q=>
    obtain⟨c,m⟩:=q;have hc:=h2 c m rfl;unfold mF;simp only;by_cases ao:mI x<m\/(mI x=m/\ff x c<0)
    ·rw[if_pos ao];refine⟨x,mI x,rfl,hx,.inr ⟨rfl,rfl⟩,.inr ⟨rfl,by rw[MF];omega⟩,λd' k' h=>?_⟩;cases h;rcases ao with h| ⟨h,h'⟩
     ·exact .inl h
     ·exact .inr ⟨h,by have:=TD (l:=x) (m:=c) (by omega);omega⟩
    ·rw[if_neg ao];refine⟨c,m,rfl,hc,.inl rfl,?_,λd' k' h=>?_⟩
     ·rcases Int.lt_trichotomy m (mI x) with h|h|h
      ·exact .inl h
      ·exact .inr ⟨h,λh'=>ao (.inr ⟨h.symm,h'⟩)⟩
      ·exact absurd (.inl h) ao
     ·cases h;exact .inr ⟨rfl,by rw[MF];omega⟩
  obtain⟨d,k,he,Qp,hor,hle,eW⟩:=V;obtain⟨i1,i2⟩:=Vb os (J (d,k)) Kk (λc m h=>by cases h;exact Qp);have hf:lO mI (J x::os) st=lO mI os (J (d,k)):=by show lO mI os (mF mI st x)=_;rw[he]
  rw[hf];refine⟨λh=>(by cases(i1 h).1),λc m h=>?_⟩;obtain⟨j1,j2,j3⟩:=i2 c m h;have gJ:c.length=n:=by
   rcases j1 with j| ⟨j,-⟩
   ·cases j;exact Qp
   ·exact Kk c j
  have hcd:=j2 d k rfl;refine⟨?_,λd' k' h'=>agO (by omega) (by have:=h2 d' k' h';omega) hcd (eW d' k' h'),λl hl=>?_⟩
  ·rcases j1 with j| ⟨j,j'⟩
   ·cases j;rcases hor with h| ⟨rfl,rfl⟩
    ·exact .inl h
    ·exact .inr ⟨Ajr ..,rfl⟩
   ·exact .inr ⟨Aju _ j,j'⟩
  ·rcases Ϡ.1 hl with e|hl
   ·cases e;exact agO (by omega) (by omega) hcd hle
   ·exact j3 l hl
def aiT{mI:List Cut->Int}{os Rt:List (Option (List Cut))}(h:∀l,J l∈os->l.length=n)(hm:∀l,J l∈os↔J l∈Rt):lO mI os H=lO mI Rt H:=by
 have h':∀l,J l∈Rt->l.length=n:=λl hl=>h l ((hm l).2 hl);obtain⟨a1,a2⟩:=Vb (mI:=mI) os H h (λ_ _ h=>by cases h);obtain⟨b1,b2⟩:=Vb (mI:=mI) Rt H h' (λ_ _ h=>by cases h);cases e:lO mI os H with
 |none=>
  cases e':lO mI Rt H with
  |none=>rfl
  |some q=>
   obtain⟨c,m⟩:=q;obtain⟨j1,-⟩:=b2 c m e';rcases j1 with j| ⟨j,-⟩
   ·cases j
   ·have:=(a1 e).2 _ ((hm c).2 j);cases this
 |some q=>
  obtain⟨c,m⟩:=q;obtain⟨i1,-,i3⟩:=a2 c m e;rcases i1 with i| ⟨i,im⟩
  ·cases i
  cases e':lO mI Rt H with
  |none=>have:=(b1 e').2 _ ((hm c).1 i);cases this
  |some q'=>
   obtain⟨c',m'⟩:=q';obtain⟨j1,-,j3⟩:=b2 c' m' e';rcases j1 with j| ⟨j,jm⟩
   ·cases j
   have k1:=i3 c' ((hm c').2 j);have k2:=j3 c ((hm c).1 i);rw[<-jm] at k1;rw[<-im] at k2;have zZ:=h c i;have pH:=h' c' j;have:m=m'/\c=c':=by
    rcases k1 with k1| ⟨k1,vG⟩
    ·rcases k2 with k2| ⟨k2,-⟩<;>omega
    ·rcases k2 with k2| ⟨-,k2'⟩
     ·omega
     ·refine⟨k1,TC (by omega) ?_⟩;have:=TD (l:=c) (m:=c') (by omega);omega
   obtain⟨rfl,rfl⟩:=this;rfl
def adY(hv:Valid b){G:al}{mI:List Cut->Int}:aaf b G mI (B9 (ϣ b.aC.length))=ga b G mI (2 ^ b.aC.length):=by
 have e:ga b G mI (2 ^ b.aC.length)=lO mI ((ϣ (2 ^ b.aC.length)).map λk=>search b G (iG k) b.pieces.length []) H:=by unfold ga lO;rw[List.foldl_map];rfl
 rw[e];unfold aaf;have QK:∀ks,ks∈B9 (ϣ b.aC.length)↔ks.Sublist (ϣ b.aC.length):=λks=>by unfold B9;rw[Yv,Õ (ϊ _)]
 refine aiT (n:=b.pieces.length) (λl hl=>?_) λl=>?_
 ·obtain⟨ks,xc,e⟩:=ô.1 hl;rw[agQ ((QK ks).1 xc)] at e;have:=(ahq _ _ _ e).1;simpa using this
 ·simp only[ô,Ď];have alT:∀(o o':Nat->Bool),(∀k,k<b.aC.length->o k=o' k)->search b G o b.pieces.length []=search b G o' b.pieces.length []:=λo o' h=>by
   rw[<-Ri,<-Ri];congr 1;exact Ajt λx hx=>by rw[h x (Ď.1 hx)]
  constructor
  ·rintro⟨ks,xc,e⟩;obtain⟨k,hk,eP⟩:=alb (λi=>decide (i∈ks)) b.aC.length hv.nb;refine⟨k,hk,?_⟩;rw[<-e,agQ ((QK ks).1 xc)];exact alT _ _ λi hi=>by unfold iG;rw[eP i hi]
  ·rintro⟨k,hk,e⟩;refine⟨(ϣ b.aC.length).filter λi=> !iG k i,(QK _).2 List.filter_sublist,?_⟩;rw[Ri];exact e
def atJ{l:List Cut}(hv:Row w B 2 Cut.R v l)(hB:B<=w.heap.size)(zx:l.length<=1000):
 ύ prog 130 #[v] w λe w'=>∃u,e=Ω u/\w'.ownsRow w.heap.size 3 1 u (jX l).length ((jX l).map (Y I))/\φ w w':=by
 obtain⟨i0,cJ,cK,aO,aZ⟩:=Ö Pd;obtain⟨A,n,c,rfl,hl,ey,dg,T⟩:=hv.Φ;have hn:n<=1000:=by omega
 unfold ϕ at dg;have ox:=K hl;have H2:=K T;have HI:=K (Ϗ cJ (Ϗ cK (Ϗ aO aZ)));clear hl T hv zx cJ cK aO aZ;go_enter func130,Tryz.ntmps130;go_wp2;go_loopw [3,4] (λo k wr=>∃i:Nat,i<=n/\k=Y I i/\Hid (wr.ownsRow w.heap.size 3 1 o i ((l.take i).map λc=>Y I c.bt))/\φ w wr) (λ_ k _=>n - (ϑ k).toNat)
 case atStart=>exact⟨0,ϛ _,rfl,K ⟨by simp,.inl ⟨rfl,rfl⟩⟩,ό _ _⟩
 case round=>
  obtain⟨i,hi,rfl,aH,hb⟩:=hrel;have HO:=aH;have HB:=K hb;have aN:=hb.size;by_cases ao:i<n
  ·obtain⟨ad,x,cs,rfl,aE,hx,rfl,-,aq⟩:=H2.e i ao;have st:Δ B w wr:=Δ.aJ hb hB;have h0:=cA aq st aE rfl;have HX:=K hx;clear hb hx aq st aH;go_wp2_with (first
    | (at_builtin
       refine wpList_append_own _ rfl (.tmp 11) (.tmp 17) 33 rfl w.heap.size 3 i0 (Y I 0) 1 8 (χ Tryz.underlying33) HI.e.1 HI.e.2.1 HI.e.2.2.1 HI.e.2.2.2 rfl (by decide) _ i _ rfl (HO.e.alloc _) ⟨wr.heap.size,0,H⟩ 1 1 [Y I x.bt] rfl rfl ?c1 ?c2 ?c3 ?c4 ?c5 ?_;case c1=>(intro j u hu;match j,hu with|0,hu=>(simp at hu;subst hu;simp[go_sem,Addr.add]))
       case c2=>simp[Value.oneCell']
       case c3=>(simp only[ϕ];omega)
       case c4=>omega
       case c5=>(simp;omega)
       intro v' w1 b7 cW _;have gC:=K b7;have gX:=K cW;clear b7 cW))
   go_roundw;case rel=>exact⟨i+1,by omega,by go_num,K (by rw[pT HX.e,È];exact gC.e),
    (HB.e.trans ((ό _ _).alloc aN _)).grown gX.e (by simp;omega) (λk hk=>dX HO.e k hk)⟩
   case measure=>simp[ϑ];omega
  ·obtain rfl:i=n:=by omega
   have xJ:((l.take i).map λc=>Y I c.bt)=(l.map (·.bt)).map (Y I):=(by rw[Õ (Nat.le_of_eq ox.e),Ajp];rfl);have pH:(l.map (·.bt)).length=i:=(by simpa using ox.e);have ho:wr.ownsRow w.heap.size 3 1 u3 (l.map (·.bt)).length ((l.map (·.bt)).map (Y I)):=(by rw[pH,<-xJ];exact HO.e);have aG:=K (as9 (CF ho) (ϊ _) (by omega));clear hb aH xJ ho;go_wp2_with (first
    | (go_at_call 106;refine aG.e.mono ?_;rintro e w1 ⟨u,rfl,b7,ai⟩;rw[as8] at b7;have wA:=K b7;have dR:=K ai;clear b7 ai))
   go_ret;exact⟨_,rfl,wA.e.base aN,HB.e.trans (dR.e.mono aN)⟩
def nw{sz:Nat}{R:α->List z->Prop}{xs:List α}(h:Row w w.heap.size sz R v xs)(hb:φ w w'):Row w' w'.heap.size sz R v xs:=
 (h.still (Δ.aJ hb (ϊ _)) λ_ _ h=>h).more hb.size
def PV(W:N)(r:Option (List Cut))(A:Option Addr)(n c:Nat)(f:Bool):Prop:=match r with
 |none=>A=H/\n=0/\c=0/\f=U
 |some x=>f=D/\Row W W.heap.size 2 Cut.R (E A n c) x
def agS{r:Option (List Cut)}{e:Ending}(h:aab w r e w'):∃A n c f,e=Ω (μ #[E A n c,.bool f])/\PV w' r A n c f/\φ w w':=by
 obtain⟨h1,h2⟩:=h;cases r with
 |none=>exact⟨H,0,0,U,h1,⟨rfl,rfl,rfl,rfl⟩,h2⟩
 |some x=>obtain⟨A,n,c,rfl,h⟩:=h1;exact⟨A,n,c,D,rfl,⟨rfl,h⟩,h2⟩
def Sc(W:N)(st:Option (List Cut×Int))(A:Option Addr)(n c:Nat)(m:Int)(f:Bool):Prop:=m=(st.map Prod.snd).getD 0/\PV W (st.map É) A n c f
def PV.up{W W':N}{r:Option (List Cut)}{A:Option Addr}{c:Nat}{f:Bool}(h:PV W r A n c f)(hb:φ W W'):PV W' r A n c f:=by
 cases r with
 |none=>exact h
 |some x=>exact⟨h.1,nw h.2 hb⟩
def zn(mI:List Cut->Int)(os:List (Option (List Cut)))(o:Option (List Cut))(st:Option (List Cut×Int)):lO mI (os++ [o]) st=match o with
 |none=>lO mI os st
 |some l=>mF mI (lO mI os st) l:=by
 unfold lO;rw[List.foldl_append];rfl
def aaw{b:eR}{G:al}{ks:List Nat}:∀(f:Nat) (cs full:List Cut),jT b G ks f cs=J full->full.length=cs.length+f
 |0,cs,full,h=>by cases h;rfl
 |f+1,cs,full,h=>by
  rw[jT] at h;obtain⟨k,-,h⟩:=Ĵ h;obtain⟨fr,-,h⟩:=Ĵ h;unfold jY at h;split at h
  ·have:=aaw f _ full h;simp at this;omega
  ·cases h
def adp{mI:List Cut->Int}{G:al}{l:List (List Nat)}{c:List Cut}(h:lO mI (l.map λks=>jT b G ks b.pieces.length []) H=J (c,m)):c.length=b.pieces.length:=by
 obtain⟨-,h2⟩:=Vb (mI:=mI) (n:=b.pieces.length) (l.map λks=>jT b G ks b.pieces.length []) H (λx hx=>by
  obtain⟨ks,-,e⟩:=ô.1 hx;simpa using aaw _ _ _ e) (λ_ _ h=>by cases h)
 rcases(h2 c m h).1 with h| ⟨h,-⟩
 ·cases h
 ·obtain⟨ks,-,e⟩:=ô.1 h;simpa using aaw _ _ _ e
def agR{b:eR}(hv:Valid b){G:al}{ks:List Nat}(xc:∀k∈ks,k<b.aC.length):∀(f:Nat) (cs full:List Cut),(∀c∈cs,q9 b c)->jT b G ks f cs=J full->∀c∈full,q9 b c
 |0,cs,full,h,e=>by cases e;exact h
 |f+1,cs,full,h,e=>by
  rw[jT] at e;obtain⟨k,hk,e⟩:=Ĵ e;obtain⟨fr,cq,e⟩:=Ĵ e;unfold jY at e;split at e
  ·refine agR hv xc f _ full (λc hc=>(List.mem_append.1 hc).elim (h c) λhc=>?_) e;rw[List.mem_singleton.1 hc];refine⟨⟨k,rfl,xc k hk⟩,?_⟩;have cq:=Ď.1 cq;unfold kF at cq;cases e2:b.aC[k]? with
   |none=>rw[e2] at cq;cases cq
   |some x=>rw[e2] at cq;have:=(hv.bt x (ϡ e2)).aL;show 0<=(fr:Int)/\(fr:Int)<=40;simp only at cq;omega
  ·cases e
def atK(x:List Cut):(jX x).length<=x.length:=by
 have h:=Y2 x;have hn:(jX x).Nodup:=h.1.imp λh=>by omega
 have:=hn.length_le_of_subset λa ha=>(h.2 a).1 ha;rwa[ã] at this
def lA(b:eR)(aL:Bool):List Cut->Int:=if aL then FO b else iH
def adl{G:al}{aL:Bool}{sv:z}(hB:B<=w.heap.size)(hv:Valid b)(hL:G.Ok)(hG:∀i,i<b.pieces.length->1<=G.at i)(ah:aQ w B b pv bv tv)(V:Row w B 1 bI sv (bV b.pieces.length G)):
 ύ prog 118 #[η #[Y I b.ab,pv,bv,tv],sv,.bool aL] w λe w'=>∃A n c m f,e=Ω (μ #[E A n c,Y I m,.bool f])/\Sc w' (aaf b G (lA b aL) (B9 (ϣ b.aC.length))) A n c m f/\φ w w':=by
 obtain⟨A1,n1,c1,rfl,e1,-⟩:=ah.pieces.Φ;obtain⟨A2,n2,c2,rfl,e2,-⟩:=ah.aC.Φ;obtain⟨A3,n3,c3,rfl,-⟩:=ah.aI.Φ;obtain⟨A5,n5,c5,rfl,-⟩:=V.Φ;have qF:n1<=3:=by have:=hv.np;omega
 have dn:n2<=3:=by have:=hv.nb;omega
 have bD:=K ah;have HSV:=K V;have HV:=K hv;have HLG:=K (Ϗ hL hG);have ζ:=K (Ϗ e1 e2);obtain⟨W0,bY,Z0,BW,SX,K4⟩:=acB w b.ab A1 n1 c1 A2 n2 c2 A3 n3 c3 hB;have ahA:Hid (∀(W:N) A m c,W.ownsRow W0.heap.size 3 1 (E A m c) n2 ((tf n2).map (Y I))->ύ prog 159 #[E A m c,Y I n2] W λe w'=>∃u ns,e=Ω u/\en w' W.heap.size u ns/\ns.map É=B9 (tf n2)/\φ W w'):=K λW A m c h=>by
  have hl:(tf n2).length=n2:=by simp[tf]
  have h2:W.ownsRow W0.heap.size 3 1 (E A m c) (tf n2).length ((tf n2).map (Y I)):=by rw[hl];exact h
  have:=atF (l:=tf n2) (CF h2) (ϊ _) (by omega);rw[hl] at this;exact this
 clear ah V hv hL hG e1 e2;obtain⟨⟨g0,g1,g2,g3⟩,gl⟩:=K4.e W0 (ό _ _);go_enter func118,Tryz.ntmps118;go_wp2;rw[<-bY];clear bY;refine Sg (S:=(λχ=> χ.cell? ⟨w.heap.size,2,H⟩=J (E A2 n2 c2))) 9 rfl (by kernel_rfl) ?_ (λef=>?_)
 ·exact(K4.e _ (dT (ό _ _))).1.2.2.1
 refine Wf [0,1,2,4,5,6] [6,5,4,2,1,0] 3 rfl (by kernel_rfl) rfl ef ?_;iterate 6
  apply vx 18 rfl (by kernel_rfl) (by kernel_rfl)
  ·intro W hW;go_simp;all_goals with_reducible rfl
  simp only[Ò,Í,Î,Ë]
 apply po;refine zV 3 rfl (by kernel_rfl) (by kernel_rfl) (λψ Q hK=>?_);go_simp;go_at_call 78;refine(aeN (n:=n2) (by omega) _).mono ?_;rintro e V1 ⟨u1,rfl,yK,JV⟩;obtain⟨A7,m7,c7,rfl⟩:=iI yK;have HU1:=K yK;have LY:Hid (φ W0 V1):=K ⟨JV.os,JV.tape,JV.output,JV.size,JV.block⟩;clear yK JV
 try go_wp2_with fail
 refine hK.out _ _ ?_ (λdi=>?_)
 ·exact(K4.e _ (LY.e.mono (by omega))).1.2.2.1
 clear hK ψ Q ef;try simp only[Ò,Í,Î,Ë]
 refine zV 7 rfl (by kernel_rfl) (by kernel_rfl) (λψ Q hK=>?_);go_simp;go_at_call 159;refine(ahA.e V1 A7 m7 c7 HU1.e).mono ?_;rintro e V2 ⟨u2,ns,rfl,aH,KV,afP⟩;obtain⟨A8,m8,c8,rfl⟩:=iI aH.1;have HO:=K aH;have HNS:=K KV;have Z9:Hid (φ W0 V2):=K (LY.e.trans (afP.mono LY.e.size));clear aH KV afP
 try go_wp2_with fail
 refine hK.out _ _ ?_ (λdN=>?_)
 ·exact(K4.e _ (Z9.e.mono (by omega))).1.2.2.1
 clear hK ψ Q di;try simp only[Ò,Í,Î,Ë]
 refine Wf [8] [8,7,3,6,5,4,2,1,0] 0 rfl (by kernel_rfl) rfl dN ?_;apply vx 4 rfl (by kernel_rfl) (by kernel_rfl)
 ·intro W hW;go_simp;all_goals with_reducible rfl
 simp only[Ò,Í,Î,Ë];apply po;refine GX (by kernel_rfl) ?_;obtain⟨ls,Ot⟩:∃ls,ls=B9 (ϣ n2):=⟨_,rfl⟩
 have hNS:ns.map É=ls.map λks=>ks.map λk:Nat=>(k:Int):=by rw[HNS.e,Ot];unfold B9 tf;rw[ã,ahs]
 have hm8:m8=ls.length:=(yq HO.e.1).trans (by simpa using congrArg List.length hNS);have ans:ls.length<=8:=by rw[Ot];unfold B9;rw[ZZ,Ajv];exact Nat.le_trans (Nat.pow_le_pow_right (by omega) dn) (by decide)
 have agE:∀ks∈ls,(∀k∈ks,k<n2)/\ks.length<=3:=λks h=>by rw[Ot] at h;unfold B9 at h;rw[Yv] at h;have h:=h.trans (List.take_sublist _ _);exact⟨λk hk=>Ď.1 (h.subset hk),by have:=h.length_le;rw[Ajv] at this;omega⟩
 have LS:=K (Ϗ Ot (Ϗ hNS (Ϗ hm8 agE)));have auN:m8<=8:=by omega
 have EN:Hid (b.aC.length=n2/\b.pieces.length=n1):=K ⟨ζ.e.2,ζ.e.1⟩;clear Ot hNS hm8 ans agE g0 g1 g2 g3 gl dN;obtain⟨⟨g0,g1,g2,g3⟩,gl⟩:=K4.e V2 (Z9.e.mono (by omega));go_wp2;go_loopw [9,10,11,13] (λv m f υ W=>∃(j:Nat) (A:Option Addr) (n c:Nat) (mi:Int) (fb:Bool),j<=m8/\υ=Y I j/\v=E A n c/\m=Y I mi/\f=.bool fb/\Hid (Sc W (lO (lA b aL) ((ls.take j).map λks=>jT b G ks b.pieces.length []) H) A n c mi fb)/\φ V2 W) (λ_ _ _ υ _=>m8 - (ϑ υ).toNat);case atStart=>exact⟨0,H,0,0,0,U,ϛ _,rfl,rfl,rfl,rfl,K ⟨rfl,rfl,rfl,rfl,rfl⟩,ό _ _⟩
 case round=>
  rename N=>W2;obtain⟨j,A,n,c,mi,fb,hj,rfl,rfl,rfl,rfl,eW,hb⟩:=hrel;have dj:=K hb;have Z2:=hb.size;have lu:Hid (φ W0 W2):=K (Z9.e.trans (hb.mono Z9.e.size));clear hb g0 g1 g2 g3 gl;obtain⟨⟨g0,g1,g2,g3⟩,gl⟩:=K4.e W2 (lu.e.mono (by omega))
  by_cases Vp:j<m8
  ·have aas:(j:Int)<m8:=by omega
   obtain⟨hr,m',c',e',em,rW,rX,E6⟩:=HO.e.anQ.Φ;cases e';obtain⟨ad,⟨l,u⟩,cs,rfl,gU,hp,rfl,-,aq⟩:=E6 j (by omega);obtain⟨ks,xc,rfl⟩:∃ks:List Nat,ls[j]?=J ks/\(ks.map λk:Nat=>(k:Int))=l:=(by have:=Y9 LS.e.2.1 hp;rw[ú,Option.map_eq_some_iff] at this;exact this);have hu:=HO.e.2 _ (ϡ hp);simp only at hu;obtain⟨A9,n9,c9,rfl⟩:=iI hu;have IG:=LS.e.2.2.2 ks (ϡ xc);have KS:Hid (∀χ,φ W2 χ->(χ.cell? ⟨w.heap.size,0,H⟩=J (Y I b.ab)/\ χ.cell? ⟨w.heap.size,1,H⟩=J (E A1 n1 c1)/\ χ.cell? ⟨w.heap.size,2,H⟩=J (E A2 n2 c2)/\ χ.cell? ⟨w.heap.size,3,H⟩=J (E A3 n3 c3))/\ χ.cell? (ad.add j)=J (E A9 n9 c9)):=K λχ hU=>by have y0:=cA aq (Δ.aJ (dj.e.trans (hU.mono Z2)) (ϊ _)) gU rfl;rw[Nat.mul_one] at y0;exact⟨(K4.e χ ((lu.e.mono (by omega)).trans (hU.mono (by have:=lu.e.size;omega)))).1,y0⟩
   have ae5:(ad.add j).block<W2.heap.size:=(by rw[b9];omega);have y0:=(KS.e W2 (ό _ _)).2;have LZ:Hid (∀W,φ W2 W->ύ prog 125 #[η #[Y I b.ab,E A1 n1 c1,E A2 n2 c2,E A3 n3 c3],E A5 n5 c5,E A9 n9 c9,E H 0 0] W (aab W (jT b G ks b.pieces.length []))):=K λW hW=>by
    obtain⟨hb,st,hz⟩:=SX.e W ((lu.e.mono (by omega)).trans (hW.mono (by have:=lu.e.size;omega)));exact agP HV.e HLG.e.1 HLG.e.2 (ks:=ks) (λk hk=>by rw[EN.e.1];exact IG.1 k hk) IG.2 b.pieces.length [] W W.heap.size (E H 0 0) (by simp) rfl (λc hc=>by cases hc)
     ⟨(bD.e.still st).more (by omega),(HSV.e.still st λ_ _ h=>h).more (by omega),(CF (si hu (dj.e.trans (hW.mono Z2)) (ϊ _)))⟩ Row.nil (ϊ _)
   have xk:=K xc;clear hu hp aq E6 em rW rX xc IG;go_wp2;refine Sg (S:=(λχ=>(χ.cell? ⟨w.heap.size,0,H⟩=J (Y I b.ab)/\ χ.cell? ⟨w.heap.size,1,H⟩=J (E A1 n1 c1)/\ χ.cell? ⟨w.heap.size,2,H⟩=J (E A2 n2 c2)/\ χ.cell? ⟨w.heap.size,3,H⟩=J (E A3 n3 c3))/\ χ.cell? (ad.add j)=J (E A9 n9 c9))) 12 rfl (by kernel_rfl) ?_ (λef=>?_)
   ·exact KS.e _ (dT (ό _ _))
   refine Wf [0,1,2,3,4,5] [5,4,3,2,1,0] 6 rfl (by kernel_rfl) rfl ef ?_;iterate 6
    apply vx 33 rfl (by kernel_rfl) (by kernel_rfl)
    ·intro W hW;obtain⟨⟨h0,h1,h2,h3⟩,h4⟩:=hW;go_simp;all_goals with_reducible rfl
    simp only[Ò,Í,Î,Ë]
   apply po;refine zV 6 rfl (by kernel_rfl) (by kernel_rfl) (λψ Q hK=>?_);go_simp;go_at_call 125;refine(LZ.e _ (dT (ό _ _))).mono ?_;rintro e W3 Ai;obtain⟨zl,Xv,c10,ob,rfl,me,bK⟩:=agS Ai;have PM:=K me;have B3:Hid (φ W2 W3):=K ⟨bK.os,bK.tape,bK.output,bK.size,bK.block⟩;clear Ai me bK
   try go_wp2_with fail
   refine hK.out _ _ ?_ (λdi=>?_)
   ·exact KS.e _ B3.e
   clear hK ψ Q ef;try simp only[Ò,Í,Î,Ë]
   refine Wf [7,8,9,10,11] [11,10,9,8,7,6,5,4,3,2,1,0] 0 rfl (by kernel_rfl) rfl di ?_;iterate 5
    first|apply vx 25 rfl rfl (by kernel_rfl) |apply vx 32 rfl rfl (by kernel_rfl) |apply vx 4 rfl rfl (by kernel_rfl)
    ·intro W hW;obtain⟨⟨h0,h1,h2,h3⟩,h4⟩:=hW;go_simp;all_goals with_reducible rfl
    simp only[Ò,Í,Î,Ë]
   apply po;refine GX (by kernel_rfl) ?_;clear g0 g1 g2 g3 gl di y0;have gl3:w.heap.size<W3.heap.size:=by have:=B3.e.size;have:=lu.e.size;omega
   obtain⟨g0,g1,g2,g3⟩:=(KS.e W3 B3.e).1;obtain⟨r,T⟩:∃r,r=jT b G ks b.pieces.length []:=⟨_,rfl⟩
   have ac6:Hid (PV W3 r zl Xv c10 ob):=K (by rw[T];exact PM.e);have dR:Hid (φ V2 W3):=K (dj.e.trans (B3.e.mono Z2));clear PM;cases r with
   |none=>
    obtain⟨rfl,rfl,rfl,rfl⟩:zl=H/\Xv=0/\c10=0/\ob=U:=ac6.e;go_wp2;go_roundw;case rel=>exact⟨j+1,A,n,c,mi,fb,by omega,by go_num,rfl,rfl,rfl,K (by
     rw[pT xk.e,È,Ķ,zn,<-T];exact⟨eW.e.1,eW.e.2.up B3.e⟩),dR.e⟩
    case measure=>simp[ϑ];omega
   |some x=>
    obtain⟨rfl,dE⟩:ob=D/\Row W3 W3.heap.size 2 Cut.R (E zl Xv c10) x:=ac6.e;have Cx:=aaw _ _ _ T.symm;have HR:=K (Ϗ T.symm (show x.length=b.pieces.length by simpa using Cx))
    have HX:=K dE;have ahy:=K (atJ dE (ϊ _) (by have:=EN.e.2;simp at Cx;omega))
    clear dE Cx T;go_wp2;go_at_call 130;refine ahy.e.mono ?_;rintro e W4 ⟨u4,rfl,hu4,cU⟩;obtain⟨A11,KZ,Th,rfl⟩:=iI hu4;have agv:KZ=(jX x).length:=yq hu4;have HU4:=K (Ϗ hu4 agv);have B4:=K cU;have Z4:=cU.size;clear cU hu4 agv g0 g1 g2 g3;obtain⟨g0,g1,g2,g3⟩:=(KS.e W4 (B3.e.trans (B4.e.mono (by have:=B3.e.size;omega)))).1
    cases aL with
    |false=>
     have yT:Hid ((KZ:Int)=lA b U x):=K (by show(KZ:Int)=((jX x).length:Int);rw[HU4.e.2]);cases hb:lO (lA b U) ((ls.take j).map λks=>jT b G ks b.pieces.length []) H with
     |none=>
      have aiG:=eW.e;rw[hb] at aiG;obtain⟨rfl,rfl,rfl,rfl,rfl⟩:=aiG;go_wp2;go_roundw;case rel=>exact⟨j+1,zl,Xv,c10,(KZ:Int),D,by omega,by go_num,rfl,rfl,rfl,K (by
       rw[pT xk.e,È,Ķ,zn,HR.e.1];have e:mF (lA b U) (lO (lA b U) ((ls.take j).map λks=>jT b G ks b.pieces.length []) H) x=J (x,lA b U x):=by rw[hb];rfl
       simp only[e];exact⟨yT.e,rfl,nw HX.e B4.e⟩),dR.e.trans (B4.e.mono (by have:=dR.e.size;have:=dj.e.size;have:=B3.e.size;omega))⟩
      case measure=>simp[ϑ];omega
     |some q=>
      obtain⟨d,k⟩:=q;have Wn:=eW.e;rw[hb] at Wn;obtain⟨rfl,rfl,dE⟩:mi=k/\fb=D/\Row W2 W2.heap.size 2 Cut.R (E A n c) d:=Wn;have aiG:=K (Ϗ hb dE);have Qp:d.length=b.pieces.length:=adp hb;clear dE hb;by_cases h1:(KZ:Int)<mi
      ·go_wp2;go_roundw;case rel=>exact⟨j+1,zl,Xv,c10,(KZ:Int),D,by omega,by go_num,rfl,rfl,rfl,K (by
        rw[pT xk.e,È,Ķ,zn,HR.e.1];have e:mF (lA b U) (lO (lA b U) ((ls.take j).map λks=>jT b G ks b.pieces.length []) H) x=J (x,lA b U x):=by rw[aiG.e.1];unfold mF;simp only;rw[if_pos (.inl (by have:=yT.e;omega))]
        simp only[e];exact⟨yT.e,rfl,nw HX.e B4.e⟩),dR.e.trans (B4.e.mono (by have:=dR.e.size;have:=dj.e.size;have:=B3.e.size;omega))⟩
       case measure=>simp[ϑ];omega
      ·by_cases h2:(KZ:Int)=mi
       ·have L2:=K (agU (l:=x) (m:=d) (nw HX.e B4.e) (nw aiG.e.2 (B3.e.trans (B4.e.mono (by have:=B3.e.size;omega)))) (ϊ _) (by rw[Qp];exact HR.e.2));obtain⟨o,ho⟩:∃o,o=decide (ff x d<0):=⟨_,rfl⟩
        rw[<-ho] at L2;have sB:=K ho;clear ho;cases o with
        |true=>
         go_wp2;go_at_call 46;refine L2.e.mono ?_;rintro e W6 ⟨rfl,eC⟩;have B6:Hid (φ W3 W6):=K (B4.e.trans (eC.mono B4.e.size));clear eC;go_wp2;go_roundw;case rel=>exact⟨j+1,zl,Xv,c10,mi,D,by omega,by go_num,rfl,rfl,rfl,K (by
              rw[pT xk.e,È,Ķ,zn,HR.e.1];have e:mF (lA b U) (lO (lA b U) ((ls.take j).map λks=>jT b G ks b.pieces.length []) H) x=J (x,lA b U x):=by rw[aiG.e.1];unfold mF;simp only;rw[if_pos (.inr ⟨by have:=yT.e;omega,of_decide_eq_true sB.e.symm⟩)]
              simp only[e];exact⟨(h2.symm.trans yT.e),rfl,nw HX.e B6.e⟩),dR.e.trans (B6.e.mono (by have:=dR.e.size;have:=dj.e.size;have:=B3.e.size;omega))⟩
         case measure=>simp[ϑ];omega
        |false=>
         go_wp2;go_at_call 46;refine L2.e.mono ?_;rintro e W6 ⟨rfl,eC⟩;have B6:Hid (φ W3 W6):=K (B4.e.trans (eC.mono B4.e.size));clear eC;go_wp2;go_roundw;case rel=>exact⟨j+1,A,n,c,mi,D,by omega,by go_num,rfl,rfl,rfl,K (by
              rw[pT xk.e,È,Ķ,zn,HR.e.1,aiG.e.1];have e:mF (lA b U) (J (d,mi)) x=J (d,mi):=by unfold mF;simp only;rw[if_neg (by rintro(h| ⟨-,h⟩);(have:=yT.e;omega);exact absurd h (of_decide_eq_false sB.e.symm))]
              simp only[e];exact⟨rfl,rfl,nw aiG.e.2 (B3.e.trans (B6.e.mono (by have:=B3.e.size;omega)))⟩),dR.e.trans (B6.e.mono (by have:=dR.e.size;have:=dj.e.size;have:=B3.e.size;omega))⟩
         case measure=>simp[ϑ];omega
       ·have h3:mi<(KZ:Int):=by omega
        go_wp2;go_roundw;case rel=>exact⟨j+1,A,n,c,mi,D,by omega,by go_num,rfl,rfl,rfl,K (by
             rw[pT xk.e,È,Ķ,zn,HR.e.1,aiG.e.1];have e:mF (lA b U) (J (d,mi)) x=J (d,mi):=by unfold mF;simp only;rw[if_neg (by have:=yT.e;rintro(h| ⟨h,-⟩)<;>omega)]
             simp only[e];exact⟨rfl,rfl,nw aiG.e.2 (B3.e.trans (B4.e.mono (by have:=B3.e.size;omega)))⟩),dR.e.trans (B4.e.mono (by have:=dR.e.size;have:=dj.e.size;have:=B3.e.size;omega))⟩
        case measure=>simp[ϑ];omega
    |true=>
     have acA:Hid (ύ prog 131 #[η #[Y I b.ab,E A1 n1 c1,E A2 n2 c2,E A3 n3 c3],E A11 KZ Th] W4 λe w'=>e=Ω (Y I (lA b D x))/\φ W4 w'):=K (by
      obtain⟨hb,st,hz⟩:=SX.e W4 ((lu.e.mono (by omega)).trans ((B3.e.trans (B4.e.mono (by have:=B3.e.size;omega))).mono (by have:=lu.e.size;omega)));refine are (ks:=jX x) (bD.e.still st) (CF (l:=jX x) (by have h:=HU4.e.1;rw[HU4.e.2] at h |-;exact h)) (by omega) (ϊ _) ?_ (λk hk=>?_) (λy hy=>by have:=(HV.e.bt y hy).aL;omega)
      ·have:=(atK x);have:=HR.e.2;have:=EN.e.2;omega
      ·obtain⟨cc,hc,rfl⟩:=ô.1 (((Y2 x).2 k).1 hk);exact((agR HV.e (λk hk=>by rw[EN.e.1];exact(LS.e.2.2.2 ks (ϡ xk.e)).1 k hk) _ [] x (λc hc=>by cases hc) HR.e.1) cc hc).bt)
     obtain⟨mm,hmm⟩:∃mm,mm=lA b D x:=⟨_,rfl⟩
     rw[<-hmm] at acA;have yT:=K hmm;clear hmm;go_wp2
     go_at_call 131;refine acA.e.mono ?_;rintro e W7 ⟨rfl,oH⟩;have B7:Hid (φ W3 W7):=K (B4.e.trans (oH.mono Z4));clear oH;cases hb:lO (lA b D) ((ls.take j).map λks=>jT b G ks b.pieces.length []) H with
     |none=>
      have aiG:=eW.e;rw[hb] at aiG;obtain⟨rfl,rfl,rfl,rfl,rfl⟩:=aiG;go_wp2;go_roundw;case rel=>exact⟨j+1,zl,Xv,c10,mm,D,by omega,by go_num,rfl,rfl,rfl,K (by
       rw[pT xk.e,È,Ķ,zn,HR.e.1];have e:mF (lA b D) (lO (lA b D) ((ls.take j).map λks=>jT b G ks b.pieces.length []) H) x=J (x,lA b D x):=by rw[hb];rfl
       simp only[e];exact⟨yT.e,rfl,nw HX.e B7.e⟩),dR.e.trans (B7.e.mono (by have:=dR.e.size;have:=dj.e.size;have:=B3.e.size;omega))⟩
      case measure=>simp[ϑ];omega
     |some q=>
      obtain⟨d,k⟩:=q;have Wn:=eW.e;rw[hb] at Wn;obtain⟨rfl,rfl,dE⟩:mi=k/\fb=D/\Row W2 W2.heap.size 2 Cut.R (E A n c) d:=Wn;have aiG:=K (Ϗ hb dE);have Qp:d.length=b.pieces.length:=adp hb;clear dE hb;by_cases h1:mm<mi
      ·go_wp2;go_roundw;case rel=>exact⟨j+1,zl,Xv,c10,mm,D,by omega,by go_num,rfl,rfl,rfl,K (by
        rw[pT xk.e,È,Ķ,zn,HR.e.1];have e:mF (lA b D) (lO (lA b D) ((ls.take j).map λks=>jT b G ks b.pieces.length []) H) x=J (x,lA b D x):=by rw[aiG.e.1];unfold mF;simp only;rw[if_pos (.inl (by have:=yT.e;omega))]
        simp only[e];exact⟨yT.e,rfl,nw HX.e B7.e⟩),dR.e.trans (B7.e.mono (by have:=dR.e.size;have:=dj.e.size;have:=B3.e.size;omega))⟩
       case measure=>simp[ϑ];omega
      ·by_cases h2:mm=mi
       ·have L2:=K (agU (l:=x) (m:=d) (nw HX.e B7.e) (nw aiG.e.2 (B3.e.trans (B7.e.mono (by have:=B3.e.size;omega)))) (ϊ _) (by rw[Qp];exact HR.e.2));obtain⟨o,ho⟩:∃o,o=decide (ff x d<0):=⟨_,rfl⟩
        rw[<-ho] at L2;have sB:=K ho;clear ho;cases o with
        |true=>
         go_wp2;go_at_call 46;refine L2.e.mono ?_;rintro e W6 ⟨rfl,eC⟩;have B6:Hid (φ W3 W6):=K (B7.e.trans (eC.mono B7.e.size));clear eC;go_wp2;go_roundw;case rel=>exact⟨j+1,zl,Xv,c10,mi,D,by omega,by go_num,rfl,rfl,rfl,K (by
              rw[pT xk.e,È,Ķ,zn,HR.e.1];have e:mF (lA b D) (lO (lA b D) ((ls.take j).map λks=>jT b G ks b.pieces.length []) H) x=J (x,lA b D x):=by rw[aiG.e.1];unfold mF;simp only;rw[if_pos (.inr ⟨by have:=yT.e;omega,of_decide_eq_true sB.e.symm⟩)]
              simp only[e];exact⟨(h2.symm.trans yT.e),rfl,nw HX.e B6.e⟩),dR.e.trans (B6.e.mono (by have:=dR.e.size;have:=dj.e.size;have:=B3.e.size;omega))⟩
         case measure=>simp[ϑ];omega
        |false=>
         go_wp2;go_at_call 46;refine L2.e.mono ?_;rintro e W6 ⟨rfl,eC⟩;have B6:Hid (φ W3 W6):=K (B7.e.trans (eC.mono B7.e.size));clear eC;go_wp2;go_roundw;case rel=>exact⟨j+1,A,n,c,mi,D,by omega,by go_num,rfl,rfl,rfl,K (by
              rw[pT xk.e,È,Ķ,zn,HR.e.1,aiG.e.1];have e:mF (lA b D) (J (d,mi)) x=J (d,mi):=by unfold mF;simp only;rw[if_neg (by rintro(h| ⟨-,h⟩);(have:=yT.e;omega);exact absurd h (of_decide_eq_false sB.e.symm))]
              simp only[e];exact⟨rfl,rfl,nw aiG.e.2 (B3.e.trans (B6.e.mono (by have:=B3.e.size;omega)))⟩),dR.e.trans (B6.e.mono (by have:=dR.e.size;have:=dj.e.size;have:=B3.e.size;omega))⟩
         case measure=>simp[ϑ];omega
       ·have h3:mi<mm:=by omega
        go_wp2;go_roundw;case rel=>exact⟨j+1,A,n,c,mi,D,by omega,by go_num,rfl,rfl,rfl,K (by
             rw[pT xk.e,È,Ķ,zn,HR.e.1,aiG.e.1];have e:mF (lA b D) (J (d,mi)) x=J (d,mi):=by unfold mF;simp only;rw[if_neg (by have:=yT.e;rintro(h| ⟨h,-⟩)<;>omega)]
             simp only[e];exact⟨rfl,rfl,nw aiG.e.2 (B3.e.trans (B7.e.mono (by have:=B3.e.size;omega)))⟩),dR.e.trans (B7.e.mono (by have:=dR.e.size;have:=dj.e.size;have:=B3.e.size;omega))⟩
        case measure=>simp[ϑ];omega
  ·obtain rfl:j=m8:=by omega
   go_wp2
   go_ret3
   refine⟨_,_,_,_,_,rfl,?_,BW.e.trans (lu.e.mono (by omega))⟩;rw[aaf,EN.e.1,<-LS.e.1,<-Õ (Nat.le_of_eq LS.e.2.2.1.symm)];exact eW.e
def wV:List Cut:=[⟨1,0⟩,⟨0,0⟩,⟨0,6⟩]
def uS:bN:=⟨SY,8,[⟨3,3⟩]⟩
def zi:cZ bg=0:=by decide+kernel
def VB:bT bg 0=0:=by decide+kernel
def afb:Hi uS=[⟨0,2⟩,⟨4,7⟩]:=by decide+kernel
def afj:Jj uS 0=4:=by decide+kernel
def afk:Jj uS 1=8:=by decide+kernel
def afo:scan (λ_ s=>s) [] [sf bg [4,3,3],gZ bg jP]=0:=by decide+kernel
def afp:scan (λ_ s=>s) [] [sf bg [4,3,3],gZ bg wV]=0:=by decide+kernel
def afg:db bg (gx [4,3,3]) jP=D:=by decide+kernel
def afh:db bg (gx [4,3,3]) wV=U:=by decide+kernel
def ae9:uP bg=2:=by decide+kernel
def afv:pV (aB bg)=⟨10,10⟩:=by decide+kernel
def afm:bT bg (yv bg 0)=0:=by decide+kernel
def afc:(aB bg).map (·.at 0)=[4,5]:=by decide+kernel
def T5:bT bg (gZ bg jP)=0:=by decide+kernel
def T6:bT bg (gZ bg wV)=0:=by decide+kernel
def afd:ng (fL (λω=>db bg ω jP) (aB bg)) (aB bg).length=1:=by decide+kernel
def afe:ng (fL (λω=>db bg ω wV) (aB bg)) (aB bg).length=0:=by decide+kernel
def afs:Gk bg (aB bg) jP=D:=by decide+kernel
def aft:Gk bg (aB bg) wV=U:=by decide+kernel
def afr:C6 bg jP=[1,1]:=by decide+kernel
def Ge{xs ys:List Int}(hp:xs.Perm ys)(V:ys.Pairwise (λx y=>decide (x<=y)=D)):fQ xs=ys:=by have h1:(fQ xs).Perm ys:=(List.mergeSort_perm _ _).trans hp;refine h1.eq_of_pairwise (le:=λx y=>decide (x<=y)=D) (λa c _ _ h k=>by simp only[decide_eq_true_eq] at h k;omega) ?_ V;exact List.pairwise_mergeSort (λa b c h k=>by simp only[decide_eq_true_eq] at *;omega) (λa b=>by simp;omega) _
def SR(mI:List Cut->Int):iR bg mI=J (jP,mI jP):=by
 have s0:search bg (cB (aB bg)) (iG 0) bg.pieces.length []=H:=by decide+kernel
 have s1:search bg (cB (aB bg)) (iG 1) bg.pieces.length []=H:=by decide+kernel
 have s2:search bg (cB (aB bg)) (iG 2) bg.pieces.length []=H:=by decide+kernel
 have s3:search bg (cB (aB bg)) (iG 3) bg.pieces.length []=J jP:=by decide+kernel
 unfold iR;rw[if_pos VB];show ga bg (cB (aB bg)) mI 4=_;rw[pn,pn,pn,pn];simp only[ga,List.range_zero,List.foldl_nil,sH,s0,s1,s2,s3,mF]
def QF:fQ (jP.map (·.bt))=[0,0,1]:=Ge (by decide) (by decide)
def aff:iR bg iH=J (jP,2):=by rw[SR];unfold iH jX;rw[QF];rfl
def afq:iR bg (FO bg)=J (jP,14):=by
 rw[SR];unfold FO jX;rw[QF];have:mV bg (Lib.compact [0,0,1])=14:=by decide+kernel
 rw[this]
def ae8:DG bg=(0,1):=by decide+kernel
def PT:ByteArray:={data:=#[97,115,104]}
def hJ:bN:=⟨PT,13,[]⟩
def ae6:cZ (fH bg hJ)=0:=by decide+kernel
def nE:List Cut:=[⟨2,0⟩,⟨2,6⟩,⟨2,10⟩]
def ae7:iR (fH bg hJ) iH=J (nE,1):=by
 have s0:search (fH bg hJ) (cB (aB (fH bg hJ))) (iG 0) 3 []=H:=by decide+kernel
 have s1:search (fH bg hJ) (cB (aB (fH bg hJ))) (iG 1) 3 []=H:=by decide+kernel
 have s2:search (fH bg hJ) (cB (aB (fH bg hJ))) (iG 2) 3 []=H:=by decide+kernel
 have s3:search (fH bg hJ) (cB (aB (fH bg hJ))) (iG 3) 3 []=J jP:=by decide+kernel
 have s4:search (fH bg hJ) (cB (aB (fH bg hJ))) (iG 4) 3 []=J nE:=by decide+kernel
 have s5:search (fH bg hJ) (cB (aB (fH bg hJ))) (iG 5) 3 []=J [⟨2,0⟩,⟨0,0⟩,⟨0,4⟩]:=by decide+kernel
 have s6:search (fH bg hJ) (cB (aB (fH bg hJ))) (iG 6) 3 []=J [⟨1,0⟩,⟨2,0⟩,⟨2,4⟩]:=by decide+kernel
 have s7:search (fH bg hJ) (cB (aB (fH bg hJ))) (iG 7) 3 []=J jP:=by decide+kernel
 have m3:iH jP=2:=by unfold iH jX;rw[QF];rfl
 have m4:iH nE=1:=by unfold iH jX;rw[Ge (ys:=[2,2,2]) (by decide) (by decide)];rfl
 have m5:iH [⟨2,0⟩,⟨0,0⟩,⟨0,4⟩]=2:=by unfold iH jX;rw[Ge (ys:=[0,0,2]) (by decide) (by decide)];rfl
 have m6:iH [⟨1,0⟩,⟨2,0⟩,⟨2,4⟩]=2:=by unfold iH jX;rw[Ge (ys:=[1,2,2]) (by decide) (by decide)];rfl
 have ho:bT (fH bg hJ) 0=0:=by decide+kernel
 unfold iR;rw[if_pos ho];show ga (fH bg hJ) (cB (aB (fH bg hJ))) iH 8=_;have hl:(fH bg hJ).pieces.length=3:=rfl;rw[pn,pn,pn,pn,pn,pn,pn,pn];simp only[ga,List.range_zero,List.foldl_nil,sH,hl,s0,s1,s2,s3,s4,s5,s6,s7,mF,m3,m4,m5,m6]
 decide
def afi:oT bg 0=[4,5]:=by unfold oT;rw[afc,Ge (ys:=[4,5]) (by decide) (by decide)];rfl
def BN:eR:={bg with aI:=bg.aI++ [⟨[0],⟨4,4⟩⟩,⟨[2],⟨2,2⟩⟩]}
def afu:cZ BN=0:=by decide+kernel
def aid{kv:z}(hB:B<=w.heap.size)(ah:aQ w B b pv bv tv)(Aw:x.name.size<=ϕ)(iZ:Row w B 2 Span.R kv x.cM)(h0:cZ b=0)(h1:cZ (fH b x)=0):
 ύ prog 53 #[η #[Y I b.ab,pv,bv,tv],η #[.string x.name,Y I x.aL,kv]] w λe w'=>∃fE gH ez,e=Ω (μ #[η #[Y I b.ab,fE,gH,ez],Y I 0])/\aQ w' w'.heap.size (fH b x) fE gH ez/\φ w w':=by
 refine(aaI hB ah Aw iZ h0).mono λe w' h=>?_;have T:BE b x=fH b x:=by unfold BE;rw[if_pos h1]
 rw[T,h1] at h;obtain⟨P',n1,c1,A',n2,c2,T',n3,c3,rfl,hk,hb⟩:=h;exact⟨_,_,_,rfl,hk w' ⟨ϊ _,λ_ _ _=>rfl⟩,hb⟩
def lV(n:Nat)(f:Nat->Int):List z:=(ϣ n).map λk=>Y I (f k)
def ZT(n:Nat)(f:Nat->Int):(lV n f).length=n:=by simp[lV]
def acb{f:Nat->Int}(h:k<n):(lV n f)[k]?=J (Y I (f k)):=by unfold lV;rw[ú,List.getElem?_range h];rfl
def acd{f g:Nat->Int}(h:∀k,k<n->f k=g k):lV n f=lV n g:=by unfold lV;exact Ajq λk hk=>by rw[h k (Ď.1 hk)]
def anR{f g:Nat->Int}{v:Int}(hj:∀k,k<n->g k=if k=j then v else f k):(lV n f).set j (Y I v)=lV n g:=by
 apply List.ext_getElem?;intro k;rw[List.getElem?_set,ZT];by_cases hk:k<n
 ·rw[acb hk,acb hk,hj k hk];by_cases e:j=k
  ·subst e;rw[if_pos rfl,if_pos rfl,if_pos hk]
  ·rw[if_neg e,if_neg (λh=>e h.symm)]
 ·have h1:(lV n g)[k]?=H:=Aib (by rw[ZT];omega);have h2:(lV n f)[k]?=H:=Aib (by rw[ZT];omega);rw[h1,h2];split
  ·rename_i e;subst e;rw[if_neg hk]
  ·rfl
def RA{M x:al}(hk:k<3):(iq M x j).at k=if k<j then max (M.at k) (x.at k) else M.at k:=by
 have e0:∀ω:al,ω.at 0=ω.a:=λ_=>rfl;have e1:∀ω:al,ω.at 1=ω.b:=λ_=>rfl;have e2:∀ω:al,ω.at 2=ω.c:=λ_=>rfl;have:k=0\/k=1\/k=2:=by omega
 rcases this with rfl|rfl|rfl
 ·simp only[e0,iq];split<;>(try split)<;>omega
 ·simp only[e1,iq];split<;>(try split)<;>omega
 ·simp only[e2,iq];split<;>(try split)<;>omega
def arE(n:Nat):(madeCells #[Y I 0] (n * 1)).toList=lV n λ_=>0:=by
 rw[toList_madeCells_one,Nat.mul_one];unfold lV
 symm
 rw[List.eq_replicate_iff];simp
def ab7{ls:List al}{ts:List (List Int×z)}{base:Nat}(hB:B<=w.heap.size)(ah:aQ w B b pv bv tv)(hn:b.pieces.length<=3)(aH:en w base v ts)(eK:ts.map É=ls.map (bV b.pieces.length))
 (cD:∀ω∈ls,ω.Ok)(hlen:ls.length<=27):
 ύ prog 116 #[η #[Y I b.ab,pv,bv,tv],v] w λe w'=>∃u,e=Ω u/\w'.ownsRow w.heap.size 3 1 u b.pieces.length (lV b.pieces.length (cB ls).at)/\φ w w':=by
 obtain⟨A1,n1,c1,rfl,e1,-⟩:=ah.pieces.Φ;obtain⟨A2,n2,c2,rfl,-⟩:=ah.aC.Φ;obtain⟨A3,n3,c3,rfl,-⟩:=ah.aI.Φ;obtain⟨A9,n9,c9,rfl⟩:=iI aH.1;have kW:n9=ls.length:=by rw[yq aH.1,abi eK]
 rw[e1] at hn eK |-;obtain⟨i0,cJ,cK,aO,aZ⟩:=Ö Pd;have Cj:∀w:N,(Instr.makeSlice 33 (Y I n1) (Y I n1)).run prog w=.ok (E (J ⟨w.heap.size,0,H⟩) n1 n1) (w.alloc (.cells (madeCells #[Y I 0] (n1 * 1)) 3)):=λw=>by have T:=run_makeSlice (P:=prog) w 33 3 i0 _ (χ Tryz.underlying33) cJ cK .i64 .i64 n1 n1 (by omega) (Int.le_refl _) (by rw[aO];omega) (by rw[aZ];omega) (by omega);rw[aO] at T;simpa [Value.cells] using T
 obtain⟨mc,Oy⟩:∃mc,mc=madeCells #[Y I 0] (n1 * 1):=⟨_,rfl⟩
 rw[<-Oy] at Cj;have HM:Hid (mc.size=n1 * 1/\mc.toList=lV n1 λ_=>0):=K ⟨by rw[Oy];exact size_madeCells _ _,by rw[Oy];exact arE n1⟩
 have HO:=K aH;have HT:=K eK;have OK:=K cD;have HN9:=K kW;have aif:n9<=27:=by omega
 clear ah aH eK cD Oy cJ cK aO aZ kW e1;go_enter func116,Tryz.ntmps116;go_wp2;obtain⟨W0,bY⟩:∃W0,W0=(w.alloc (Ξ #[Y I b.ab,E A1 n1 c1,E A2 n2 c2,E A3 n3 c3] 26)).alloc (.cells mc 3):=⟨_,rfl⟩
 have Z0:W0.heap.size=w.heap.size+2:=by rw[bY];simp
 have B0:Hid (φ w W0):=K (by rw[bY];exact((ό _ _).alloc (ϊ _) _).alloc (by simp) _);have O0:Hid (W0.ownsRow (w.heap.size+1) 3 1 (E (J ⟨w.heap.size+1,0,H⟩) n1 n1) n1 (lV n1 λ_=>0)):=K ⟨by rw[ZT];omega,.inr ⟨w.heap.size+1,n1,mc,rfl,ϊ _,by rw[bY];exact wK (by simp),ϊ _,by unfold ϕ;omega,HM.e.1,by rw[HM.e.2,Õ (by rw[ZT];omega)]⟩⟩;rw[<-bY];clear bY;go_loopw [6] (λu wr=>∃i:Nat,i<=n9/\u=Y I i/\Hid (wr.ownsRow (w.heap.size+1) 3 1 (E (J ⟨w.heap.size+1,0,H⟩) n1 n1) n1 (lV n1 (cB (ls.take i)).at))/\φ w wr) (λu _=>n9 - (ϑ u).toNat);case atStart=>exact⟨0,ϛ _,rfl,K (by rw[acd (g:=λ_=>0) (λk hk=>by simp[cB,al.at])];exact O0.e),B0.e⟩
 case round=>
  rename N=>W1;obtain⟨i,hi,rfl,IQ,hb⟩:=hrel;have HB:=K hb;have z1:=hb.size;by_cases ao:i<n9
  ·obtain⟨ad,ω,A5,c5,rfl,aE,hL,hu,aq⟩:=atO HO.e HT.e ao;have okL:=OK.e ω (ϡ hL);obtain⟨M,hM⟩:∃M,M=cB (ls.take i):=⟨_,rfl⟩
   have HX:Hid (cB (ls.take (i+1))=iq M ω 3):=K (by rw[pT hL,UD,hM]);rw[<-hM] at IQ;have RL:=K (CF (l:=bV n1 ω) (by rw[KY];exact hu))
   have HC:=K aq;have xI:(i:Int)<n9:=by omega
   clear hL aq hu hM hb;go_wp2;go_loopw [7] (λυ W=>∃j:Nat,j<=n1/\υ=Y I j/\Hid (W.ownsRow (w.heap.size+1) 3 1 (E (J ⟨w.heap.size+1,0,H⟩) n1 n1) n1 (lV n1 (iq M ω j).at))/\φ w W) (λυ _=>n1 - (ϑ υ).toNat);case atStart=>exact⟨0,ϛ _,rfl,K (by rw[acd (g:=M.at) (λk hk=>by rw[RA (by omega),if_neg (by omega)])];exact IQ.e),HB.e⟩
   case round=>
    rename N=>W2;obtain⟨j,hj,rfl,H8,hb⟩:=hrel;have dj:=K hb;have z2:=hb.size;by_cases sU:j<n1
    ·have auG:(j:Int)<n1:=by omega
     have y0:=HC.e W2 hb;have hrl:=RL.e.still (R':=bI) (Δ.aJ hb (ϊ _)) λ_ _ h=>h
     obtain⟨A6,n6,c6,e6,-,-,-,hr6⟩:=hrl.Φ;injection e6 with q1 q2 q3;subst q1 q2 q3;obtain⟨ad6,x,cs,rfl,ae3,hx,rfl,-,Wc⟩:=hr6 j sU;rw[Pw ω sU] at hx;cases hx;have y1: W2.cell? (ad6.add j)=J (Y I (ω.at j)):=by have:=Wc 0 _ rfl;simpa using this
     have y2: W2.cell? ⟨w.heap.size+1,j,H⟩=J (Y I ((iq M ω j).at j)):=(by have:=vK H8.e j _ (acb sU);rwa[kP] at this);have y3: W2.frozen? ⟨w.heap.size+1,j,H⟩=U:=H8.e.frozenAt j;rw[RA (by omega),if_neg (by omega)] at y2;have VH:=okL j;have NX:Hid ((lV n1 (iq M ω j).at).set j (Y I (max (M.at j) (ω.at j)))=lV n1 (iq M ω (j+1)).at):=K (anR λk hk=>by
      rw[RA (by omega),RA (by omega)];by_cases e:k=j
      ·subst e;rw[if_pos (by omega),if_pos rfl]
      ·rw[if_neg e];by_cases e2:k<j
       ·rw[if_pos (by omega),if_pos e2]
       ·rw[if_neg (by omega),if_neg e2])
     clear hrl hr6 Wc hb;go_wp2;refine tA 15 (by kernel_rfl) (by kernel_rfl) ?_;simp only[List.take_succ_cons,List.take_zero,List.drop_succ_cons,List.drop_zero];repeat still_step
     refine wpStill_nil ?_;go_wp2;go_roundw;case rel=>exact⟨j+1,by omega,by go_num,K (by
      rw[<-NX.e];exact yu (u:=Y I (max (M.at j) (ω.at j))) (show World.ownsRow W2.drew _ _ _ _ _ _ from H8.e) (by omega)),(dT dj.e).setCell (p:=⟨w.heap.size+1,j,H⟩) (by simp) _⟩
     case measure=>simp[ϑ];omega
    ·obtain rfl:j=n1:=by omega
     go_wp2;go_roundw;case rel=>exact⟨i+1,by omega,by go_num,K (by
      rw[HX.e,acd (g:=(iq M ω j).at) (λk hk=>by rw[RA (by omega),RA (by omega),if_pos (by omega),if_pos hk])];exact H8.e),dj.e⟩
     case measure=>simp[ϑ];omega
  ·obtain rfl:i=n9:=by omega
   go_wp2;go_ret;refine⟨_,rfl,?_,HB.e⟩;have e:ls.take i=ls:=Õ (by rw[<-HN9.e];exact ϊ _);rw[e] at IQ;exact IQ.e.base (by omega)
def aa4(w:N)(b:eR)(mI:List Cut->Int)(e:Ending)(w':N):Prop:=
 ∃A n c m f,e=Ω (μ #[E A n c,Y I m,.bool f,Y I (bT b 0)])/\Sc w' (iR b mI) A n c m f/\φ w w'
def abd(ag:bT b 0=0):(∀ω∈aB b,ω.Ok)/\(aB b).length<=27/\(cB (aB b)).Ok/\∀i,i<b.pieces.length->1<=(cB (aB b)).at i:=by
 have hv:=fG (mX ag).1;have aw:aB b≠ []:=λe=>(mX ag).2.2 (by rw[e];rfl)
 have h1:∀ω∈aB b,ω.Ok:=wI hv;refine⟨h1,DF hv,UC _ h1,λi hi=>?_⟩;obtain⟨ω,hL⟩:=List.exists_mem_of_ne_nil _ aw;have:=Bt hv hL hi;have:=Xg i (aB b) ω hL;omega
def ab3{base:Nat}{ω:al}(h:w.ownsRow base 3 1 v n (lV n ω.at)):Row w w.heap.size 1 bI v (bV n ω):=by refine CF (base:=base) (e:=3) ?_;rw[KY,show(bV n ω).map (Y I)=lV n ω.at by unfold bV lV;rw[Ajp];rfl];exact h
def aew(lg:Bool)(hB:B<=w.heap.size)(ah:aQ w B b pv bv tv):
 ύ prog (cond lg 37 34) #[η #[Y I b.ab,pv,bv,tv]] w (aa4 w b (lA b lg)):=by
 obtain⟨A1,n1,c1,A2,n2,c2,A3,n3,c3,rfl,rfl,rfl⟩:=ah.op;have bD:=K ah;obtain⟨W0,bY,Z0,BW,SX,K4⟩:=lj ah hB;rw[<-Z0] at SX K4;have Sk:Hid (∀W,φ W0 W->ύ prog 103 #[η #[Y I b.ab,E A1 n1 c1,E A2 n2 c2,E A3 n3 c3],Y I 0] W λe w'=>∃v ts,e=Ω (μ #[v,Y I (bT b 0)])/\en w' W.heap.size v ts/\ts.map É=z8 b 0/\φ W w'):=K λW hW=>ab8 (SX.e W hW).1 (ϊ _)
 clear ah;obtain⟨⟨g0,g1,g2,g3⟩,-⟩:=K4.e W0 (ό _ _);have gl:w.heap.size<W0.heap.size:=by omega
 have aaN:Hid (∀(W:N) A n c,φ W0 W->bT b 0=0->Row W W.heap.size 1 bI (E A n c) (bV b.pieces.length (cB (aB b)))->ύ prog 118 #[η #[Y I b.ab,E A1 n1 c1,E A2 n2 c2,E A3 n3 c3],E A n c,.bool lg] W λe w'=>∃A n c m f,e=Ω (μ #[E A n c,Y I m,.bool f])/\Sc w' (iR b (lA b lg)) A n c m f/\φ W w'):=K λW A n c hW ag T=>by have F:=abd ag;have hv:=fG (mX ag).1;have:=adl (aL:=lg) (ϊ _) hv F.2.2.1 F.2.2.2 (SX.e W hW).1 T;rw[adY hv] at this;rw[iR,if_pos ag];exact this
 revert aaN
 generalize lA b lg=mI;intro aaN;rcases lg with _|_;all_goals
  first| (show ύ prog 34 _ _ _;go_enter func34,Tryz.ntmps34) | (show ύ prog 37 _ _ _;go_enter func37,Tryz.ntmps37)
  go_wp2;rw[<-bY];clear bY;go_at_call 103;refine(Sk.e _ (ό _ _)).mono ?_;rintro e W1 ⟨v1,ts,rfl,aH,eK,ai⟩;obtain⟨A4,n4,c4,rfl⟩:=iI aH.1;have HO:=K aH;have B1:=K ai;have Z1:=ai.size;clear aH ai g0 g1 g2 g3;obtain⟨⟨g0,g1,g2,g3⟩,-⟩:=K4.e W1 B1.e;by_cases ag:bT b 0=0
  case neg=>
   have V:((bT b 0:Int)==0)=U:=(by simpa using ag);have xB:=K ag;obtain⟨s,cI⟩:∃s,s=bT b 0:=⟨_,rfl⟩
   have HS:=K cI;rw[<-cI] at ag V |-;clear cI eK;go_wp2;refine ø (v:=μ #[E H 0 0,Y I 0,.bool U,Y I s]) (by simp[results,Tryz.results34,Tryz.results37,go_sem]) rfl ?_;exact⟨_,_,_,_,_,by rw[HS.e],by rw[iR,if_neg xB.e];exact⟨rfl,rfl,rfl,rfl,rfl⟩,BW.e.trans (B1.e.mono (by omega))⟩
  have hv:=fG (mX ag).1;have F:=abd ag;have Ln:ts.map É=(aB b).map (bV b.pieces.length):=by rw[eK,z8,if_pos ag]
  have Sy:Hid (∀W,φ W1 W->ύ prog 116 #[η #[Y I b.ab,E A1 n1 c1,E A2 n2 c2,E A3 n3 c3],E A4 n4 c4] W λe w'=>∃u,e=Ω u/\w'.ownsRow W.heap.size 3 1 u b.pieces.length (lV b.pieces.length (cB (aB b)).at)/\φ W w'):=K λW hW=>
   ab7 (ϊ _) (SX.e W (B1.e.trans (hW.mono Z1))).1 hv.np.2 (HO.e.below hW (ϊ _)) Ln F.1 F.2.1
  rw[ag];have xB:=K ag;clear hv F eK Ln ag;go_wp2;refine Sg (S:=(λχ=>(χ.cell? ⟨w.heap.size,0,H⟩=J (Y I b.ab)/\ χ.cell? ⟨w.heap.size,1,H⟩=J (E A1 n1 c1)/\ χ.cell? ⟨w.heap.size,2,H⟩=J (E A2 n2 c2)/\ χ.cell? ⟨w.heap.size,3,H⟩=J (E A3 n3 c3)))) 12 rfl (by kernel_rfl) ?_ (λef=>?_)
  ·exact(K4.e _ (dT B1.e)).1
  refine Wf [0,1,2] [2,1,0] 9 rfl (by kernel_rfl) rfl ef ?_;iterate 3
   apply vx 20 rfl (by kernel_rfl) (by kernel_rfl)
   ·intro W hW;obtain⟨h0,h1,h2,h3⟩:=hW;go_simp;all_goals with_reducible rfl
   simp only[Ò,Í,Î,Ë]
  apply po;refine zV 3 rfl (by kernel_rfl) (by kernel_rfl) (λψ Q hK=>?_);go_simp;go_at_call 116;refine(Sy.e _ (dT (ό _ _))).mono ?_;rintro e W2 ⟨u2,rfl,KX,an⟩;obtain⟨A5,n5,c5,rfl⟩:=iI KX;have HU2:=K KX;have B2:Hid (φ W0 W2):=K ((dT B1.e).trans (an.mono (show W0.heap.size<=W1.drew.heap.size from Z1)))
  clear KX an;try go_wp2_with fail
  refine hK.out _ _ ?_ (λdi=>?_)
  ·exact(K4.e _ B2.e).1
  clear hK ψ Q ef;try simp only[Ò,Í,Î,Ë]
  refine zV 4 rfl (by kernel_rfl) (by kernel_rfl) (λψ Q hK=>?_);go_simp;go_at_call 118;refine(aaN.e W2 A5 n5 c5 B2.e xB.e (ab3 HU2.e)).mono ?_;rintro e W3 ⟨A6,n6,c6,mi,fb,rfl,VW,bK⟩;have B3:Hid (φ W0 W3):=K (B2.e.trans (bK.mono B2.e.size));have nv:=K VW;clear VW bK
  try go_wp2_with fail
  refine hK.out _ _ ?_ (λdN=>?_)
  ·exact(K4.e _ B3.e).1
  clear hK ψ Q di;try simp only[Ò,Í,Î,Ë]
  refine Wf [5,6,7,8,9,10,11] [11,10,9,8,7,6,5,4,3,2,1,0] 0 rfl (by kernel_rfl) rfl dN ?_;iterate 7
   first|apply vx 14 rfl rfl (by kernel_rfl) |apply vx 19 rfl rfl (by kernel_rfl) |apply abu 1 rfl rfl (by kernel_rfl)
   ·intro W hW;obtain⟨h0,h1,h2,h3⟩:=hW;go_simp;all_goals with_reducible rfl
   simp only[Ò,Í,Î,Ë]
  apply po;refine GX (by kernel_rfl) ?_;go_wp2;refine ø (v:=μ #[E A6 n6 c6,Y I mi,.bool fb,Y I 0]) (by simp[results,Tryz.results34,Tryz.results37,go_sem]) rfl ?_;exact⟨_,_,_,_,_,by rw[xB.e],nv.e,BW.e.trans (B3.e.mono (by omega))⟩
def yS(b:eR)(i:Nat):List Int:=((ϣ i).filter λk=>(Bd b k).isNone).map λk:Nat=>(k:Int)
def ag1(b:eR)(i:Nat):(yS b i).length<=i:=by
 unfold yS;rw[ã];have:=List.length_filter_le (λk=>(Bd b k).isNone) (ϣ i)
 rwa[Ajv] at this
def asP(h:(Bd b i).isNone=U):yS b (i+1)=yS b i:=by unfold yS;rw[List.range_succ,List.filter_append];simp[h]
def asO(h:(Bd b i).isNone=D):yS b (i+1)=yS b i++ [(i:Int)]:=by unfold yS;rw[List.range_succ,List.filter_append];simp[h]
def atc(n i:Nat):(ϣ n).eraseIdx i=(ϣ n).filter λk=> !decide (k=i):=by
 rw[<-aeM (Ajx (ϣ n) i) List.nodup_range];refine Ajt λk hk=>?_;have hk:=Ď.1 hk;rw[Bool.eq_iff_iff];simp only[decide_eq_true_eq,Bool.not_eq_true',decide_eq_false_iff_not,List.mem_eraseIdx_iff_getElem];constructor
 ·rintro⟨j,hj,qv,e⟩;rw[List.getElem_range] at e;omega
 ·exactλh=>⟨k,by simpa using hk,h,List.getElem_range _⟩
def atU(b:eR)(i:Nat):jT b (cB (aB b)) ((ϣ b.aC.length).eraseIdx i) b.pieces.length []=Bd b i:=by rw[atc,Ri];rfl
def aay(b:eR):List Int:=if bT b 0=0 then yS b b.aC.length else []
def asM(hB:B<=w.heap.size)(ah:aQ w B b pv bv tv):
 ύ prog 39 #[η #[Y I b.ab,pv,bv,tv]] w λe w'=>∃v,e=Ω (μ #[v,Y I (bT b 0)])/\w'.ownsRow w.heap.size 3 1 v (aay b).length ((aay b).map (Y I))/\φ w w':=by
 obtain⟨A1,n1,c1,rfl,-⟩:=ah.pieces.Φ;obtain⟨A2,n2,c2,rfl,e2,-⟩:=ah.aC.Φ;obtain⟨A3,n3,c3,rfl,-⟩:=ah.aI.Φ;have bD:=K ah;obtain⟨W0,bY,Z0,BW,SX,K4⟩:=lj ah hB;rw[<-Z0] at SX K4;have Sk:Hid (∀W,φ W0 W->ύ prog 103 #[η #[Y I b.ab,E A1 n1 c1,E A2 n2 c2,E A3 n3 c3],Y I 0] W λe w'=>∃v ts,e=Ω (μ #[v,Y I (bT b 0)])/\en w' W.heap.size v ts/\ts.map É=z8 b 0/\φ W w'):=K λW hW=>ab8 (SX.e W hW).1 (ϊ _)
 have E2:=K e2;clear ah e2;obtain⟨⟨g0,g1,g2,g3⟩,-⟩:=K4.e W0 (ό _ _);have gl:w.heap.size<W0.heap.size:=by omega
 obtain⟨i0,cJ,cK,aO,aZ⟩:=Ö Pd;have HI:=K (Ϗ cJ (Ϗ cK (Ϗ aO aZ)));clear cJ cK aO aZ;go_enter func39,Tryz.ntmps39;go_wp2;rw[<-bY];clear bY
 go_at_call 103;refine(Sk.e _ (ό _ _)).mono ?_;rintro e W1 ⟨v1,ts,rfl,aH,eK,ai⟩;obtain⟨A4,n4,c4,rfl⟩:=iI aH.1;have HO:=K aH;have B1:=K ai;have Z1:=ai.size;clear aH ai g0 g1 g2 g3;obtain⟨⟨g0,g1,g2,g3⟩,-⟩:=K4.e W1 B1.e;by_cases ag:bT b 0=0
 case neg=>
  have V:((bT b 0:Int)==0)=U:=by simpa using ag
  have xB:=K ag;obtain⟨s,cI⟩:∃s,s=bT b 0:=⟨_,rfl⟩
  have HS:=K cI;rw[<-cI] at ag V |-;clear cI eK;go_wp2
  go_ret2
  exact⟨_,by rw[HS.e];rfl,by rw[aay,if_neg xB.e];exact⟨rfl,.inl ⟨rfl,rfl⟩⟩,BW.e.trans (B1.e.mono (by omega))⟩
 have hv:=fG (mX ag).1;have dn:n2<=3:=by have:=hv.nb;have:=E2.e;omega
 have F:=abd ag;have Ln:ts.map É=(aB b).map (bV b.pieces.length):=by rw[eK,z8,if_pos ag]
 rw[ag];have xB:=K ag;have FF:=K (Ϗ hv (Ϗ F Ln));clear hv F eK Ln ag;go_wp2
 go_at_call 78;refine(aeN (n:=n2) (by omega) _).mono ?_;rintro e V0 ⟨u1,rfl,yK,JV⟩;obtain⟨A7,n7,c7,rfl⟩:=iI yK;have HU1:=K yK;have hn7:n7=n2:=yq yK;subst hn7;have BV0:Hid (φ W0 V0):=K (B1.e.trans (JV.mono Z1));have LY:=K JV;have ZV:=BV0.e.size;clear yK JV g0 g1 g2 g3;obtain⟨⟨g0,g1,g2,g3⟩,-⟩:=K4.e V0 BV0.e;go_wp2;go_loopw [7,8] (λo υ W=>∃(i:Nat) (Ao:Option Addr) (no co:Nat),i<=n7/\υ=Y I i/\o=E Ao no co/\Hid (W.ownsRow V0.heap.size 3 1 (E Ao no co) (yS b i).length ((yS b i).map (Y I)))/\φ V0 W) (λ_ υ _=>n7 - (ϑ υ).toNat)
 case atStart=>exact⟨0,H,0,0,ϛ _,rfl,rfl,K ⟨rfl,.inl ⟨rfl,rfl⟩⟩,ό _ _⟩
 case round=>
  rename N=>W2;obtain⟨i,Ao,no,co,hi,rfl,rfl,aH,hb⟩:=hrel;have dj:=K hb;have lu:Hid (φ W0 W2):=K (BV0.e.trans (hb.mono ZV));have Z2:=lu.e.size;have Z2V:=hb.size;clear hb g0 g1 g2 g3;obtain⟨⟨g0,g1,g2,g3⟩,-⟩:=K4.e W2 lu.e;by_cases ao:i<n7
  ·have xI:(i:Int)<n7:=by omega
   have Sy:Hid (∀W,φ W2 W->ύ prog 116 #[η #[Y I b.ab,E A1 n1 c1,E A2 n7 c2,E A3 n3 c3],E A4 n4 c4] W λe w'=>∃u,e=Ω u/\w'.ownsRow W.heap.size 3 1 u b.pieces.length (lV b.pieces.length (cB (aB b)).at)/\φ W w'):=K λW hW=>
    ab7 (ϊ _) (SX.e W (lu.e.trans (hW.mono Z2))).1 FF.e.1.np.2 (HO.e.below ((LY.e.trans (dj.e.mono LY.e.size)).trans (hW.mono (by have:=LY.e.size;omega))) (ϊ _)) FF.e.2.2 FF.e.2.1.1 FF.e.2.1.2.1
   have C59:Hid (∀W,φ W2 W->ύ prog 59 #[E A7 n7 c7,Y I i] W λe w'=>∃v',e=Ω v'/\((∃A n c,v'=E A n c)/\Row w' w'.heap.size 1 bI v' (((ϣ n7).eraseIdx i).map λk:Nat=>(k:Int)))/\φ W w'):=K λW hW=>by have hl:(tf n7).length=n7:=(by simp[tf]);have T:Row W W.heap.size 1 bI (E A7 n7 c7) (tf n7):=nw (CF (by rw[hl];exact HU1.e)) ((dj.e.trans (hW.mono Z2V)));refine(atT T (ϊ _) (by rw[hl];exact ao) (by rw[hl];omega)).mono ?_;rintro e w' ⟨v',rfl,ho,hb⟩;obtain⟨A,n,c,rfl⟩:=iI ho;refine⟨_,rfl,⟨⟨A,n,c,rfl⟩,?_⟩,hb⟩;have:=CF ho;unfold tf at this;rw[akG,<-List.map_take,<-List.map_drop,<-È,<-akG] at this;exact this
   have LZ:Hid (∀(W:N) A n c A' n' c',φ W2 W->Row W W.heap.size 1 bI (E A n c) (bV b.pieces.length (cB (aB b)))->Row W W.heap.size 1 bI (E A' n' c') (((ϣ n7).eraseIdx i).map λk:Nat=>(k:Int))->ύ prog 125 #[η #[Y I b.ab,E A1 n1 c1,E A2 n7 c2,E A3 n3 c3],E A n c,E A' n' c',E H 0 0] W (aab W (Bd b i))):=K λW A n c A' n' c' hW h1 h2=>by
    have QK:((ϣ n7).eraseIdx i).Sublist (ϣ n7):=Ajx _ _;have:=agP FF.e.1 FF.e.2.1.2.2.1 FF.e.2.1.2.2.2 (ks:=(ϣ n7).eraseIdx i) (λk hk=>by rw[E2.e];exact Ď.1 (QK.subset hk)) (by have:=QK.length_le;rw[Ajv] at this;omega) b.pieces.length [] W W.heap.size (E H 0 0) (by simp) rfl (λc hc=>by cases hc) ⟨(SX.e W (lu.e.trans (hW.mono Z2))).1,h1,h2⟩ Row.nil (ϊ _)
    rw[show jT b (cB (aB b)) ((ϣ n7).eraseIdx i) b.pieces.length []=Bd b i by rw[<-E2.e];exact atU b i] at this;exact this
   go_wp2;refine Sg (S:=(λχ=>(χ.cell? ⟨w.heap.size,0,H⟩=J (Y I b.ab)/\ χ.cell? ⟨w.heap.size,1,H⟩=J (E A1 n1 c1)/\ χ.cell? ⟨w.heap.size,2,H⟩=J (E A2 n7 c2)/\ χ.cell? ⟨w.heap.size,3,H⟩=J (E A3 n3 c3)))) 13 rfl (by kernel_rfl) ?_ (λef=>?_)
   ·exact(K4.e _ (dT lu.e)).1
   refine Wf [0,1,2,4,5] [5,4,2,1,0] 8 rfl (by kernel_rfl) rfl ef ?_;iterate 5
    apply vx 30 rfl (by kernel_rfl) (by kernel_rfl)
    ·intro W hW;obtain⟨h0,h1,h2,h3⟩:=hW;go_simp;all_goals with_reducible rfl
    simp only[Ò,Í,Î,Ë]
   apply po;refine zV 3 rfl (by kernel_rfl) (by kernel_rfl) (λψ Q hK=>?_);go_simp;go_at_call 116;refine(Sy.e _ (dT (ό W2.heap.size W2))).mono ?_;rintro e X3 ⟨u,rfl,hu,hbu⟩;obtain⟨Au,nu,cu,rfl⟩:=iI hu;have Hu:=K (ab3 hu);have Z8:Hid (φ W2 X3):=K ((dT (ό W2.heap.size W2)).trans (hbu.mono (dT (ό W2.heap.size W2)).size));clear hu hbu
   try go_wp2_with fail
   refine hK.out _ _ ?_ (λdi=>?_)
   ·exact(K4.e _ (lu.e.trans (Z8.e.mono Z2))).1
   clear hK ψ Q ef;try simp only[Ò,Í,Î,Ë]
   refine zV 6 rfl (by kernel_rfl) (by kernel_rfl) (λψ Q hK=>?_);go_simp;go_at_call 59;refine(C59.e _ Z8.e).mono ?_;rintro e X4 ⟨k,rfl,hk,ah⟩;obtain⟨Ak,nk,ck,rfl⟩:=hk.1;have Hk:=K hk.2;have Z7:Hid (φ W2 X4):=K (Z8.e.trans (ah.mono Z8.e.size));have aii:φ X3 X4:=ah;clear hk ah
   try go_wp2_with fail
   refine hK.out _ _ ?_ (λdN=>?_)
   ·exact(K4.e _ (lu.e.trans (Z7.e.mono Z2))).1
   clear hK ψ Q di;try simp only[Ò,Í,Î,Ë]
   refine zV 7 rfl (by kernel_rfl) (by kernel_rfl) (λψ Q hK=>?_);go_simp;go_at_call 125;refine(LZ.e X4 Au nu cu Ak nk ck Z7.e (nw Hu.e (by exact aii)) (Hk.e)).mono ?_;rintro e X5 Ai;obtain⟨zl,Xv,c10,ob,rfl,me,dB⟩:=agS Ai;have PM:=K me;have B5:Hid (φ W2 X5):=K (Z7.e.trans (dB.mono Z7.e.size));clear Ai me dB
   try go_wp2_with fail
   refine hK.out _ _ ?_ (λiE=>?_)
   ·exact(K4.e _ (lu.e.trans (B5.e.mono Z2))).1
   clear hK ψ Q dN;try simp only[Ò,Í,Î,Ë]
   refine Wf [8,9,10,11,12] [12,11,10,9,8,7,6,3,5,4,2,1,0] 0 rfl (by kernel_rfl) rfl iE ?_;iterate 5
    first|apply vx 21 rfl rfl (by kernel_rfl) |apply vx 29 rfl rfl (by kernel_rfl) |apply abu 2 rfl rfl (by kernel_rfl)
    ·intro W hW;obtain⟨h0,h1,h2,h3⟩:=hW;go_simp;all_goals with_reducible rfl
    simp only[Ò,Í,Î,Ë]
   apply po;refine GX (by kernel_rfl) ?_;clear g0 g1 g2 g3;obtain⟨r,T⟩:∃r,r=Bd b i:=⟨_,rfl⟩
   rw[<-T] at PM;have Z5:=B5.e.size;have O5:=K (si aH.e B5.e (ϊ _));have B6:Hid (φ V0 X5):=K (dj.e.trans (B5.e.mono Z2V));have HR:=K T;clear T;cases r with
   |some x=>
    obtain rfl:ob=D:=PM.e.1;go_wp2;go_roundw;case rel=>exact⟨i+1,Ao,no,co,by omega,by go_num,rfl,K (by rw[asP (by rw[<-HR.e];rfl)];exact O5.e),B6.e⟩
    case measure=>simp[ϑ];omega
   |none=>
    obtain⟨rfl,rfl,rfl,rfl⟩:zl=H/\Xv=0/\c10=0/\ob=U:=PM.e;go_wp2_with (first
     | (at_builtin
        refine U2 rfl (.tmp 42) (.tmp 44) 33 rfl V0.heap.size 3 i0 (Y I 0) 1 8 (χ Tryz.underlying33) HI.e.1 HI.e.2.1 HI.e.2.2.1 HI.e.2.2.2 rfl (by decide) _ (yS b i).length _ rfl (O5.e.alloc _) _ 1 0 _ rfl (Bo _ 1 [Y I i] rfl (by omega) (ϛ _)) (LU [(i:Int)]) (by have:=ag1 b i;simp only[ϕ];omega) (by have:=ag1 b i;omega) (by simp;omega) ?_;intro v6 X6 abz agq;obtain⟨kL,gM,c12,rfl⟩:=iI abz;have Bx:=K abz;have B7:Hid (φ V0 X6):=K ((B6.e.alloc B6.e.size _).grown agq (by have:=B6.e.size;simp;omega) (λq hq=>dX O5.e q hq))
        clear abz agq))
    go_roundw;case rel=>exact⟨i+1,kL,gM,c12,by omega,by go_num,rfl,K (by rw[asO (by rw[<-HR.e];rfl),List.length_append,È];exact Bx.e),B7.e⟩
    case measure=>simp[ϑ];omega
  ·obtain rfl:i=n7:=by omega
   go_wp2
   go_ret2
   exact⟨_,by rw[xB.e];rfl,by rw[aay,if_pos xB.e,E2.e];exact World.ownsRow.base aH.e (by omega),BW.e.trans (lu.e.mono (by omega))⟩
def rl(b:eR)(mI:List Cut->Int):Int:=((iR b mI).map Prod.snd).getD 0
def j8(b:eR)(mI:List Cut->Int):Bool:=(iR b mI).isSome
end Go.Tw
