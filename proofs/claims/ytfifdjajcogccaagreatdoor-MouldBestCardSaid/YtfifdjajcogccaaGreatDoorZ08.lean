/- The best cutting is the least, however it is searched for: MouldBest returns true for every book. Conditions: the card's own. -/
import Derived.Test.YtfifdjajcogccaaGreatDoorZ07
import Derived.Test.YtfifdjajcogccaaGreatDoorZ06
import Derived.Test.YtfifdjajcogccaaGreatDoorCards
import Derived.SevenTiedAt
import Derived.LaidOnce
set_option linter.all false
set_option maxHeartbeats 0
set_option maxRecDepth 400000
open Array renaming replicate -> ϱ, getD_eq_getD_getElem? -> æ, getElem?_setIfInBounds -> Ü, getElem?_eq_none_iff -> Akp, getElem?_eq_getElem -> ā, getElem?_eq_some_iff -> Ϝ, getElem?_replicate -> Akq
open Go renaming Calls -> ύ, Addr -> ϖ, wpList -> ş, wpAny -> ë, wpAny_take -> Akt, getD_set_ne -> Aku
open Go.IntKind renaming i64 -> Ϛ
open Go.Proofs.Tryz renaming prog -> ϋ
open Go.Region renaming ready -> ϯ
open Go.RowKit.Below renaming refl -> û, alloc -> Akw, trans -> Akx
open Go.Value renaming int -> Ϟ
open List renaming all_eq_true -> Ħ, range -> ϣ, mem_cons -> Ϡ, not_mem_nil -> Á, take_succ_cons -> ñ, drop_zero -> ö, drop_succ_cons -> õ, take_zero -> þ, setIfInBounds_toArray -> Í, set_cons_zero -> Î, set_cons_succ -> Ë
open Nat renaming le_refl -> ϊ
open Option renaming getD_some -> Λ, map_some -> ó
open Bool renaming true -> D, false -> U
open Go renaming Value -> z, undef -> L, World -> N
open Go.Ending renaming returned -> Ω
open Go.IntKind renaming i64 -> I
open Go.Lib renaming hid -> K
open Go.Obj renaming cells -> Ξ
open Go.RowKit renaming Below -> Γ, Below -> Γ
open Go.Value renaming slice -> E, pointer -> π, tuple -> μ, agg -> η, int -> Y
open Option renaming some -> J, none -> H
variable{α:Type}{l:Array Bool}{ops:Array Go.Oper}{cs u:Array z}{a:Go.Act}{o:Go.Oper}{Z:Go.Sim.Ren}{b:Go.Tw.eR}{t:Go.TypeId}{υ:Int}{gE gp gb gt gc g3 i gk gl c n4 n g n25 cw m np nt n22 c22 d B e1 k pc tc fuel g1 g2 e0 d0 d1 n28 eI n31 jN j e n16 cp nb cb ct:Nat}{A4 ae dF TA:Option Go.Addr}{w w0 W w' wl:N}{v x ov s tv:z}
noncomputable section
namespace Go.Jn
open Go Go.Proofs Go.Sim Go.Conc Go.Tw Go.RowKit
section
variable [Go.Tw.aK]
def yc(b:eR)(mI:List Cut->Int):List Cut:=((iR b mI).map Prod.fst).getD []
def aez{mI:List Cut->Int}{f:FuncId}{x:Array z}(h:ύ prog f x w (GI w b mI)):ύ prog f x w λe w'=>∃A n c,e=Ω (μ #[.slice A n c,Y I (rl b mI),.bool (j8 b mI),Y I (bT b 0)])/\Row w' w'.heap.size 2 Cut.R (.slice A n c) (yc b mI)/\φ w w':=by
 refine h.mono ?_;rintro e w' ⟨cv,mv,fv,rfl,V,hb⟩;unfold rl j8 yc;cases hx:iR b mI with
 |none=>rw[hx] at V;obtain⟨rfl,rfl,rfl⟩:=V;exact⟨H,0,0,rfl,Row.nil,hb⟩
 |some q=>
  obtain⟨x,k⟩:=q;rw[hx] at V;obtain⟨ho,rfl,rfl⟩:=V;obtain⟨A,n,c,rfl⟩:=iI ho;have hl:x.length=b.pieces.length:=(abe hx).1.1;have h2:w'.ownsRow w.heap.size 56 2 (.slice A n c) x.length (x.flatMap Cut.vs):=by rw[hl];exact ho
  exact⟨A,n,c,rfl,mZ (R:=Cut.R) h2 (λ_=>rfl) λ_ _=>rfl,hb⟩
def ahn{mI:List Cut->Int}{f:FuncId}{x:Array z}(h:ύ prog f x w (aa4 w b mI)):ύ prog f x w λe w'=>∃A n c,e=Ω (μ #[.slice A n c,Y I (rl b mI),.bool (j8 b mI),Y I (bT b 0)])/\Row w' w'.heap.size 2 Cut.R (.slice A n c) (yc b mI)/\φ w w':=by
 refine h.mono ?_;rintro e w' ⟨A,n,c,k,g,rfl,⟨hm,T⟩,hb⟩;unfold rl j8 yc;cases hx:iR b mI with
 |none=>rw[hx] at hm T;obtain⟨rfl,rfl,rfl,rfl⟩:=T;subst hm;exact⟨H,0,0,rfl,Row.nil,hb⟩
 |some q=>rw[hx] at hm T;obtain⟨rfl,T⟩:=T;subst hm;exact⟨A,n,c,rfl,T,hb⟩
end
def c4:Code:=(Tryz.f4.body).getD .skip
def M6:Code:=aS c4
def NC:Code:=aS M6
def NL:Code:=aS NC
def NM:Code:=aS NL
def Oe:Code:=aS NM
def OB:Code:=aS Oe
def abf:Code:=aS OB
def z4:Code:=aS abf
def p4n:Array Oper:=opsOf (bp abf)
def aiO:Tryz.f4.body=J (chain [bp c4,bp M6,bp NC,bp NL,bp NM,bp Oe,bp OB] (.seq (.region 9 p4n U) z4)):=rfl
def n4n:p4n.size=7:=by decide+kernel
def asN:wF p4n 106 1 66 67 65 68 69 11 12:=by
 refine⟨n4n,?_,⟨_,rfl,rfl,rfl,rfl⟩,⟨_,rfl,rfl,rfl,rfl⟩,⟨_,rfl,rfl,rfl,rfl⟩,⟨_,rfl,rfl,rfl,rfl⟩,⟨_,rfl,rfl,rfl,rfl⟩,⟨_,rfl,rfl,rfl,rfl⟩,by decide⟩;have h:k8 ϋ G0 (p4n[0]'(by rw[n4n];omega))=D:=by decide+kernel
 exact⟨_,rfl,rfl,rfl,rfl,h⟩
def t4(v:z):Array z:=#[v,L,L,L,L,L,L,L,L,L,L,L,L,L,L,L,L,L,L,L,L,L,L,L,L,L,L,L,L,L,L,L,L,L,L,L,L,L,L,L,L,L,L,L,L,L,L,L,L,L,L,L,L,L,L,L,L,L,L,L,L,L,L,L,L,L,L,L,L,L,L,L,L,L,L,L,L,L,L,L,L,L,L,L,L,L,L,L,L,L,L,L,L,L,L,L,L,L,L,L,L,L,L,L,L,L]
def S4(w:N)(b:eR)(PA A TA:Option ϖ)(np pc m c nt tc:Nat)(W:N):Prop:=Γ (w.heap.size+1) (w.alloc (Ξ #[Y I b.ab,.slice PA np pc,.slice A m c,.slice TA nt tc] 26)) W
def t4h(v:z)(g:Nat)(E1:Option ϖ)(e1 f1:Nat)(E2:Option ϖ)(e2 f2:Nat)(mi:Int)(fb:Bool)(s:Int)(Ks Kt Ku tY tZ ua ub uc ud ue uf ug uh ui uj uk um uo uq ur uu uv uw ux uy uz DM D1 Ei EG EK EL ET FT F1 F2 F3 F4 Gt Gu Gv Gw G9 H7 Ig ID IE IW I3 Jg:z):Array z:=#[v,π (J ⟨g,0,H⟩),.bool U,.slice E1 e1 f1,Y I mi,.bool fb,Y I s,.slice E2 e2 f2,Y I mi,.bool fb,Y I s,L,L,L,L,Ks,Kt,Ku,tY,tZ,ua,ub,uc,ud,ue,uf,ug,uh,ui,uj,uk,um,uo,uq,ur,uu,uv,uw,ux,uy,uz,DM,D1,Ei,EG,EK,EL,ET,FT,F1,F2,F3,F4,Gt,Gu,Gv,Gw,G9,H7,Ig,ID,IE,IW,I3,Jg,L,L,L,L,L,L,L,L,L,L,L,L,L,L,L,L,L,L,L,L,L,L,L,L,L,L,L,L,L,L,L,L,L,L,L,L,L,L,L,L,L]
def t4r(v x:z)(LA:Option ϖ)(ln lc:Nat)(s2:Int)(g:Nat)(E1:Option ϖ)(e1 f1:Nat)(E2:Option ϖ)(e2 f2:Nat)(mi:Int)(fb:Bool)(s:Int)(Ks Kt Ku tY tZ ua ub uc ud ue uf ug uh ui uj uk um uo uq ur uu uv uw ux uy uz DM D1 Ei EG EK EL ET FT F1 F2 F3 F4 Gt Gu Gv Gw G9 H7 Ig ID IE IW I3 Jg:z):Array z:=#[v,π (J ⟨g,0,H⟩),.bool U,.slice E1 e1 f1,Y I mi,.bool fb,Y I s,.slice E2 e2 f2,Y I mi,.bool fb,Y I s,.slice LA ln lc,Y I s2,L,L,Ks,Kt,Ku,tY,tZ,ua,ub,uc,ud,ue,uf,ug,uh,ui,uj,uk,um,uo,uq,ur,uu,uv,uw,ux,uy,uz,DM,D1,Ei,EG,EK,EL,ET,FT,F1,F2,F3,F4,Gt,Gu,Gv,Gw,G9,H7,Ig,ID,IE,IW,I3,Jg,μ #[.slice LA ln lc,Y I s2],x,μ #[.slice LA ln lc,Y I s2],.slice LA ln lc,Y I s2,L,L,L,L,L,L,L,L,L,L,L,L,L,L,L,L,L,L,L,L,L,L,L,L,L,L,L,L,L,L,L,L,L,L,L,L]
def Q4(w:N)(b:eR)(v:z)(PA A TA:Option ϖ)(np pc m c nt tc:Nat)(u:Array z)(W:N):Prop:=∃E1 e1 f1 E2 e2 f2,(∃Ks Kt Ku tY tZ ua ub uc ud ue uf ug uh ui uj uk um uo uq ur uu uv uw ux uy uz DM D1 Ei EG EK EL ET FT F1 F2 F3 F4 Gt Gu Gv Gw G9 H7 Ig ID IE IW I3 Jg:z,u=t4h v w.heap.size E1 e1 f1 E2 e2 f2 (rl b (FO b)) (j8 b (FO b)) (bT b 0) Ks Kt Ku tY tZ ua ub uc ud ue uf ug uh ui uj uk um uo uq ur uu uv uw ux uy uz DM D1 Ei EG EK EL ET FT F1 F2 F3 F4 Gt Gu Gv Gw G9 H7 Ig ID IE IW I3 Jg)/\
 Row W W.heap.size 2 Cut.R (.slice E1 e1 f1) (yc b (FO b))/\Row W W.heap.size 2 Cut.R (.slice E2 e2 f2) (yc b (FO b))/\S4 w b PA A TA np pc m c nt tc W
def aiV{PA A:Option ϖ}(ah:aQ w B b (.slice PA np pc) (.slice A m c) (.slice TA nt tc))(hB:B<=w.heap.size)(br:wX b=D):
 c4.wp lp (GS 2) ⟨t4 (η #[Y I b.ab,.slice PA np pc,.slice A m c,.slice TA nt tc]),[cQ]⟩ w:=by
 letI:=jU
 have bD:=K ah;obtain⟨W0,bY,Z0,BW,ST,SX⟩:=lj ah hB;have Rs:Hid (∀W,Below (w.heap.size+1) W0 W->ύ lp 20 #[η #[Y I b.ab,.slice PA np pc,.slice A m c,.slice TA nt tc]] W λe w'=>e=Ω (.bool (wX b))/\Below (w.heap.size+1) W0 w'):=K λW hW=>by obtain⟨st,V,-⟩:=ST.e W hW;exact(ago st (ϊ _)).mono λe w' ⟨h,hb⟩=>⟨h,hW.trans (hb.mono V)⟩
 rw[br] at Rs;clear ah br;unfold c4 t4;simp only[Tryz.f4,Λ];go_wp2;rw[<-bY];go_at_call 20;refine(Rs.e _ (Below.refl _ _)).mono ?_;rintro e w1 ⟨rfl,ai⟩;go_wp2;go_at_call 21;refine(J9 _).mono ?_;rintro e w' ⟨rfl,rfl⟩;go_wp2;exact⟨rfl,rfl,rfl⟩
section
variable [Go.Tw.aK]
def aiW{PA A:Option ϖ}(ah:aQ w B b (.slice PA np pc) (.slice A m c) (.slice TA nt tc))(hB:B<=w.heap.size)(hM:gF w)(hf:wX b=U):
 fu prog [bp c4,bp M6,bp NC,bp NL,bp NM,bp Oe,bp OB] (dK λa W=>a.defers=[cQ]/\Q4 w b (η #[Y I b.ab,.slice PA np pc,.slice A m c,.slice TA nt tc]) PA A TA np pc m c nt tc a.tmps W) ⟨t4 (η #[Y I b.ab,.slice PA np pc,.slice A m c,.slice TA nt tc]),[cQ]⟩ w:=by
 have bD:=K ah;obtain⟨W0,bY,Z0,BW,ST,SX⟩:=lj ah hB;have Rs:Hid (∀W,Below (w.heap.size+1) W0 W->ύ prog 20 #[η #[Y I b.ab,.slice PA np pc,.slice A m c,.slice TA nt tc]] W λe w'=>e=Ω (.bool (wX b))/\Below (w.heap.size+1) W0 w'):=K λW hW=>by obtain⟨st,V,-⟩:=ST.e W hW;exact(ago st (ϊ _)).mono λe w' ⟨h,hb⟩=>⟨h,hW.trans (hb.mono V)⟩
 have KN:Hid (∀W,Below (w.heap.size+1) W0 W->ύ prog 33 #[η #[Y I b.ab,.slice PA np pc,.slice A m c,.slice TA nt tc]] W λe w'=>∃A n c,e=Ω (μ #[.slice A n c,Y I (rl b iH),.bool (j8 b iH),Y I (bT b 0)])/\Row w' w'.heap.size 2 Cut.R (.slice A n c) (yc b iH)/\φ W w'):=K λW hW=>by obtain⟨st,V,hb⟩:=ST.e W hW;exact aez (Hq (ϊ _) st (hM.below hb hM.lt))
 have C36:Hid (∀W,Below (w.heap.size+1) W0 W->ύ prog 36 #[η #[Y I b.ab,.slice PA np pc,.slice A m c,.slice TA nt tc]] W λe w'=>∃A n c,e=Ω (μ #[.slice A n c,Y I (rl b (FO b)),.bool (j8 b (FO b)),Y I (bT b 0)])/\Row w' w'.heap.size 2 Cut.R (.slice A n c) (yc b (FO b))/\φ W w'):=K λW hW=>by obtain⟨st,V,hb⟩:=ST.e W hW;exact aez (ao1 (ϊ _) st (hM.below hb hM.lt))
 have C34:Hid (∀W,Below (w.heap.size+1) W0 W->ύ prog 34 #[η #[Y I b.ab,.slice PA np pc,.slice A m c,.slice TA nt tc]] W λe w'=>∃A n c,e=Ω (μ #[.slice A n c,Y I (rl b iH),.bool (j8 b iH),Y I (bT b 0)])/\Row w' w'.heap.size 2 Cut.R (.slice A n c) (yc b iH)/\φ W w'):=K λW hW=>by obtain⟨st,V,hb⟩:=ST.e W hW;exact ahn (aew U (ϊ _) st)
 have C37:Hid (∀W,Below (w.heap.size+1) W0 W->ύ prog 37 #[η #[Y I b.ab,.slice PA np pc,.slice A m c,.slice TA nt tc]] W λe w'=>∃A n c,e=Ω (μ #[.slice A n c,Y I (rl b (FO b)),.bool (j8 b (FO b)),Y I (bT b 0)])/\Row w' w'.heap.size 2 Cut.R (.slice A n c) (yc b (FO b))/\φ W w'):=K λW hW=>by obtain⟨st,V,hb⟩:=ST.e W hW;exact ahn (aew D (ϊ _) st)
 have HS:Hid (∀W,Below (w.heap.size+1) W0 W->S4 w b PA A TA np pc m c nt tc W):=K λW h=>by unfold S4;rw[<-bY];exact h
 rw[hf] at Rs;clear ah hf;have HQ:Hid (∀χ u,Q4 w b (η #[Y I b.ab,.slice PA np pc,.slice A m c,.slice TA nt tc]) PA A TA np pc m c nt tc u χ↔Q4 w b (η #[Y I b.ab,.slice PA np pc,.slice A m c,.slice TA nt tc]) PA A TA np pc m c nt tc u χ):=K λ_ _=>Iff.rfl
 unfold Q4;obtain⟨m1,qy⟩:∃υ,υ=rl b iH:=⟨_,rfl⟩
 obtain⟨m2,qz⟩:∃υ,υ=rl b (FO b):=⟨_,rfl⟩
 obtain⟨q1,rW⟩:∃υ,υ=j8 b iH:=⟨_,rfl⟩
 obtain⟨q2,rX⟩:∃υ,υ=j8 b (FO b):=⟨_,rfl⟩
 obtain⟨s,V⟩:∃υ,υ=bT b 0:=⟨_,rfl⟩
 rw[<-qy,<-rW,<-V] at KN C34;rw[<-qz,<-rX,<-V] at C36 C37;rw[<-qz,<-rX,<-V];clear qy qz rW rX V HQ;unfold fu fu fu fu fu fu fu fu t4 OB Oe NM NL NC M6;unfold c4;simp only[Tryz.f4,Λ,bp,aS];go_wp2;rw[<-bY];clear bY;go_at_call 20;refine(Rs.e _ (Below.refl _ _)).mono ?_;rintro e w1 ⟨rfl,ai⟩;have H1:=K ai;clear ai;obtain⟨⟨g0,g1,g2,g3⟩,gl⟩:=SX.e w1 H1.e;go_wp2
 go_at_call 33;refine(KN.e _ H1.e).mono ?_;rintro e w2 ⟨D2,k2,l2,rfl,T,hb⟩;have H2:Hid (Below (w.heap.size+1) W0 w2):=K (H1.e.trans (hb.mono (ST.e _ H1.e).2.1));have R2:=K T;have G2:=K hb;clear hb T g0 g1 g2 g3 gl;obtain⟨⟨g0,g1,g2,g3⟩,gl⟩:=SX.e w2 H2.e;go_wp2
 go_at_call 34;refine(C34.e _ H2.e).mono ?_;rintro e w3 ⟨D3,k3,l3,rfl,T,hb⟩;have H3:Hid (Below (w.heap.size+1) W0 w3):=K (H2.e.trans (hb.mono (ST.e _ H2.e).2.1));have R3:=K T;have G3:=K hb;clear hb T g0 g1 g2 g3 gl;obtain⟨⟨g0,g1,g2,g3⟩,gl⟩:=SX.e w3 H3.e;go_wp2;have SA:=K (Qo (nw R2.e G3.e) R3.e (ϊ _));rw[decide_eq_true rfl] at SA
 go_at_call 35;refine SA.e.mono ?_;rintro e w4 ⟨rfl,hb⟩;have H4:Hid (Below (w.heap.size+1) W0 w4):=K (H3.e.trans (hb.mono (ST.e _ H3.e).2.1));clear hb g0 g1 g2 g3 gl;obtain⟨⟨g0,g1,g2,g3⟩,gl⟩:=SX.e w4 H4.e;go_wp2
 go_at_call 36;refine(C36.e _ H4.e).mono ?_;rintro e w5 ⟨D5,k5,l5,rfl,T,hb⟩;have H5:Hid (Below (w.heap.size+1) W0 w5):=K (H4.e.trans (hb.mono (ST.e _ H4.e).2.1));have R5:=K T;have G5:=K hb;clear hb T g0 g1 g2 g3 gl;obtain⟨⟨g0,g1,g2,g3⟩,gl⟩:=SX.e w5 H5.e;go_wp2
 go_at_call 37;refine(C37.e _ H5.e).mono ?_;rintro e w6 ⟨D6,k6,l6,rfl,T,hb⟩;have H6:Hid (Below (w.heap.size+1) W0 w6):=K (H5.e.trans (hb.mono (ST.e _ H5.e).2.1));have R6:=K T;have G6:=K hb;clear hb T g0 g1 g2 g3 gl;obtain⟨⟨g0,g1,g2,g3⟩,gl⟩:=SX.e w6 H6.e;go_wp2;exact⟨rfl,_,_,_,_,_,_,⟨_,_,_,_,_,_,_,_,_,_,_,_,_,_,_,_,_,_,_,_,_,_,_,_,_,_,_,_,_,_,_,_,_,_,_,_,_,_,_,_,_,_,_,_,_,_,_,_,_,_,rfl⟩,nw R5.e G6.e,R6.e,HS.e _ H6.e⟩
end
def aiY{PA A:Option ϖ}(ah:aQ w B b (.slice PA np pc) (.slice A m c) (.slice TA nt tc))(hB:B<=w.heap.size){hs:N}(hV:S4 w b PA A TA np pc m c nt tc hs){LA E1 E2:Option ϖ}{ln lc f1 e2 f2:Nat}{mi s:Int}{fb:Bool}(hE1:Row hs hs.heap.size 2 Cut.R (.slice E1 e1 f1) (yc b (FO b)))(hE2:Row hs hs.heap.size 2 Cut.R (.slice E2 e2 f2) (yc b (FO b)))(hL:Row hs hs.heap.size 1 bI (.slice LA ln lc) (je b))(V:s=bT b 0){Ks Kt Ku tY tZ ua ub uc ud ue uf ug uh ui uj uk um uo uq ur uu uv uw ux uy uz DM D1 Ei EG EK EL ET FT F1 F2 F3 F4 Gt Gu Gv Gw G9 H7 Ig ID IE IW I3 Jg:z}:
 z4.wp lp (GS 2) ⟨t4r v (η #[Y I b.ab,.slice PA np pc,.slice A m c,.slice TA nt tc]) LA ln lc s w.heap.size E1 e1 f1 E2 e2 f2 mi fb s Ks Kt Ku tY tZ ua ub uc ud ue uf ug uh ui uj uk um uo uq ur uu uv uw ux uy uz DM D1 Ei EG EK EL ET FT F1 F2 F3 F4 Gt Gu Gv Gw G9 H7 Ig ID IE IW I3 Jg,[cQ]⟩ hs:=by
 letI:=jU
 have bD:=K ah;obtain⟨W0,bY,Z0,BW,ST,SX⟩:=lj ah hB;have u7:Hid (Below (w.heap.size+1) W0 hs):=K (by rw[bY];exact hV)
 obtain⟨⟨g0,g1,g2,g3⟩,gl⟩:=SX.e hs u7.e;have R1:=K hE1;have R2:=K hE2;have RL:=K hL;have C39:Hid (ύ lp 39 #[η #[Y I b.ab,.slice PA np pc,.slice A m c,.slice TA nt tc]] hs λe w'=>∃A n c,e=Ω (μ #[.slice A n c,Y I s])/\Row w' w'.heap.size 1 bI (.slice A n c) (je b)/\φ hs w'):=K (by
  refine(asM (ϊ _) (ST.e hs u7.e).1).mono ?_;rintro e w' ⟨v',rfl,ho,hb⟩;obtain⟨A,n,c,rfl⟩:=iI ho;exact⟨A,n,c,by rw[V],CF (l:=je b) ho,hb⟩)
 clear ah hV hE1 hE2 hL V;unfold z4 abf OB Oe NM NL NC M6 c4 t4r;simp only[Tryz.f4,Λ,bp,aS];go_wp2;go_at_call 39;refine C39.e.mono ?_;rintro e w1 ⟨θ,k,l,rfl,T,hb⟩;have HR:=K T;have G1:=K hb;have SA:=K (Qo (nw R1.e hb) (nw R2.e hb) (ϊ _));rw[decide_eq_true rfl] at SA;clear T hb g0 g1 g2 g3 gl;go_wp2
 go_at_call 35;refine SA.e.mono ?_;rintro e w2 ⟨rfl,hb⟩;have Ru:=K (D4 (nw (nw RL.e G1.e) hb) (nw HR.e hb) (ϊ _));rw[decide_eq_true rfl] at Ru;clear hb;go_wp2
 go_at_call 30;refine Ru.e.mono ?_;rintro e w3 ⟨rfl,-⟩;go_wp2;go_at_call 21;refine(J9 _).mono ?_;rintro e w' ⟨rfl,rfl⟩;go_wp2;exact⟨rfl,rfl,rfl⟩
end Go.Jn
namespace Go.Jn
open Go Go.Proofs Go.Sim Go.Tw Go.Conc Go.RowKit
def ai8:Tryz.f4.body=J c4:=by unfold c4;rfl
def ai9:cC ϋ G0 c4=D:=by decide+kernel
def at5:cC ϋ G0 z4=D:=by decide+kernel
def alu:∀c∈ [bp c4,bp M6,bp NC,bp NL,bp NM,bp Oe,bp OB],C0.clean c:=by
 have h: [bp c4,bp M6,bp NC,bp NL,bp NM,bp Oe,bp OB].all (cC ϋ G0)=D:=by decide+kernel
 intro c hc;exact Ħ.1 h c hc
def atH(v:z):t4 v=#[v]++ϱ 105 L:=by kernel_rfl
def atI(v x:z)(LA:Option ϖ)(ln lc:Nat)(s2:Int)(g:Nat)(E1:Option ϖ)(e1 f1:Nat)(E2:Option ϖ)(e2 f2:Nat)(mi:Int)(fb:Bool)(s:Int)(Ks Kt Ku tY tZ ua ub uc ud ue uf ug uh ui uj uk um uo uq ur uu uv uw ux uy uz DM D1 Ei EG EK EL ET FT F1 F2 F3 F4 Gt Gu Gv Gw G9 H7 Ig ID IE IW I3 Jg:z):
 ib (t4h v g E1 e1 f1 E2 e2 f2 mi fb s Ks Kt Ku tY tZ ua ub uc ud ue uf ug uh ui uj uk um uo uq ur uu uv uw ux uy uz DM D1 Ei EG EK EL ET FT F1 F2 F3 F4 Gt Gu Gv Gw G9 H7 Ig ID IE IW I3 Jg) 66 67 65 68 69 11 12 x (.slice LA ln lc) (Y I s2)=t4r v x LA ln lc s2 g E1 e1 f1 E2 e2 f2 mi fb s Ks Kt Ku tY tZ ua ub uc ud ue uf ug uh ui uj uk um uo uq ur uu uv uw ux uy uz DM D1 Ei EG EK EL ET FT F1 F2 F3 F4 Gt Gu Gv Gw G9 H7 Ig ID IE IW I3 Jg:=by kernel_rfl
def atd{a a':z}(h1:aj Z a a'):aV Z #[a] #[a']:=⟨rfl,λi h2 h3=>by
 match i,h2,h3 with
 |0,_,_=>exact h1
 |i+1,h2,_=>exact absurd h2 (by simp)⟩
def abe(An:DC){pv bv:z}(ah:GF (fI W) W W.heap.size b pv bv tv)(hm:sD W):
 ∃Ψ last o w' t',runNT ϋ (Ψ+1) (solo (G (Frame.enter ϋ 4 #[(η #[Y I b.ab,pv,bv,tv])] .normal) []) W) #[]=(.ended o w',t')/\runN ϋ Ψ (solo (G (Frame.enter ϋ 4 #[(η #[Y I b.ab,pv,bv,tv])] .normal) []) W)=.next last/\
  step ϋ last=.ended o w'/\Conc.Good ϋ (λv w'=>v=.bool D/\φ W w') last o w' t':=by
 letI:=jC
 obtain⟨hM,h00⟩:=af5 hm;obtain⟨hB,q1,q2,q3⟩:=af1 ah;have hrel:aV (tk W) (t4 (η #[Y I b.ab,pv,bv,tv])) (#[(η #[Y I b.ab,pv,bv,tv])]++ϱ (Tryz.f4.ntmps - (#[(η #[Y I b.ab,pv,bv,tv])]:Array z).size) L):=by rw[atH];exact(atd (ant q1 q2 q3)).append (anB _ 105)
 have aH:=λwl=>ah2 (wl:=wl) ah hm;obtain⟨PA,np,pc,A,m,c,TA,nt,tc,rfl,rfl,rfl⟩:=hB.op;have Gx:∀hr,aQ (bq (oF W) hr) W.heap.size b (.slice PA np pc) (.slice A m c) (.slice TA nt tc):=λhr=>⟨hB.pieces,hB.aC,hB.aI⟩
 have hz:=Nat.le_of_eq (Uk (W:=W)).symm;by_cases hf:wX b=D
 ·exact P8 An (Qu Tryz.func4 ai8 hrel hm) hm Tryz.func4 ai9 rfl (by omega) (λhr=>aiV (w:=bq (oF W) hr) (Gx hr) hz hf)
 ·have Iz:wX b=U:=by simpa using hf
  have M0:=Qu Tryz.func4 aiO hrel hm;obtain⟨cF,u1,mn,⟨hr,E1,e1,f1,E2,e2,f2,⟨Ks,Kt,Ku,tY,tZ,ua,ub,uc,ud,ue,uf,ug,uh,ui,uj,uk,um,uo,uq,ur,uu,uv,uw,ux,uy,uz,DM,D1,Ei,EG,EK,EL,ET,FT,F1,F2,F3,F4,Gt,Gu,Gv,Gw,G9,H7,Ig,ID,IE,IW,I3,Jg,rfl⟩,hE1,hE2,hS⟩,M1⟩:=Jb alu M0 (Q:=λu aa=>∃hr,Q4 (bq (oF W) hr) b (η #[Y I b.ab,.slice PA np pc,.slice A m c,.slice TA nt tc]) PA A TA np pc m c nt tc u aa)
   (λhr=>Gq (ju:=[]) (Q:=λe a w=>e=.normal/\a.defers=[cQ]/\∃hr,Q4 (bq (oF W) hr) b (η #[Y I b.ab,.slice PA np pc,.slice A m c,.slice TA nt tc]) PA A TA np pc m c nt tc a.tmps w) (λa aa hf=>⟨rfl,hf.1,hr,hf.2⟩) _ (aiW (w:=bq (oF W) hr) (Gx hr) hz hM Iz))
  have ahe:Bk mn (oF W).heap.size 26 #[Y I b.ab,.slice PA np pc,.slice A m c,.slice TA nt tc]:=(Bk.new (bq (oF W) hr) _ _).below hS (Nat.lt_succ_self _);obtain⟨bQ,gQ,T2,ol,M2,dE,rO⟩:=P9 asN M1 rfl rfl ahe (aH mn);obtain⟨LA,ln,lc,rfl⟩:=iI dE;rw[atI] at M2;have hT:∀T',Below mn.heap.size (bq mn T') (bq gQ T'):=λT'=>⟨rO.os,rfl,rO.output,rO.size,rO.block⟩
  refine P8 An M2 hm Tryz.func4 at5 rfl (by omega) (λT'=>aiY (w:=bq (oF W) T') (hs:=bq gQ T') (Gx T') hz ⟨rO.os.trans hS.os,rfl,rO.output.trans hS.output,Nat.le_trans hS.size rO.size,λk hk=>(rO.block k (Nat.lt_of_lt_of_le ?_ hS.size)).trans (hS.block k hk)⟩ (nw (w:=bq mn T') hE1 (hT T')) (nw (w:=bq mn T') hE2 (hT T')) (CF (w:=bq gQ T') dE) rfl);have:((bq (oF W) hr).alloc (Ξ #[Y I b.ab,.slice PA np pc,.slice A m c,.slice TA nt tc] 26)).heap.size=(bq (oF W) hr).heap.size+1:=by simp
  rw[this];exact hk
end Go.Jn
namespace Go.Jn
open Go Go.Proofs Go.Sim Go.Tw Go.Conc Go.ChangeShapes Go.WideShapes Go.ChangeAt Go.RowKit
open YtfifdjajcogccaaGreatDoor
def aiX(An:DC)(os:Os)(started:os.Started)(ν:Type)(enc:TypeId×z->ν):
 ReturnsInLeavingWide {} Tryz.checked os 4 .any (λw args=>(Rows.mouldBestSpec.pre enc ϋ Tryz.f4 [] U w args/\laidMetH ϋ FK w)/\sizedMet enc ϋ Tryz.f4 (OpenSpec.ofChange Rows.mouldBestSpec) U w args)
  (Rows.mouldBestSpec.post enc ϋ Tryz.f4 U D U U):=by
 refine akc (C:=Tryz.checked) (X:=λw _=>laidMetH ϋ FK w) (λ_ _ _ hh h=>laidMetH.of_heap hh h) amS started Tryz.func4
  (ChangeSpec.witness_shaped (enc:=enc) (C:=Tryz.checked) (os:=os) (X:=λw _=>laidMetH ϋ FK w) U (World.doorLaid ϋ 600 os) #[η #[Y I 0,E H 0 0,E H 0 0,E H 0 0]] 8 rfl (aoX os _) (by kernel_rfl) (by kernel_rfl) (by kernel_rfl) (aeu os _)) ?_
 intro W base args ds gs before Wv hW hS hL;have vD:∀(j:Nat) t v,Tryz.f4.params[j]?=J t->args[j]?=J v->Value.okWide ϋ W .any base t v:=Wv
 have hW':=hW;obtain⟨p,q,UH,hV,rfl,Vc,oN⟩:=hW;have hA:DataW.TrodAll enc ϋ W 0 (λ_=>D) D Tryz.f4.params.toList args.toList ds p:=UH
 rw[Tryz.params4] at hA vD;obtain⟨v0,d0,rfl,rfl,h0⟩:=trodAll_one hA;obtain⟨p0,rfl⟩:∃υ,υ=p:=⟨_,rfl⟩
 obtain⟨rfl,rfl⟩:=trodVars_none hV;have hv0:=vD 0 26 v0 rfl rfl;unfold Value.okWide at hv0;rw[Tryz.underlying26] at hv0;obtain⟨cs,rfl,_,_⟩:=hv0;have h0k:=h0;obtain⟨fuel,hf⟩:=h0;obtain⟨b,pv,bv,tv,fh,ah⟩:=acR (enc:=enc) (W:=W) hf;have ahr:cs=#[Y I b.ab,pv,bv,tv]:=by have:cs.toList=_:=fh;rw[<-Array.toList_inj,this]
 subst ahr;clear UH Wv;simp only[List.append_nil] at hW';have ao:∀y∈p0,y.block<W.heap.size:=λy hy=>hW'.lt y (by simpa using hy)
 have hm:=ale hS hL;obtain⟨hM,h00⟩:=af5 hm;obtain⟨hB,q1,q2,q3⟩:=af1 ah;obtain⟨M,last,o,w',t',r1,r2,r3,r4⟩:=abe An ah hm;refine⟨M,last,o,w',t',r1,r2,r3,Conc.Good.mono r4 λv hF=>?_⟩;obtain⟨rfl,hb⟩:=hF;refine⟨_,_,_,[],p0,[],hW',?_,?_,rfl,hb.frame _,λh=>by cases h⟩
 ·exact trodAll_mk1 (shut_bool Tryz.underlying4 _)
 ·exact trodAll_mk1 (Below.trod Jf (by kernel_rfl) (of_decide_eq_true (by kernel_rfl)) h0k hb ao)
end Go.Jn
namespace Go.Jn
open Go Go.Proofs
open YtfifdjajcogccaaGreatDoor
def apU(Lk:Looks){p:Pinned}{s:OpenSpec}{c:OpenClaim}(kinds:List LaidKind)(QO:Bool)(zI:Bool×String)(lk:Bool)
 (hc:c.holds p s)(hw:c.wfByText s=D)(aiP:c.laidByTextAt Lk p kinds QO)(eW:c.start=.entering)(eQ:c.noBlocks=U/\c.again=U)(hm:p.checked.prog.mainIs=J (zI.1,zI.2.toList))(hn:(!zI.1 && zI.2.isEmpty && !lk)=U)
 (hl:∀f fn,p.checked.prog.funcNamed c.func=J f->p.checked.prog.funcs[f]?=J fn->lk=p.checked.prog.looks []/\∀(j:Nat) t,fn.params[j]?=J t->p.checked.prog.wantsStandIn t=U)
 (hg:D=c.goesBy p.checked.prog):
 Claim7.holds p (.plain s) {stood:={row:=c,standIns:=[],harness:=zI,looks:=lk},kinds:=[],alts:=[],goes:=D,laidByText:=D,laidKinds:=kinds,laidTests:=QO,laidLooks:=Lk}:=by
 have h6:Claim7.isSixth {stood:={row:=c,standIns:=[],harness:=zI,looks:=lk},kinds:=[]}=U:=by simpa [Claim7.isSixth] using hn
 exact⟨Claim7.tied_new_at Lk kinds QO (Claim7.new_of_sixth hc zI lk eW eQ hm h6 hl) hw,(λθ hD=>by cases hD),aiP,(λh=>by cases h),hg⟩
def aoH:ϋ.laidByTextLater Rows.mouldLeastRow.laid [.funcs] D:=
 Program.laidByTextLater_by_one 16 8 2 (by kernel_rfl) (by kernel_rfl) (by kernel_rfl) (by kernel_rfl) (by kernel_rfl) (by kernel_rfl) (λ_ _=>by kernel_rfl)
def amY:Tryz.pinned.checked.prog.headLifts.contains "ownunsafe" =U:=by kernel_rfl
def ak8:Tryz.pinned.checked.prog.mainIs=J (D,"8b4c60804a89a2dc1775d2d899c432f4b3d9a7cd22d2b16114beb87ecc832d7f".toList):=by kernel_rfl
def amq:U=Tryz.pinned.checked.prog.looks []:=by kernel_rfl
end Go.Jn
namespace Go.Jn
open Go Go.Proofs Go.Sim Go.Conc Go.Tw Go.RowKit
def lit(x:Nat->z):List z:=x 0::x 1::x 2::x 3::x 4::x 5::x 6::x 7::x 8::x 9::x 10::x 11::x 12::x 13::x 14::x 15::x 16::x 17::x 18::x 19::x 20::x 21::x 22::x 23::x 24::x 25::x 26::x 27::x 28::x 29::x 30::x 31::x 32::x 33::x 34::x 35::x 36::x 37::x 38::x 39::x 40::x 41::x 42::x 43::x 44::x 45::x 46::x 47::x 48::x 49::x 50::x 51::x 52::x 53::x 54::x 55::x 56::x 57::x 58::x 59::x 60::x 61::x 62::x 63::x 64::x 65::x 66::x 67::x 68::x 69::x 70::x 71::x 72::x 73::x 74::x 75::x 76::x 77::x 78::x 79::x 80::x 81::x 82::x 83::x 84::x 85::x 86::x 87::x 88::x 89::x 90::x 91::x 92::x 93::x 94::x 95::x 96::x 97::x 98::x 99::x 100::x 101::x 102::x 103::x 104::x 105::x 106::x 107::x 108::x 109::x 110::x 111::x 112::x 113::x 114::x 115::x 116::x 117::x 118::x 119::x 120::x 121::x 122::x 123::x 124::x 125::x 126::x 127::x 128::x 129::x 130::x 131::x 132::x 133::x 134::x 135::x 136::x 137::x 138::x 139::x 140::x 141::x 142::x 143::x 144::x 145::x 146::x 147::x 148::x 149::x 150::x 151::x 152::x 153::x 154::x 155::x 156::x 157::x 158::x 159::x 160::x 161::x 162::x 163::x 164::x 165::x 166::x 167::x 168::x 169::x 170::x 171::x 172::x 173::x 174::x 175::x 176::x 177::x 178::x 179::x 180::x 181::x 182::x 183::x 184::x 185::x 186::x 187::x 188::x 189::x 190::x 191::x 192::x 193::x 194::x 195::x 196::x 197::x 198::x 199::x 200::x 201::x 202::x 203::x 204::x 205::x 206::x 207::x 208::x 209::x 210::x 211::x 212::x 213::x 214::x 215::x 216::x 217::x 218::x 219::x 220::x 221::x 222::x 223::x 224::x 225::x 226::x 227::x 228::x 229::x 230::x 231::x 232::x 233::x 234::x 235::x 236::x 237::x 238::x 239::x 240::x 241::x 242::x 243::x 244::x 245::x 246::x 247::x 248::x 249::x 250::x 251::x 252::x 253::x 254::x 255::x 256::x 257::x 258::x 259::x 260::x 261::x 262::x 263::x 264::x 265::x 266::x 267::x 268::x 269::x 270::x 271::x 272::x 273::x 274::x 275::x 276::x 277::x 278::x 279::x 280::x 281::x 282::x 283::x 284::x 285::x 286::x 287::x 288::x 289::x 290::x 291::x 292::x 293::x 294::x 295::x 296::x 297::x 298::x 299::x 300::x 301::x 302::x 303::x 304::x 305::x 306::x 307::x 308::x 309::x 310::x 311::x 312::x 313::x 314::x 315::x 316::x 317::x 318::x 319::x 320::x 321::x 322::x 323::x 324::x 325::x 326::x 327::x 328::x 329::x 330::x 331::x 332::x 333::x 334::x 335::x 336::x 337::x 338::x 339::x 340::x 341::x 342::x 343::x 344::x 345::x 346::x 347::x 348:: []
def akq(x:Nat->z):lit x=(ϣ 349).map x:=rfl
def Xj(u:Array z)(h:u.size=349):∃x:Nat->z,u=(lit x).toArray/\∀i v,u[i]?=J v->x i=v:=by
 refine⟨λi=>u.getD i L,?_,λi v hv=>?_⟩
 ·rw[akq];apply Array.ext
  ·simp[h]
  ·intro i h1 h2;simp[æ,h1]
 ·simp[æ,hv]
def Sl(m:List (Nat×z))(a:Act):Prop:=a.defers=[cQ]/\a.tmps.size=349/\∀p∈m,a.tmps[p.1]?=J p.2
def Sl.get{m:List (Nat×z)}(h:Sl m a)(hm:(i,v)∈m):a.tmps[i]?=J v:=h.2.2 (i,v) hm
def eY{p:α->Prop}{a:α}{l:List α}(h1:p a)(h2:∀x∈l,p x):∀x∈a::l,p x:=λx hx=>(Ϡ.1 hx).elim (λe=>e▸h1) (h2 x)
def jF{p:α->Prop}:∀x∈([]:List α),p x:=λ_ h=>absurd h Á
def Al:List (Nat×z)->(Nat->z)->Prop
 | [],_=>True
 |p::m,x=>x p.1=p.2/\Al m x
def Sl.lit{m:List (Nat×z)}{a:Act}(h:Sl m a):∃x,a=⟨(lit x).toArray,[cQ]⟩/\Al m x:=by
 obtain⟨u,d⟩:=a;obtain⟨hd,hz,hm⟩:=h;simp only at hd hz hm;subst hd;obtain⟨x,rfl,hx⟩:=Xj u hz;refine⟨x,rfl,?_⟩;clear hz;induction m with
 |nil=>trivial
 |cons p m ih=>exact⟨hx _ _ (hm p (by simp)),ih λq hq=>hm q (by simp[hq])⟩
def jZ{P:Program}{c:Code}{cs:List Code}{F:Act->N->Prop}{Q:Exit->Act->N->Prop}(h:c.wp P (dK F) a w)(h2:∀a w,F a w->fu P cs Q a w):fu P (c::cs) Q a w:=by
 show c.wp P (Exit.then (fu P cs Q) Q) a w;refine Code.wp_mono (λe a w hq=>?_) h;cases e with
 |normal=>exact h2 a w hq
 |_=>exact(hq:False).elim
end Go.Jn
namespace Go.Jn
open Go Go.Proofs Go.Sim Go.Conc Go.Tw Go.RowKit
section
variable [Go.Tw.aK]
def rz3{W:Option ϖ->Nat->Nat->N->Prop}(V:Sl [(0,.bool U),(1,π (J ⟨gE,0,H⟩)),(2,E (J ⟨gc,0,H⟩) 3 3),(3,E (J ⟨g3,0,H⟩) 3 3)] a)(hc:Bk w gE 26 #[Y I 1,E (J ⟨gp,0,H⟩) 3 3,E (J ⟨gb,0,H⟩) 2 2,E (J ⟨gt,0,H⟩) 1 1])
 (aG:ύ prog 47 #[η #[Y I 1,E (J ⟨gp,0,H⟩) 3 3,E (J ⟨gb,0,H⟩) 2 2,E (J ⟨gt,0,H⟩) 1 1],Y I 0] w λe w'=>∃A4 n4 c4,e=Ω (μ #[.slice A4 n4 c4,Y I 0])/\W A4 n4 c4 w'):tO.wp prog (dK λa w=>∃A4 n4 c4,Sl [(0,.bool U),(1,π (J ⟨gE,0,H⟩)),(2,E (J ⟨gc,0,H⟩) 3 3),(3,E (J ⟨g3,0,H⟩) 3 3),(4,.slice A4 n4 c4),(5,Y I 0)] a/\W A4 n4 c4 w) a w:=by
 obtain⟨x,rfl,hx⟩:=V.lit;simp only[Al] at hx;have q0:=hc.cell 0;have q1:=hc.cell 1;have q2:=hc.cell 2;have q3:=hc.cell 3;have aG:=K aG;clear hc;unfold lit;simp only[hx];simp only[tO,qe,iM,iL,iK,iS,Tryz.f21,bp,aS,Λ];go_wp2_with (go_at_call 47;refine aG.e.mono ?_;rintro e w1 ⟨A4,n4,c4,rfl,hp⟩;have HP:=K hp;clear hp)
 exact⟨A4,n4,c4,⟨rfl,rfl,(by repeat first|exact jF|refine eY rfl ?_)⟩,HP.e⟩
def rz4{c4:Nat}{W:N->Prop}(V:Sl [(0,.bool U),(1,π (J ⟨gE,0,H⟩)),(2,E (J ⟨gc,0,H⟩) 3 3),(3,E (J ⟨g3,0,H⟩) 3 3),(4,.slice A4 n4 c4),(5,Y I 0)] a)(hc:Bk w gE 26 #[Y I 1,E (J ⟨gp,0,H⟩) 3 3,E (J ⟨gb,0,H⟩) 2 2,E (J ⟨gt,0,H⟩) 1 1])
 (aG:ύ prog 48 #[η #[Y I 1,E (J ⟨gp,0,H⟩) 3 3,E (J ⟨gb,0,H⟩) 2 2,E (J ⟨gt,0,H⟩) 1 1],Y I 0,Y I 0] w λe w'=>e=Ω (μ #[Y I 4,Y I 0])/\W w'):tP.wp prog (dK λa w=>Sl [(0,.bool U),(1,π (J ⟨gE,0,H⟩)),(2,E (J ⟨gc,0,H⟩) 3 3),(3,E (J ⟨g3,0,H⟩) 3 3),(4,.slice A4 n4 c4),(5,Y I 0),(6,Y I 4),(7,Y I 0)] a/\W w) a w:=by
 obtain⟨x,rfl,hx⟩:=V.lit;simp only[Al] at hx;have q0:=hc.cell 0;have q1:=hc.cell 1;have q2:=hc.cell 2;have q3:=hc.cell 3;have aG:=K aG;clear hc;unfold lit;simp only[hx];simp only[tP,jH,qe,iM,iL,iK,iS,Tryz.f21,bp,aS,Λ];go_wp2_with (go_at_call 48;refine aG.e.mono ?_;rintro e w1 ⟨rfl,hp⟩;have HP:=K hp;clear hp)
 exact⟨⟨rfl,rfl,(by repeat first|exact jF|refine eY rfl ?_)⟩,HP.e⟩
def rz5{c4:Nat}{W:N->Prop}(V:Sl [(0,.bool U),(1,π (J ⟨gE,0,H⟩)),(2,E (J ⟨gc,0,H⟩) 3 3),(3,E (J ⟨g3,0,H⟩) 3 3),(4,.slice A4 n4 c4),(5,Y I 0),(6,Y I 4),(7,Y I 0)] a)(hc:Bk w gE 26 #[Y I 1,E (J ⟨gp,0,H⟩) 3 3,E (J ⟨gb,0,H⟩) 2 2,E (J ⟨gt,0,H⟩) 1 1])
 (aG:ύ prog 48 #[η #[Y I 1,E (J ⟨gp,0,H⟩) 3 3,E (J ⟨gb,0,H⟩) 2 2,E (J ⟨gt,0,H⟩) 1 1],Y I 0,Y I 1] w λe w'=>e=Ω (μ #[Y I 8,Y I 0])/\W w'):tQ.wp prog (dK λa w=>Sl [(0,.bool U),(1,π (J ⟨gE,0,H⟩)),(2,E (J ⟨gc,0,H⟩) 3 3),(3,E (J ⟨g3,0,H⟩) 3 3),(4,.slice A4 n4 c4),(5,Y I 0),(6,Y I 4),(7,Y I 0),(8,Y I 8),(9,Y I 0)] a/\W w) a w:=by
 obtain⟨x,rfl,hx⟩:=V.lit;simp only[Al] at hx;have q0:=hc.cell 0;have q1:=hc.cell 1;have q2:=hc.cell 2;have q3:=hc.cell 3;have aG:=K aG;clear hc;unfold lit;simp only[hx];simp only[tQ,j4,jH,qe,iM,iL,iK,iS,Tryz.f21,bp,aS,Λ];go_wp2_with (go_at_call 48;refine aG.e.mono ?_;rintro e w1 ⟨rfl,hp⟩;have HP:=K hp;clear hp)
 exact⟨⟨rfl,rfl,(by repeat first|exact jF|refine eY rfl ?_)⟩,HP.e⟩
def rz8{c4:Nat}{W:N->Prop}(V:Sl [(0,.bool U),(1,π (J ⟨gE,0,H⟩)),(2,E (J ⟨gc,0,H⟩) 3 3),(3,E (J ⟨g3,0,H⟩) 3 3),(4,.slice A4 n4 c4),(5,Y I 0),(6,Y I 4),(7,Y I 0),(8,Y I 8),(9,Y I 0),(10,.bool D),(11,Y I 0),(12,.bool U),(13,Y I 0)] a)(hc:Bk w gE 26 #[Y I 1,E (J ⟨gp,0,H⟩) 3 3,E (J ⟨gb,0,H⟩) 2 2,E (J ⟨gt,0,H⟩) 1 1])
 (aG:ύ prog 22 #[η #[Y I 1,E (J ⟨gp,0,H⟩) 3 3,E (J ⟨gb,0,H⟩) 2 2,E (J ⟨gt,0,H⟩) 1 1]] w λe w'=>e=Ω (μ #[Y I 2,Y I 0])/\W w'):tT.wp prog (dK λa w=>Sl [(0,.bool U),(1,π (J ⟨gE,0,H⟩)),(2,E (J ⟨gc,0,H⟩) 3 3),(3,E (J ⟨g3,0,H⟩) 3 3),(4,.slice A4 n4 c4),(5,Y I 0),(6,Y I 4),(7,Y I 0),(8,Y I 8),(9,Y I 0),(10,.bool D),(11,Y I 0),(12,.bool U),(13,Y I 0),(14,Y I 2),(15,Y I 0)] a/\W w) a w:=by
 obtain⟨x,rfl,hx⟩:=V.lit;simp only[Al] at hx;have q0:=hc.cell 0;have q1:=hc.cell 1;have q2:=hc.cell 2;have q3:=hc.cell 3;have aG:=K aG;clear hc;unfold lit;simp only[hx];simp only[tT,lM,lr,kK,j4,jH,qe,iM,iL,iK,iS,Tryz.f21,bp,aS,Λ];go_wp2_with (go_at_call 22;refine aG.e.mono ?_;rintro e w1 ⟨rfl,hp⟩;have HP:=K hp;clear hp)
 exact⟨⟨rfl,rfl,(by repeat first|exact jF|refine eY rfl ?_)⟩,HP.e⟩
def rz9{c4:Nat}{W:Option ϖ->Nat->Nat->N->Prop}(V:Sl [(0,.bool U),(1,π (J ⟨gE,0,H⟩)),(2,E (J ⟨gc,0,H⟩) 3 3),(3,E (J ⟨g3,0,H⟩) 3 3),(4,.slice A4 n4 c4),(5,Y I 0),(6,Y I 4),(7,Y I 0),(8,Y I 8),(9,Y I 0),(10,.bool D),(11,Y I 0),(12,.bool U),(13,Y I 0),(14,Y I 2),(15,Y I 0)] a)(hc:Bk w gE 26 #[Y I 1,E (J ⟨gp,0,H⟩) 3 3,E (J ⟨gb,0,H⟩) 2 2,E (J ⟨gt,0,H⟩) 1 1])
 (aG:ύ prog 24 #[η #[Y I 1,E (J ⟨gp,0,H⟩) 3 3,E (J ⟨gb,0,H⟩) 2 2,E (J ⟨gt,0,H⟩) 1 1],Y I 0] w λe w'=>∃lN n16 c16,e=Ω (μ #[.slice lN n16 c16,Y I 0])/\W lN n16 c16 w'):tU.wp prog (dK λa w=>∃lN n16 c16,Sl [(0,.bool U),(1,π (J ⟨gE,0,H⟩)),(2,E (J ⟨gc,0,H⟩) 3 3),(3,E (J ⟨g3,0,H⟩) 3 3),(4,.slice A4 n4 c4),(5,Y I 0),(6,Y I 4),(7,Y I 0),(8,Y I 8),(9,Y I 0),(10,.bool D),(11,Y I 0),(12,.bool U),(13,Y I 0),(14,Y I 2),(15,Y I 0),(16,.slice lN n16 c16),(17,Y I 0)] a/\W lN n16 c16 w) a w:=by
 obtain⟨x,rfl,hx⟩:=V.lit;simp only[Al] at hx;have q0:=hc.cell 0;have q1:=hc.cell 1;have q2:=hc.cell 2;have q3:=hc.cell 3;have aG:=K aG;clear hc;unfold lit;simp only[hx];simp only[tU,mo,lM,lr,kK,j4,jH,qe,iM,iL,iK,iS,Tryz.f21,bp,aS,Λ];go_wp2_with (go_at_call 24;refine aG.e.mono ?_;rintro e w1 ⟨lN,n16,c16,rfl,hp⟩;have HP:=K hp;clear hp)
 exact⟨lN,n16,c16,⟨rfl,rfl,(by repeat first|exact jF|refine eY rfl ?_)⟩,HP.e⟩
def an4{W:N->Prop}(V:Sl [(0,.bool U),(1,π (J ⟨gE,0,H⟩)),(2,E (J ⟨gc,0,H⟩) 3 3),(3,E (J ⟨g3,0,H⟩) 3 3)] a)(hc:Bk w gE 26 #[Y I 1,E (J ⟨gp,0,H⟩) 3 3,E (J ⟨gb,0,H⟩) 2 2,E (J ⟨gt,0,H⟩) 1 1])
 (aG:ύ prog 28 #[η #[Y I 1,E (J ⟨gp,0,H⟩) 3 3,E (J ⟨gb,0,H⟩) 2 2,E (J ⟨gt,0,H⟩) 1 1],E (J ⟨gc,0,H⟩) 3 3] w λe w'=>e=Ω (μ #[Y I 1,Y I 0])/\W w'):tH.wp prog (dK λa w=>Sl [(0,.bool U),(1,π (J ⟨gE,0,H⟩)),(2,E (J ⟨gc,0,H⟩) 3 3),(3,E (J ⟨g3,0,H⟩) 3 3),(5,Y I 0),(20,Y I 1)] a/\W w) a w:=by
 obtain⟨x,rfl,hx⟩:=V.lit;simp only[Al] at hx;have q0:=hc.cell 0;have q1:=hc.cell 1;have q2:=hc.cell 2;have q3:=hc.cell 3;have aG:=K aG;clear hc;unfold lit;simp only[hx];simp only[tH,pb,oo,wG,mo,lM,lr,kK,j4,jH,qe,iM,iL,iK,iS,Tryz.f21,bp,aS,Λ];go_wp2_with (go_at_call 28;refine aG.e.mono ?_;rintro e w1 ⟨rfl,hp⟩;have HP:=K hp;clear hp)
 exact⟨⟨rfl,rfl,(by repeat first|exact jF|refine eY rfl ?_)⟩,HP.e⟩
def an5{W:N->Prop}(V:Sl [(0,.bool U),(1,π (J ⟨gE,0,H⟩)),(2,E (J ⟨gc,0,H⟩) 3 3),(3,E (J ⟨g3,0,H⟩) 3 3),(5,Y I 0),(20,Y I 1)] a)(hc:Bk w gE 26 #[Y I 1,E (J ⟨gp,0,H⟩) 3 3,E (J ⟨gb,0,H⟩) 2 2,E (J ⟨gt,0,H⟩) 1 1])
 (aG:ύ prog 28 #[η #[Y I 1,E (J ⟨gp,0,H⟩) 3 3,E (J ⟨gb,0,H⟩) 2 2,E (J ⟨gt,0,H⟩) 1 1],E (J ⟨g3,0,H⟩) 3 3] w λe w'=>e=Ω (μ #[Y I 0,Y I 0])/\W w'):tI.wp prog (dK λa w=>Sl [(0,.bool U),(1,π (J ⟨gE,0,H⟩)),(2,E (J ⟨gc,0,H⟩) 3 3),(3,E (J ⟨g3,0,H⟩) 3 3),(5,Y I 0),(7,Y I 0),(20,Y I 1),(21,Y I 0)] a/\W w) a w:=by
 obtain⟨x,rfl,hx⟩:=V.lit;simp only[Al] at hx;have q0:=hc.cell 0;have q1:=hc.cell 1;have q2:=hc.cell 2;have q3:=hc.cell 3;have aG:=K aG;clear hc;unfold lit;simp only[hx];simp only[tI,pW,pb,oo,wG,mo,lM,lr,kK,j4,jH,qe,iM,iL,iK,iS,Tryz.f21,bp,aS,Λ];go_wp2_with (go_at_call 28;refine aG.e.mono ?_;rintro e w1 ⟨rfl,hp⟩;have HP:=K hp;clear hp)
 exact⟨⟨rfl,rfl,(by repeat first|exact jF|refine eY rfl ?_)⟩,HP.e⟩
def an6{W:Option ϖ->Nat->Nat->N->Prop}(V:Sl [(0,.bool U),(1,π (J ⟨gE,0,H⟩)),(2,E (J ⟨gc,0,H⟩) 3 3),(3,E (J ⟨g3,0,H⟩) 3 3),(5,Y I 0),(7,Y I 0),(20,Y I 1),(21,Y I 0)] a)(hc:Bk w gE 26 #[Y I 1,E (J ⟨gp,0,H⟩) 3 3,E (J ⟨gb,0,H⟩) 2 2,E (J ⟨gt,0,H⟩) 1 1])
 (aG:ύ prog 31 #[η #[Y I 1,E (J ⟨gp,0,H⟩) 3 3,E (J ⟨gb,0,H⟩) 2 2,E (J ⟨gt,0,H⟩) 1 1],E (J ⟨gc,0,H⟩) 3 3] w λe w'=>∃dF n22 c22,e=Ω (μ #[.slice dF n22 c22,Y I 0])/\W dF n22 c22 w'):tJ.wp prog (dK λa w=>∃dF n22 c22,Sl [(0,.bool U),(1,π (J ⟨gE,0,H⟩)),(2,E (J ⟨gc,0,H⟩) 3 3),(3,E (J ⟨g3,0,H⟩) 3 3),(5,Y I 0),(7,Y I 0),(9,Y I 0),(20,Y I 1),(21,Y I 0),(22,.slice dF n22 c22)] a/\W dF n22 c22 w) a w:=by
 obtain⟨x,rfl,hx⟩:=V.lit;simp only[Al] at hx;have q0:=hc.cell 0;have q1:=hc.cell 1;have q2:=hc.cell 2;have q3:=hc.cell 3;have aG:=K aG;clear hc;unfold lit;simp only[hx];simp only[tJ,qV,pW,pb,oo,wG,mo,lM,lr,kK,j4,jH,qe,iM,iL,iK,iS,Tryz.f21,bp,aS,Λ];go_wp2_with (go_at_call 31;refine aG.e.mono ?_;rintro e w1 ⟨dF,n22,c22,rfl,hp⟩;have HP:=K hp;clear hp)
 exact⟨dF,n22,c22,⟨rfl,rfl,(by repeat first|exact jF|refine eY rfl ?_)⟩,HP.e⟩
def an7{W:N->Prop}(V:Sl [(0,.bool U),(1,π (J ⟨gE,0,H⟩)),(2,E (J ⟨gc,0,H⟩) 3 3),(3,E (J ⟨g3,0,H⟩) 3 3),(5,Y I 0),(7,Y I 0),(9,Y I 0),(20,Y I 1),(21,Y I 0),(22,.slice dF n22 c22)] a)(hc:Bk w gE 26 #[Y I 1,E (J ⟨gp,0,H⟩) 3 3,E (J ⟨gb,0,H⟩) 2 2,E (J ⟨gt,0,H⟩) 1 1])
 (aG:ύ prog 31 #[η #[Y I 1,E (J ⟨gp,0,H⟩) 3 3,E (J ⟨gb,0,H⟩) 2 2,E (J ⟨gt,0,H⟩) 1 1],E (J ⟨g3,0,H⟩) 3 3] w λe w'=>e=Ω (μ #[E H 0 0,Y I 8])/\W w'):tK.wp prog (dK λa w=>Sl [(0,.bool U),(1,π (J ⟨gE,0,H⟩)),(2,E (J ⟨gc,0,H⟩) 3 3),(3,E (J ⟨g3,0,H⟩) 3 3),(5,Y I 0),(7,Y I 0),(9,Y I 0),(20,Y I 1),(21,Y I 0),(22,.slice dF n22 c22),(23,E H 0 0),(24,Y I 8)] a/\W w) a w:=by
 obtain⟨x,rfl,hx⟩:=V.lit;simp only[Al] at hx;have q0:=hc.cell 0;have q1:=hc.cell 1;have q2:=hc.cell 2;have q3:=hc.cell 3;have aG:=K aG;clear hc;unfold lit;simp only[hx];simp only[tK,su,qV,pW,pb,oo,wG,mo,lM,lr,kK,j4,jH,qe,iM,iL,iK,iS,Tryz.f21,bp,aS,Λ];go_wp2_with (go_at_call 31;refine aG.e.mono ?_;rintro e w1 ⟨rfl,hp⟩;have HP:=K hp;clear hp)
 exact⟨⟨rfl,rfl,(by repeat first|exact jF|refine eY rfl ?_)⟩,HP.e⟩
def an8{W:Option ϖ->Nat->Nat->N->Prop}(V:Sl [(0,.bool U),(1,π (J ⟨gE,0,H⟩)),(2,E (J ⟨gc,0,H⟩) 3 3),(3,E (J ⟨g3,0,H⟩) 3 3),(5,Y I 0),(7,Y I 0),(9,Y I 0),(20,Y I 1),(21,Y I 0),(22,.slice dF n22 c22),(23,E H 0 0),(24,Y I 8)] a)(hc:Bk w gE 26 #[Y I 1,E (J ⟨gp,0,H⟩) 3 3,E (J ⟨gb,0,H⟩) 2 2,E (J ⟨gt,0,H⟩) 1 1])
 (aG:ύ prog 33 #[η #[Y I 1,E (J ⟨gp,0,H⟩) 3 3,E (J ⟨gb,0,H⟩) 2 2,E (J ⟨gt,0,H⟩) 1 1]] w λe w'=>∃ae n25 cw,e=Ω (μ #[.slice ae n25 cw,Y I 2,.bool D,Y I 0])/\W ae n25 cw w'):tL.wp prog (dK λa w=>∃ae n25 cw,Sl [(0,.bool U),(1,π (J ⟨gE,0,H⟩)),(2,E (J ⟨gc,0,H⟩) 3 3),(3,E (J ⟨g3,0,H⟩) 3 3),(5,Y I 0),(7,Y I 0),(9,Y I 0),(11,Y I 0),(20,Y I 1),(21,Y I 0),(22,.slice dF n22 c22),(23,E H 0 0),(24,Y I 8),(25,.slice ae n25 cw),(26,Y I 2),(27,.bool D)] a/\W ae n25 cw w) a w:=by
 obtain⟨x,rfl,hx⟩:=V.lit;simp only[Al] at hx;have q0:=hc.cell 0;have q1:=hc.cell 1;have q2:=hc.cell 2;have q3:=hc.cell 3;have aG:=K aG;clear hc;unfold lit;simp only[hx];simp only[tL,uA,su,qV,pW,pb,oo,wG,mo,lM,lr,kK,j4,jH,qe,iM,iL,iK,iS,Tryz.f21,bp,aS,Λ];go_wp2_with (go_at_call 33;refine aG.e.mono ?_;rintro e w1 ⟨ae,n25,cw,rfl,hp⟩;have HP:=K hp;clear hp)
 exact⟨ae,n25,cw,⟨rfl,rfl,(by repeat first|exact jF|refine eY rfl ?_)⟩,HP.e⟩
def an9{W:Option ϖ->Nat->Nat->N->Prop}(V:Sl [(0,.bool U),(1,π (J ⟨gE,0,H⟩)),(2,E (J ⟨gc,0,H⟩) 3 3),(3,E (J ⟨g3,0,H⟩) 3 3),(5,Y I 0),(7,Y I 0),(9,Y I 0),(11,Y I 0),(20,Y I 1),(21,Y I 0),(22,.slice dF n22 c22),(23,E H 0 0),(24,Y I 8),(25,.slice ae n25 cw),(26,Y I 2),(27,.bool D)] a)(hc:Bk w gE 26 #[Y I 1,E (J ⟨gp,0,H⟩) 3 3,E (J ⟨gb,0,H⟩) 2 2,E (J ⟨gt,0,H⟩) 1 1])
 (aG:ύ prog 36 #[η #[Y I 1,E (J ⟨gp,0,H⟩) 3 3,E (J ⟨gb,0,H⟩) 2 2,E (J ⟨gt,0,H⟩) 1 1]] w λe w'=>∃eG n28 eI,e=Ω (μ #[.slice eG n28 eI,Y I 14,.bool D,Y I 0])/\W eG n28 eI w'):tM.wp prog (dK λa w=>∃eG n28 eI,Sl [(0,.bool U),(1,π (J ⟨gE,0,H⟩)),(2,E (J ⟨gc,0,H⟩) 3 3),(3,E (J ⟨g3,0,H⟩) 3 3),(5,Y I 0),(7,Y I 0),(9,Y I 0),(11,Y I 0),(13,Y I 0),(20,Y I 1),(21,Y I 0),(22,.slice dF n22 c22),(23,E H 0 0),(24,Y I 8),(25,.slice ae n25 cw),(26,Y I 2),(27,.bool D),(28,.slice eG n28 eI),(29,Y I 14),(30,.bool D)] a/\W eG n28 eI w) a w:=by
 obtain⟨x,rfl,hx⟩:=V.lit;simp only[Al] at hx;have q0:=hc.cell 0;have q1:=hc.cell 1;have q2:=hc.cell 2;have q3:=hc.cell 3;have aG:=K aG;clear hc;unfold lit;simp only[hx];simp only[tM,vZ,uA,su,qV,pW,pb,oo,wG,mo,lM,lr,kK,j4,jH,qe,iM,iL,iK,iS,Tryz.f21,bp,aS,Λ];go_wp2_with (go_at_call 36;refine aG.e.mono ?_;rintro e w1 ⟨eG,n28,eI,rfl,hp⟩;have HP:=K hp;clear hp)
 exact⟨eG,n28,eI,⟨rfl,rfl,(by repeat first|exact jF|refine eY rfl ?_)⟩,HP.e⟩
def aoa{eG:Option ϖ}{jI:Option ϖ}{W:N->Prop}(V:Sl [(0,.bool U),(1,π (J ⟨gE,0,H⟩)),(2,E (J ⟨gc,0,H⟩) 3 3),(3,E (J ⟨g3,0,H⟩) 3 3),(5,Y I 0),(7,Y I 0),(9,Y I 0),(11,Y I 0),(13,Y I 0),(15,Y I 0),(20,Y I 1),(21,Y I 0),(22,.slice dF n22 c22),(23,E H 0 0),(24,Y I 8),(25,.slice ae n25 cw),(26,Y I 2),(27,.bool D),(28,.slice eG n28 eI),(29,Y I 14),(30,.bool D),(31,.slice jI n31 jN)] a)(hc:Bk w gE 26 #[Y I 1,E (J ⟨gp,0,H⟩) 3 3,E (J ⟨gb,0,H⟩) 2 2,E (J ⟨gt,0,H⟩) 1 1])
 (aG:ύ prog 61 #[η #[Y I 1,E (J ⟨gp,0,H⟩) 3 3,E (J ⟨gb,0,H⟩) 2 2,E (J ⟨gt,0,H⟩) 1 1]] w λe w'=>e=Ω (μ #[Y I 0,Y I 1,Y I 0])/\W w'):yB.wp prog (dK λa w=>Sl [(0,.bool U),(1,π (J ⟨gE,0,H⟩)),(2,E (J ⟨gc,0,H⟩) 3 3),(3,E (J ⟨g3,0,H⟩) 3 3),(5,Y I 0),(7,Y I 0),(9,Y I 0),(11,Y I 0),(13,Y I 0),(15,Y I 0),(17,Y I 0),(20,Y I 1),(21,Y I 0),(22,.slice dF n22 c22),(23,E H 0 0),(24,Y I 8),(25,.slice ae n25 cw),(26,Y I 2),(27,.bool D),(28,.slice eG n28 eI),(29,Y I 14),(30,.bool D),(31,.slice jI n31 jN),(32,Y I 0),(33,Y I 1)] a/\W w) a w:=by
 obtain⟨x,rfl,hx⟩:=V.lit;simp only[Al] at hx;have q0:=hc.cell 0;have q1:=hc.cell 1;have q2:=hc.cell 2;have q3:=hc.cell 3;have aG:=K aG;clear hc;unfold lit;simp only[hx];simp only[yB,yI,yH,vZ,uA,su,qV,pW,pb,oo,wG,mo,lM,lr,kK,j4,jH,qe,iM,iL,iK,iS,Tryz.f21,bp,aS,Λ];go_wp2_with (go_at_call 61;refine aG.e.mono ?_;rintro e w1 ⟨rfl,hp⟩;have HP:=K hp;clear hp)
 exact⟨⟨rfl,rfl,(by repeat first|exact jF|refine eY rfl ?_)⟩,HP.e⟩
end
end Go.Jn
namespace Go.Jn
open Go
section
variable {P:Program}{md:Region.Mode}{ops:Array Oper}{Q:Exit->Act->N->Prop}
def gL(n i:Nat):Array Bool:=Array.ofFn λk:Fin n=>decide (k.val<i)
def PF(h:k<n):(gL n i)[k]?=J (decide (k<i)):=by unfold gL;rw[Array.getElem?_ofFn,dif_pos h]
def FN(d:Bool)(h:k<n):(gL n i).getD k d=decide (k<i):=by rw[æ,PF h];rfl
def akC(n:Nat):ϱ n U=gL n 0:=by
 apply Array.ext
 ·simp[gL]
 ·intro k h1 h2;simp[gL]
def PG(n i:Nat):(gL n i).size=n:=by simp[gL]
def AG(h:i<n):(gL n i).setIfInBounds i D=gL n (i+1):=by
 apply Array.ext_getElem?;intro k;rw[Ü,PG];by_cases hk:k<n
 ·rw[PF hk,PF hk];split
  ·subst_vars;simp[hk]
  ·rename_i aw;simp only[Option.some.injEq,decide_eq_decide];omega
 ·have h1:(gL n i)[k]?=H:=by rw[Akp,PG];omega
  have h2:(gL n (i+1))[k]?=H:=by rw[Akp,PG];omega
  rw[h1,h2,if_neg (by omega)]
def Xo(hj:j=i+1)(h:j<n):((gL n i).setIfInBounds i D).setIfInBounds j D=gL n (j+1):=by subst hj;rw[AG (by omega),AG h]
def akB(hj:j=i+1)(h:j<n):((gL n i).setIfInBounds j D).setIfInBounds i D=gL n (j+1):=by rw[Array.setIfInBounds_comm _ _ (by omega)];exact Xo hj h
def MQ(o:Oper)(j:Nat):Bool:=o.after.toList.all λe=>decide (e.on<j)
def ND(md:Region.Mode)(o:Oper)(k:Nat):Bool:=o.after.toList.any λe=>Region.binds md e && decide (k<=e.on)
def seqB(md:Region.Mode)(n s e:Nat):List Oper->Nat->Bool
 | [],_=>D
 |o::l,j=>(decide (e<=j) ||MQ o j) && (decide (j<=s) ||ND md o (min (j - 1) (e - 1))) && (o.after.toList.all λx=>decide (x.on<n)) && seqB md n s e l (j+1)
def Yz{n s e:Nat}:∀(l:List Oper) (j:Nat),seqB md n s e l j=D->∀(k:Nat) (o:Oper),l[k]?=J o->(j+k<e->MQ o (j+k)=D)/\(s<j+k->ND md o (min (j+k - 1) (e - 1))=D)/\∀x∈o.after.toList,x.on<n
 | [],_,_,k,o,h=>by simp at h
 |p::l,j,V,k,o,h=>by
  simp only[seqB,Bool.and_eq_true,Bool.or_eq_true,decide_eq_true_eq,Ħ] at V;obtain⟨⟨⟨h1,h2⟩,h3⟩,h4⟩:=V;cases k with
  |zero=>simp only[List.getElem?_cons_zero,Option.some.injEq] at h;subst h;refine⟨λhj=>h1.resolve_left (by omega),λhj=>h2.resolve_left (by omega),h3⟩
  |succ k=>simp only[List.getElem?_cons_succ] at h;have:=Yz l (j+1) h4 k o h;rw[show j+1+k=j+(k+1) by omega] at this;exact this
def filter_one{p:Nat->Bool}(hi:i<n)(h1:p i=D)(h2:∀j,j<n->j≠i->p j=U):(ϣ n).filter p=[i]:=by
 have e:(ϣ n).filter p=(ϣ n).filter (λj=>j==i):=by
  apply List.filter_congr;intro j hj;have hj:=List.mem_range.1 hj;by_cases e:j=i
  ·subst e;simp[h1]
  ·rw[h2 j hj e];simp[e]
 rw[e];have hn:(ϣ n).Nodup:=List.nodup_range;have hm:i∈ϣ n:=by simpa using hi
 have:∀l:List Nat,l.Nodup->i∈l->l.filter (λj=>j==i)=[i]:=by
  intro l;induction l with
  |nil=>intro _ h;cases h
  |cons a l ih=>
   intro oN ma;rw[List.nodup_cons] at oN;by_cases e:a=i
   ·subst e;rw[List.filter_cons_of_pos (by simp)];have:l.filter (λj=>j==a)=[]:=by
     rw[List.filter_eq_nil_iff];intro b hb;simp only[beq_iff_eq];rintro rfl;exact oN.1 hb
    rw[this]
   ·rw[List.filter_cons_of_neg (by simpa using e)];exact ih oN.2 ((Ϡ.1 ma).resolve_left (Ne.symm e))
 exact this _ hn hm
def aoT{s:Nat}(h:seqB md ops.size s e ops.toList 0=D)(V:s<=i)(he:i<e)(hi:i<ops.size):ϯ md ops (gL ops.size i)=[i]:=by
 have mN:∀k (hk:k<ops.size),_:=λk hk=>Yz ops.toList 0 h k ops[k] (by simp[hk]);simp only[Nat.zero_add] at mN;refine filter_one hi ?_ λj hj aw=>?_
 ·rw[FN _ hi,ā hi];simp only[Nat.lt_irrefl,decide_false,Bool.not_false,ó,Λ,Bool.true_and];rw[<-Array.all_toList,Ħ];intro x hx;obtain⟨h1,_,h3⟩:=mN i hi;have h1:=h1 he;unfold MQ at h1;rw[Ħ] at h1;have O6:x.on<i:=by simpa using h1 x hx
  rw[FN _ (h3 x hx)];simp[O6]
 ·by_cases ao:j<i
  ·rw[FN _ hj];simp[ao]
  ·have vk:i<j:=by omega
   rw[FN _ hj,ā hj];simp only[ao,decide_false,Bool.not_false,ó,Λ,Bool.true_and];rw[<-Array.all_toList];obtain⟨_,h2,h3⟩:=mN j hj;have h2:=h2 (by omega)
   unfold ND at h2;rw[List.any_eq_true] at h2;obtain⟨x,hx,Cw⟩:=h2;simp only[Bool.and_eq_true,decide_eq_true_eq] at Cw;rw[List.all_eq_false];refine⟨x,hx,?_⟩;rw[FN _ (h3 x hx),Cw.1];have:¬x.on<i:=by have:=Cw.2;omega
   simp[this]
def XT{ψ K':Act->N->Prop}(h:o.wp P a w K' (Exit.then ψ Q)):o.wp P a w K' Q:=by
 unfold Oper.wp at *;generalize (execOp a.eval o).run P w=r at *;cases r with
 |ok n w'=>
  cases n<;>simp only[Oper.upon] at h |- <;>
   first
    |exact h
    |exact Calls.mono h (λe bz he=>by cases e<;>exact he)
 |halt x w'=>cases x<;>simp only[Oper.upon] at h |- <;>exact h
def ZG(hi:ops[i]?=J o){ψ:Act->N->Prop}{l:List Oper}{R:Exit->Act->N->Prop}(hR:∀a w,ş P ops R l a w->ψ a w)(hp:∀ {o:Oper} {K':Act->N->Prop} {a:Act} {w:N},o.wp P a w K' R->o.wp P a w K' Q)(hl:LetsOut R->LetsOut Q)
 (h:ş P ops R (o::l) a w):wpOp P ops Q i ψ a w:=by
 unfold wpOp;simp only[hi];unfold ş at h;split
 ·rename_i hw;rw[if_pos hw] at h;exact h.imp (λh=>Oper.wp_mono hR (hp h)) (λh=>⟨h.1,hl h.2⟩)
 ·rename_i hw;rw[if_neg hw] at h;exact hR _ _ h
def wJ{fuel s e Ψ:Nat}(hN:ops.size=Ψ)(h:seqB md Ψ s e ops.toList 0=D)(he:e<=Ψ):∀(n i:Nat) {a:Act} {w:N},s<=i->i+n=e->
 ş P ops (Exit.then (ë P md ops Q fuel (gL Ψ e)) Q) ((ops.toList.drop i).take n) a w->ë P md ops Q (fuel+n) (gL Ψ i) a w
 |0,i,a,w,_,hie,h2=>by
  obtain rfl:i=e:=by omega
  have h2:Exit.then (ë P md ops Q fuel (gL Ψ i)) Q .normal a w:=by simpa [ş] using h2
  exact h2
 |n+1,i,a,w,V,hie,h2=>by
  rw[show fuel+(n+1)=(fuel+n)+1 by omega];have hi:i<ops.size:=by omega
  subst hN;refine wpAny_all (aoT h V (by omega) hi) (by simp) λj hj=>?_;obtain rfl:j=i:=by simpa using hj
  have hl:(ops.toList.drop j).take (n+1)=ops[j]::(ops.toList.drop (j+1)).take n:=by rw[List.drop_eq_getElem_cons (by simpa using hi),ñ];simp
  rw[hl] at h2;rw[AG hi];exact ZG (ā hi) (λa w h2=>wJ rfl h he n (j+1) (by omega) (by omega) h2) XT (λh=>h) h2
def aci{id Ψ:Nat}(hm:P.follows .mixedOrders=D)(hN:ops.size=Ψ)(h:ë P .any ops Q Ψ (gL Ψ 0) a w.drew):(Code.region id ops D).wp P Q a w:=by refine wp_region_any hm ?_;rw[akC,hN];exact h
def Bv{l':Array Bool}(h:l=l')(hh:ë P md ops Q fuel l' a w):ë P md ops Q fuel l a w:=h▸hh
def L6{listed:Array Bool}(rs:List Nat)(T:ϯ md ops listed=rs)(aw:rs≠ [])(h:∀i∈rs,wpOp P ops Q i (ë P md ops Q fuel (listed.setIfInBounds i D)) a w):ë P md ops Q (fuel+1) listed a w:=
 wpAny_all T aw h
def JE{listed:Array Bool}(o:Oper)(hi:ops[i]?=J o)(h:ş P ops (Exit.then (ë P md ops Q fuel (listed.setIfInBounds i D)) Q) [o] a w):wpOp P ops Q i (ë P md ops Q fuel (listed.setIfInBounds i D)) a w:=
 ZG (l:=[]) (R:=Exit.then (ë P md ops Q fuel (listed.setIfInBounds i D)) Q) hi (λ_ _ h=>h) XT (λh=>h) h
def Hb{is:List Nat}{ψ:Nat->Prop}(h1:ψ i)(h2:∀k∈is,ψ k):∀k∈i::is,ψ k:=by
 intro k hk;rcases Ϡ.1 hk with rfl|hk
 ·exact h1
 ·exact h2 k hk
def Ml{ψ:Nat->Prop}:∀k∈([]:List Nat),ψ k:=λ_ h=>absurd h Á
def nj{rest:List Oper}{og:Oper}{b:Bool}(ig:o.guard=J (g,b))(hog:ops.toList[g]?=J og)(hd:og.dst=J d)(ht:a.tmps[d]?=J (.bool b))
 (h:∀ψ:Act->N->Prop,(∀a w,ş P ops Q rest a w->ψ a w)->o.wp P a w ψ Q):ş P ops Q (o::rest) a w:=by
 refine wpList_step λψ hK=>?_;have hw:Region.wanted o (yielded ops a.tmps)=D:=by unfold Region.wanted;rw[ig];rw[Array.getElem?_toList] at hog;simp only[yielded,hog,Option.bind_some,hd,ht,beq_self_eq_true]
 rw[if_pos hw];exact h ψ hK
end
end Go.Jn
namespace Go.Jn
open Go Go.Proofs Go.Sim Go.Conc Go.Tw Go.RowKit
section
variable [Go.Tw.aK]
def za{sz:Nat}{R:α->List z->Prop}{f:α->List z}{xs:List α}(hb:Bk w g e cs)(hx:xs.length<=1000)(hf:∀x,(f x).length=sz)(hR:∀x∈xs,R x (f x))(hc:cs=(xs.flatMap f).toArray):
 Row w w.heap.size sz R (E (J ⟨g,0,H⟩) xs.length xs.length) xs:=by
 have sT:∀l:List α,(l.flatMap f).length=l.length * sz:=by
  intro l;induction l with
  |nil=>simp|cons a l ih=>simp only[List.flatMap_cons,List.length_append,ih,hf,List.length_cons,Nat.succ_mul];omega
 refine mZ (f:=f) ?_ hf hR (e:=e) (base:=g);refine⟨sT xs,.inr ⟨g,xs.length,cs,rfl,ϊ _,hb,ϊ _,by unfold maxLen;omega,by rw[hc,List.size_toArray,sT],?_⟩⟩;rw[hc];simp only[List.toList_toArray];rw[List.take_of_length_le (by rw[sT];omega)]
def sJ(xs:List Int)(hx:xs.length<=1000)(h:Bk w g 3 cs)(hc:cs=(xs.flatMap λx=> [Y I x]).toArray):Row w w.heap.size 1 bI (E (J ⟨g,0,H⟩) xs.length xs.length) xs:=
 za h hx (λ_=>rfl) (λ_ _=>rfl) hc
def Mm(xs:List Span)(hx:xs.length<=1000)(h:Bk w g 37 cs)(hc:cs=(xs.flatMap Span.vs).toArray):Row w w.heap.size 2 Span.R (E (J ⟨g,0,H⟩) xs.length xs.length) xs:=
 za h hx (λ_=>rfl) (λ_ _=>rfl) hc
def SP(xs:List Cut)(hx:xs.length<=1000)(h:Bk w g 56 cs)(hc:cs=(xs.flatMap Cut.vs).toArray):Row w w.heap.size 2 Cut.R (E (J ⟨g,0,H⟩) xs.length xs.length) xs:=
 za h hx (λ_=>rfl) (λ_ _=>rfl) hc
def fP{sz:Nat}{R:α->List z->Prop}{xs:List α}(h:Row w w.heap.size sz R v xs)(hb:φ w w'):Row w' w'.heap.size sz R v xs:=
 (h.still (Δ.aJ hb (ϊ _)) λ_ _ h=>h).more hb.size
def rz6{c4:Nat}{W:N->Prop}(V:Sl [(0,.bool U),(1,π (J ⟨gE,0,H⟩)),(2,E (J ⟨gc,0,H⟩) 3 3),(3,E (J ⟨g3,0,H⟩) 3 3),(4,.slice A4 n4 c4),(5,Y I 0),(6,Y I 4),(7,Y I 0),(8,Y I 8),(9,Y I 0)] a)(hc:Bk w gE 26 #[Y I 1,E (J ⟨gp,0,H⟩) 3 3,E (J ⟨gb,0,H⟩) 2 2,E (J ⟨gt,0,H⟩) 1 1])
 (aG:ύ prog 43 #[η #[Y I 1,E (J ⟨gp,0,H⟩) 3 3,E (J ⟨gb,0,H⟩) 2 2,E (J ⟨gt,0,H⟩) 1 1],E (J ⟨w.heap.size,0,H⟩) 3 3,E (J ⟨gc,0,H⟩) 3 3] (w.alloc (Ξ #[Y I 4,Y I 3,Y I 3] 3)) λe w'=>e=Ω (μ #[.bool D,Y I 0])/\W w'):tR.wp prog (dK λa w=>Sl [(0,.bool U),(1,π (J ⟨gE,0,H⟩)),(2,E (J ⟨gc,0,H⟩) 3 3),(3,E (J ⟨g3,0,H⟩) 3 3),(4,.slice A4 n4 c4),(5,Y I 0),(6,Y I 4),(7,Y I 0),(8,Y I 8),(9,Y I 0),(10,.bool D),(11,Y I 0)] a/\W w) a w:=by
 obtain⟨x,rfl,hx⟩:=V.lit;simp only[Al] at hx;have q0:=hc.cell 0;have q1:=hc.cell 1;have q2:=hc.cell 2;have q3:=hc.cell 3;have aG:=K aG;clear hc;unfold lit;simp only[hx];simp only[tR,kK,j4,jH,qe,iM,iL,iK,iS,Tryz.f21,bp,aS,Λ];go_wp2_with (go_at_call 43;refine aG.e.mono ?_;rintro e w1 ⟨rfl,hp⟩;have HP:=K hp;clear hp)
 exact⟨⟨rfl,rfl,(by repeat first|exact jF|refine eY rfl ?_)⟩,HP.e⟩
def rz7{c4:Nat}{W:N->Prop}(V:Sl [(0,.bool U),(1,π (J ⟨gE,0,H⟩)),(2,E (J ⟨gc,0,H⟩) 3 3),(3,E (J ⟨g3,0,H⟩) 3 3),(4,.slice A4 n4 c4),(5,Y I 0),(6,Y I 4),(7,Y I 0),(8,Y I 8),(9,Y I 0),(10,.bool D),(11,Y I 0)] a)(hc:Bk w gE 26 #[Y I 1,E (J ⟨gp,0,H⟩) 3 3,E (J ⟨gb,0,H⟩) 2 2,E (J ⟨gt,0,H⟩) 1 1])
 (aG:ύ prog 43 #[η #[Y I 1,E (J ⟨gp,0,H⟩) 3 3,E (J ⟨gb,0,H⟩) 2 2,E (J ⟨gt,0,H⟩) 1 1],E (J ⟨w.heap.size,0,H⟩) 3 3,E (J ⟨g3,0,H⟩) 3 3] (w.alloc (Ξ #[Y I 4,Y I 3,Y I 3] 3)) λe w'=>e=Ω (μ #[.bool U,Y I 0])/\W w'):tS.wp prog (dK λa w=>Sl [(0,.bool U),(1,π (J ⟨gE,0,H⟩)),(2,E (J ⟨gc,0,H⟩) 3 3),(3,E (J ⟨g3,0,H⟩) 3 3),(4,.slice A4 n4 c4),(5,Y I 0),(6,Y I 4),(7,Y I 0),(8,Y I 8),(9,Y I 0),(10,.bool D),(11,Y I 0),(12,.bool U),(13,Y I 0)] a/\W w) a w:=by
 obtain⟨x,rfl,hx⟩:=V.lit;simp only[Al] at hx;have q0:=hc.cell 0;have q1:=hc.cell 1;have q2:=hc.cell 2;have q3:=hc.cell 3;have aG:=K aG;clear hc;unfold lit;simp only[hx];simp only[tS,lr,kK,j4,jH,qe,iM,iL,iK,iS,Tryz.f21,bp,aS,Λ];go_wp2_with (go_at_call 43;refine aG.e.mono ?_;rintro e w1 ⟨rfl,hp⟩;have HP:=K hp;clear hp)
 exact⟨⟨rfl,rfl,(by repeat first|exact jF|refine eY rfl ?_)⟩,HP.e⟩
def an2{c4:Nat}{lN:Option ϖ}{c16:Nat}{W:N->Prop}(V:Sl [(0,.bool U),(1,π (J ⟨gE,0,H⟩)),(2,E (J ⟨gc,0,H⟩) 3 3),(3,E (J ⟨g3,0,H⟩) 3 3),(4,.slice A4 n4 c4),(5,Y I 0),(6,Y I 4),(7,Y I 0),(8,Y I 8),(9,Y I 0),(10,.bool D),(11,Y I 0),(12,.bool U),(13,Y I 0),(14,Y I 2),(15,Y I 0),(16,.slice lN n16 c16),(17,Y I 0)] a)(hc:Bk w gE 26 #[Y I 1,E (J ⟨gp,0,H⟩) 3 3,E (J ⟨gb,0,H⟩) 2 2,E (J ⟨gt,0,H⟩) 1 1])
 (aG:ύ prog 26 #[η #[Y I 1,E (J ⟨gp,0,H⟩) 3 3,E (J ⟨gb,0,H⟩) 2 2,E (J ⟨gt,0,H⟩) 1 1]] w λe w'=>e=Ω (μ #[η #[Y I 10,Y I 10],Y I 0])/\W w'):
 tF.wp prog (dK λa w=>∃w1,W w1/\(∃g8,g8=w1.heap.size/\Sl [(0,.bool U),(1,π (J ⟨gE,0,H⟩)),(2,E (J ⟨gc,0,H⟩) 3 3),(3,E (J ⟨g3,0,H⟩) 3 3),(4,.slice A4 n4 c4),(5,Y I 0),(6,Y I 4),(7,Y I 0),(8,Y I 8),(9,Y I 0),(10,.bool D),(11,Y I 0),(12,.bool U),(13,Y I 0),(14,Y I 2),(15,Y I 0),(16,.slice lN n16 c16),(17,Y I 0),(18,π (J ⟨g8,0,H⟩)),(19,Y I 0)] a)/\w=w1.alloc (Ξ #[Y I 10,Y I 10] 37)) a w:=by
 obtain⟨x,rfl,hx⟩:=V.lit;simp only[Al] at hx;have q0:=hc.cell 0;have q1:=hc.cell 1;have q2:=hc.cell 2;have q3:=hc.cell 3;have aG:=K aG;clear hc;unfold lit;simp only[hx];simp only[tF,wG,mo,lM,lr,kK,j4,jH,qe,iM,iL,iK,iS,Tryz.f21,bp,aS,Λ];go_wp2_with (go_at_call 26;refine aG.e.mono ?_;rintro e w1 ⟨rfl,hp⟩;have HP:=K hp;clear hp)
 exact⟨_,HP.e,⟨_,rfl,⟨rfl,rfl,(by repeat first|exact jF|refine eY rfl ?_)⟩⟩,rfl⟩
def bkd(h:Bk w g t cs):Bk w.drew g t cs:=h
def an3{gp gb gt g8:Nat}{c4:Nat}{lN:Option ϖ}{c16:Nat}(V:Sl [(0,.bool U),(1,π (J ⟨gE,0,H⟩)),(2,E (J ⟨gc,0,H⟩) 3 3),(3,E (J ⟨g3,0,H⟩) 3 3),(4,.slice A4 n4 c4),(5,Y I 0),(6,Y I 4),(7,Y I 0),(8,Y I 8),(9,Y I 0),(10,.bool D),(11,Y I 0),(12,.bool U),(13,Y I 0),(14,Y I 2),(15,Y I 0),(16,.slice lN n16 c16),(17,Y I 0),(18,π (J ⟨g8,0,H⟩)),(19,Y I 0)] a)(h8:Bk w g8 37 #[Y I 10,Y I 10])
 (de:Row w w.heap.size 2 Span.R (.slice A4 n4 c4) [⟨0,2⟩,⟨4,7⟩])(Co:Row w w.heap.size 1 bI (.slice lN n16 c16) [4,5]):
 tG.wp prog (dK λa w'=>Sl [(0,.bool U),(1,π (J ⟨gE,0,H⟩)),(2,E (J ⟨gc,0,H⟩) 3 3),(3,E (J ⟨g3,0,H⟩) 3 3)] a/\φ w w') a w:=by
 obtain⟨x,rfl,hx⟩:=V.lit;simp only[Al] at hx;have q0:=h8.cell 0;have q1:=h8.cell 1;have lt8:g8<w.heap.size:=h8.lt;have le8:g8<=w.heap.size:=Nat.le_of_lt lt8;have Rw:Hid (∀W,φ w W->∀g,Bk W g 37 #[Y I 0,Y I 2,Y I 4,Y I 7]->ύ prog 75 #[.slice A4 n4 c4,E (J ⟨g,0,H⟩) 2 2] W λe w'=>e=Ω (.bool D)/\φ W w'):=K λW hb g hg=>by have:=T1 (fP de hb) (Mm [⟨0,2⟩,⟨4,7⟩] (by decide) hg rfl) (ϊ _);exact this
 have Ru:Hid (∀W,φ w W->∀g,Bk W g 3 #[Y I 4,Y I 5]->ύ prog 30 #[.slice lN n16 c16,E (J ⟨g,0,H⟩) 2 2] W λe w'=>e=Ω (.bool D)/\φ W w'):=K λW hb g hg=>by have:=D4 (fP Co hb) (sJ [4,5] (by decide) hg rfl) (ϊ _);exact this
 clear h8 de Co;unfold lit;simp only[hx];simp only[tG,oo,wG,mo,lM,lr,kK,j4,jH,qe,iM,iL,iK,iS,Tryz.f21,bp,aS,Λ];refine wp_seq (aci (Ψ:=68) (by kernel_rfl) rfl ?_);refine wJ (Ψ:=68) (s:=0) (e:=50) (fuel:=18) rfl (by kernel_rfl) (by omega) 50 0 (by omega) rfl ?_;generalize hQ:Exit.then _ _=Q';simp only[ö];repeat(first| (refine nj rfl rfl rfl (by kernel_rfl) (λ_ _=>?_)) |go_step)
 subst hQ;show ë _ _ _ _ _ _ _ _;have hcut:∀x:Act,x=x:=λ_=>rfl
 refine L6 (fuel:=17) [50,51] (by kernel_rfl) (by simp) (Hb (JE _ rfl ?_) (Hb (JE _ rfl ?_) Ml))
 ·generalize hQ:Exit.then _ _=Q';repeat(first
   | (refine nj rfl rfl rfl (by kernel_rfl) (λ_ _=>?_))
   |go_step
   | (go_at_call 50;refine(CQ _ _).mono ?_;rintro e w1 ⟨rfl,rfl⟩)
   | (dsimp only)
   |go_upon
   |go_back
   |go_values)
  subst hQ;show ë _ _ _ _ _ _ _ _;refine L6 (fuel:=16) [51] (by kernel_rfl) (by simp) (Hb (JE _ rfl ?_) Ml);generalize hQ:Exit.then _ _=Q';repeat(first
   | (refine nj rfl rfl rfl (by kernel_rfl) (λ_ _=>?_))
   |go_step
   | (go_at_call 50;refine(CQ _ _).mono ?_;rintro e w1 ⟨rfl,rfl⟩)
   | (dsimp only)
   |go_upon
   |go_back
   |go_values)
  subst hQ;show ë _ _ _ _ _ _ _ _;refine Bv (l':=gL 68 52) (Xo (n:=68) (i:=50) (j:=51) rfl (by omega)) ?_;refine wJ (Ψ:=68) (s:=52) (e:=55) (fuel:=13) rfl (by kernel_rfl) (by omega) 3 52 (by omega) rfl ?_;generalize hQ:Exit.then _ _=Q';simp only[õ,ö,ñ,þ];repeat(first
   | (refine nj rfl rfl rfl (by kernel_rfl) (λ_ _=>?_))
   |go_step
   | (dsimp only)
   |go_upon
   |go_back
   |go_values)
  subst hQ;show ë _ _ _ _ _ _ _ _;refine Akt (fuel:=12) (i:=55) (v:=.slice A4 n4 c4) rfl (by kernel_rfl) (by kernel_rfl) (by kernel_rfl) (λ_ _ _ h=>h) (Or.inl ⟨by kernel_rfl,λw=>by kernel_rfl⟩) ?_;refine Bv (l':=gL 68 (55+1)) (AG (by omega)) ?_;simp only[Act.put,Í,Î,Ë];refine wJ (Ψ:=68) (s:=56) (e:=63) (fuel:=5) rfl (by kernel_rfl) (by omega) 7 56 (by omega) rfl ?_;generalize hQ:Exit.then _ _=Q';simp only[õ,ö,ñ,þ];repeat(first
   | (refine nj rfl rfl rfl (by kernel_rfl) (λ_ _=>?_))
   |go_step
   | (go_at_call 67;refine(QP _ _ _).mono ?_;rintro e w1 ⟨rfl,rfl⟩)
   | (go_at_call 75;refine(Rw.e _ (by repeat first|exact û _ _|refine dT ?_|refine Akw ?_ (by simp<;>omega) _) _ (by first|exact bkd (Bk.bZ (by simp) _ _) |exact Bk.bZ (by simp) _ _)).mono ?_;rintro e w5 ⟨rfl,dB⟩;have H5:Hid (φ w w5):=K (Akx (B:=w.heap.size) (by repeat first|exact û _ _|refine dT ?_|refine Akw ?_ (by simp<;>omega) _) (dB.mono (by simp<;>omega)));clear dB)
   | (dsimp only)
   |go_upon
   |go_back
   |go_values)
  subst hQ;show ë _ _ _ _ _ _ _ _;refine Akt (fuel:=4) (i:=63) (v:=.slice lN n16 c16) rfl (by kernel_rfl) (by kernel_rfl) (by kernel_rfl) (λ_ _ _ h=>h) (Or.inl ⟨by kernel_rfl,λw=>by kernel_rfl⟩) ?_;refine Bv (l':=gL 68 (63+1)) (AG (by omega)) ?_;simp only[Act.put,Í,Î,Ë];refine wJ (Ψ:=68) (s:=64) (e:=68) (fuel:=0) rfl (by kernel_rfl) (by omega) 4 64 (by omega) rfl ?_;generalize hQ:Exit.then _ _=Q';simp only[õ,ö,ñ,þ];repeat(first
   | (refine nj rfl rfl rfl (by kernel_rfl) (λ_ _=>?_))
   |go_step
   | (go_at_call 30;have rM:=Ru.e (w5.alloc (Obj.cells #[Ϟ Ϛ 4,Ϟ Ϛ 5] 3)) (H5.e.alloc H5.e.size _) w5.heap.size (Bk.new _ _ _);refine rM.mono ?_;rintro e w6 ⟨rfl,eC⟩;have H6:=K ((H5.e.alloc H5.e.size _).trans (eC.mono (by have:=H5.e.size;simp;omega)));clear eC)
   | (dsimp only)
   |go_upon
   |go_back
   |go_values)
  subst hQ;show ë _ _ _ _ _ _ _ _;refine wpAny_done (by kernel_rfl) ?_ _;go_wp2;exact⟨⟨rfl,rfl,eY rfl (eY rfl (eY rfl (eY rfl (jF))))⟩,H6.e⟩
 ·generalize hQ:Exit.then _ _=Q';repeat(first
   | (refine nj rfl rfl rfl (by kernel_rfl) (λ_ _=>?_))
   |go_step
   | (go_at_call 50;refine(CQ _ _).mono ?_;rintro e w1 ⟨rfl,rfl⟩)
   | (dsimp only)
   |go_upon
   |go_back
   |go_values)
  subst hQ;show ë _ _ _ _ _ _ _ _;refine L6 (fuel:=16) [50] (by kernel_rfl) (by simp) (Hb (JE _ rfl ?_) Ml);generalize hQ:Exit.then _ _=Q';repeat(first
   | (refine nj rfl rfl rfl (by kernel_rfl) (λ_ _=>?_))
   |go_step
   | (go_at_call 50;refine(CQ _ _).mono ?_;rintro e w1 ⟨rfl,rfl⟩)
   | (dsimp only)
   |go_upon
   |go_back
   |go_values)
  subst hQ;show ë _ _ _ _ _ _ _ _;refine Bv (l':=gL 68 52) (akB (n:=68) (i:=50) (j:=51) rfl (by omega)) ?_;refine wJ (Ψ:=68) (s:=52) (e:=55) (fuel:=13) rfl (by kernel_rfl) (by omega) 3 52 (by omega) rfl ?_;generalize hQ:Exit.then _ _=Q';simp only[õ,ö,ñ,þ];repeat(first
   | (refine nj rfl rfl rfl (by kernel_rfl) (λ_ _=>?_))
   |go_step
   | (dsimp only)
   |go_upon
   |go_back
   |go_values)
  subst hQ;show ë _ _ _ _ _ _ _ _;refine Akt (fuel:=12) (i:=55) (v:=.slice A4 n4 c4) rfl (by kernel_rfl) (by kernel_rfl) (by kernel_rfl) (λ_ _ _ h=>h) (Or.inl ⟨by kernel_rfl,λw=>by kernel_rfl⟩) ?_;refine Bv (l':=gL 68 (55+1)) (AG (by omega)) ?_;simp only[Act.put,Í,Î,Ë];refine wJ (Ψ:=68) (s:=56) (e:=63) (fuel:=5) rfl (by kernel_rfl) (by omega) 7 56 (by omega) rfl ?_;generalize hQ:Exit.then _ _=Q';simp only[õ,ö,ñ,þ];repeat(first
   | (refine nj rfl rfl rfl (by kernel_rfl) (λ_ _=>?_))
   |go_step
   | (go_at_call 67;refine(QP _ _ _).mono ?_;rintro e w1 ⟨rfl,rfl⟩)
   | (go_at_call 75;refine(Rw.e _ (by repeat first|exact û _ _|refine dT ?_|refine Akw ?_ (by simp<;>omega) _) _ (by first|exact bkd (Bk.bZ (by simp) _ _) |exact Bk.bZ (by simp) _ _)).mono ?_;rintro e w5 ⟨rfl,dB⟩;have H5:Hid (φ w w5):=K (Akx (B:=w.heap.size) (by repeat first|exact û _ _|refine dT ?_|refine Akw ?_ (by simp<;>omega) _) (dB.mono (by simp<;>omega)));clear dB)
   | (dsimp only)
   |go_upon
   |go_back
   |go_values)
  subst hQ;show ë _ _ _ _ _ _ _ _;refine Akt (fuel:=4) (i:=63) (v:=.slice lN n16 c16) rfl (by kernel_rfl) (by kernel_rfl) (by kernel_rfl) (λ_ _ _ h=>h) (Or.inl ⟨by kernel_rfl,λw=>by kernel_rfl⟩) ?_;refine Bv (l':=gL 68 (63+1)) (AG (by omega)) ?_;simp only[Act.put,Í,Î,Ë];refine wJ (Ψ:=68) (s:=64) (e:=68) (fuel:=0) rfl (by kernel_rfl) (by omega) 4 64 (by omega) rfl ?_;generalize hQ:Exit.then _ _=Q';simp only[õ,ö,ñ,þ];repeat(first
   | (refine nj rfl rfl rfl (by kernel_rfl) (λ_ _=>?_))
   |go_step
   | (go_at_call 30;have rM:=Ru.e (w5.alloc (Obj.cells #[Ϟ Ϛ 4,Ϟ Ϛ 5] 3)) (H5.e.alloc H5.e.size _) w5.heap.size (Bk.new _ _ _);refine rM.mono ?_;rintro e w6 ⟨rfl,eC⟩;have H6:=K ((H5.e.alloc H5.e.size _).trans (eC.mono (by have:=H5.e.size;simp;omega)));clear eC)
   | (dsimp only)
   |go_upon
   |go_back
   |go_values)
  subst hQ;show ë _ _ _ _ _ _ _ _;refine wpAny_done (by kernel_rfl) ?_ _;go_wp2;exact⟨⟨rfl,rfl,eY rfl (eY rfl (eY rfl (eY rfl (jF))))⟩,H6.e⟩
def FB(w0:N)(a:Act)(w:N):Prop:=∃gE gp gb gk gt gl gc g3,Sl [(0,.bool U),(1,π (J ⟨gE,0,H⟩)),(2,E (J ⟨gc,0,H⟩) 3 3),(3,E (J ⟨g3,0,H⟩) 3 3)] a/\j6 w0 w gE gp gb gk gt gl gc g3
def FA.fb(h:FA w0 a w):FB w0 a w:=by obtain⟨hd,aN,h0,gE,gp,gb,gk,gt,gl,gc,g3,h1,h2,h3,hx⟩:=h;exact⟨gE,gp,gb,gk,gt,gl,gc,g3,⟨hd,aN,eY h0 (eY h1 (eY h2 (eY h3 jF)))⟩,hx⟩
def j6.lC(h:j6 w0 w gE gp gb gk gt gl gc g3):Row w w.heap.size 2 Cut.R (E (J ⟨gc,0,H⟩) 3 3) jP:=aej h.bc
def j6.MI(h:j6 w0 w gE gp gb gk gt gl gc g3):Row w w.heap.size 2 Cut.R (E (J ⟨g3,0,H⟩) 3 3) wV:=SP wV (by decide) h.b3 rfl
def aow(hf:FB w0 a w):fu prog [tO,tP,tQ,tR,tS,tT,tU,tF,tG] (dK (FB w0)) a w:=by
 obtain⟨gE,gp,gb,gk,gt,gl,gc,g3,V,hx⟩:=hf;refine jZ (rz3 (W:=λA n c w'=>Row w' w'.heap.size 2 Span.R (.slice A n c) [⟨0,2⟩,⟨4,7⟩]/\φ w w') V hx.bE ?c3) ?_;case c3=>refine(adH (ϊ _) (l8 hx.ex) zi (x:=uS) (k:=0) rfl).mono ?_;rintro e w' ⟨v,rfl,ho,hb⟩;obtain⟨A,n,c,rfl⟩:=iI ho;rw[afb] at ho;exact⟨A,n,c,rfl,mZ ho (λ_=>rfl) (λ_ _=>rfl),hb⟩
 rintro a w1 ⟨A4,n4,c4,V,de,hb⟩;replace hx:=hx.grown hb;clear hb;refine jZ (rz4 (W:=λw'=>φ w1 w') V hx.bE ?c4) ?_;case c4=>refine(Xn (ϊ _) (l8 hx.ex) zi (x:=uS) (k:=0) (bears:=0) rfl rfl).mono ?_;rintro e w' ⟨rfl,hb⟩;exact⟨by rw[afj],hb⟩
 rintro a w2 ⟨V,hb⟩;replace hx:=hx.grown hb;replace de:=fP de hb;clear hb;refine jZ (rz5 (W:=λw'=>φ w2 w') V hx.bE ?c5) ?_;case c5=>refine(Xn (ϊ _) (l8 hx.ex) zi (x:=uS) (k:=0) (bears:=1) rfl rfl).mono ?_;rintro e w' ⟨rfl,hb⟩;exact⟨by rw[afk],hb⟩
 rintro a w3 ⟨V,hb⟩;replace hx:=hx.grown hb;replace de:=fP de hb;clear hb;have pG:φ w3 (w3.alloc (Ξ #[Y I 4,Y I 3,Y I 3] 3)):=(û _ _).alloc (ϊ _) _;have Av:=hx.grown pG;refine jZ (rz6 (W:=λw'=>φ w3 w') V hx.bE ?c6) ?_
 case c6=>refine(Ue (l:=[4,3,3]) (lC:=jP) (ϊ _) (l8 Av.ex) (sJ [4,3,3] (by decide) (Bk.new _ _ _) rfl) Av.lC zi afo).mono ?_;rintro e w' ⟨rfl,hb⟩;exact⟨by rw[afg],pG.trans (hb.mono (by simp))⟩
 rintro a w4 ⟨V,hb⟩;replace hx:=hx.grown hb;replace de:=fP de hb;clear hb pG Av;have pG:φ w4 (w4.alloc (Ξ #[Y I 4,Y I 3,Y I 3] 3)):=(û _ _).alloc (ϊ _) _;have Av:=hx.grown pG;refine jZ (rz7 (W:=λw'=>φ w4 w') V hx.bE ?c7) ?_
 case c7=>refine(Ue (l:=[4,3,3]) (lC:=wV) (ϊ _) (l8 Av.ex) (sJ [4,3,3] (by decide) (Bk.new _ _ _) rfl) Av.MI zi afp).mono ?_;rintro e w' ⟨rfl,hb⟩;exact⟨by rw[afh],pG.trans (hb.mono (by simp))⟩
 rintro a w5 ⟨V,hb⟩;replace hx:=hx.grown hb;replace de:=fP de hb;clear hb pG Av;refine jZ (rz8 (W:=λw'=>φ w5 w') V hx.bE ?c8) ?_;case c8=>refine(Mh (ϊ _) (l8 hx.ex)).mono ?_;rintro e w' ⟨rfl,hb⟩;exact⟨by rw[ae9,zi],hb⟩
 rintro a w6 ⟨V,hb⟩;replace hx:=hx.grown hb;replace de:=fP de hb;clear hb;refine jZ (rz9 (W:=λA n c w'=>Row w' w'.heap.size 1 bI (.slice A n c) [4,5]/\φ w6 w') V hx.bE ?c9) ?_;case c9=>refine(PD (k:=0) (ϊ _) (l8 hx.ex) afm).mono ?_;rintro e w' ⟨v,rfl,ho,hb⟩;obtain⟨A,n,c,rfl⟩:=iI ho;rw[afi] at ho;exact⟨A,n,c,rfl,CF ho,hb⟩
 rintro a w7 ⟨lN,n16,c16,V,Co,hb⟩;replace hx:=hx.grown hb;replace de:=fP de hb;clear hb;refine jZ (an2 (W:=λw'=>φ w7 w') V hx.bE ?c10) ?_;case c10=>refine(ap1 (ϊ _) (l8 hx.ex) VB).mono ?_;rintro e w' ⟨rfl,hb⟩;exact⟨by rw[afv],hb⟩
 rintro a w8 ⟨ss,hb,⟨g8,Oc,V⟩,rfl⟩;have an:φ w7 (ss.alloc (Ξ #[Y I 10,Y I 10] 37)):=hb.alloc hb.size _;replace hx:=hx.grown an;replace de:=fP de an;replace Co:=fP Co an;clear hb an;refine jZ (an3 (gp:=0) (gb:=0) (gt:=0) V (by rw[Oc];exact Bk.new _ _ _) de Co) ?_
 rintro a w9 ⟨V,hb⟩;exact⟨gE,gp,gb,gk,gt,gl,gc,g3,V,hx.grown hb⟩
def FC(w0:N)(a:Act)(w:N):Prop:=∃gE gp gb gk gt gl gc g3 dF n22 c22 ae n25 cw eG n28 eI,
 Sl [(0,.bool U),(1,π (J ⟨gE,0,H⟩)),(2,E (J ⟨gc,0,H⟩) 3 3),(3,E (J ⟨g3,0,H⟩) 3 3),(5,Y I 0),(7,Y I 0),(9,Y I 0),(11,Y I 0),(13,Y I 0),(20,Y I 1),(21,Y I 0),(22,.slice dF n22 c22),(23,E H 0 0),(24,Y I 8),(25,.slice ae n25 cw),(26,Y I 2),(27,.bool D),(28,.slice eG n28 eI),(29,Y I 14),(30,.bool D)] a/\
 j6 w0 w gE gp gb gk gt gl gc g3/\Row w w.heap.size 1 bI (.slice dF n22 c22) [1,1]/\Row w w.heap.size 2 Cut.R (.slice ae n25 cw) jP/\Row w w.heap.size 2 Cut.R (.slice eG n28 eI) jP
def aal(hm:gF w0)(h:j6 w0 w gE gp gb gk gt gl gc g3):gF w:=hm.below h.below hm.lt
def Ua{mI:List Cut->Int}{n:Int}{e:Ending}(hb:iR bg mI=J (jP,n))(h:GI w bg mI e w'):
 ∃A k c,e=Ω (μ #[.slice A k c,Y I n,.bool D,Y I 0])/\Row w' w'.heap.size 2 Cut.R (.slice A k c) jP/\φ w w':=by
 obtain⟨cv,mv,fv,rfl,eW,gU⟩:=h;rw[hb] at eW;obtain⟨ho,rfl,rfl⟩:=eW;obtain⟨A,k,c,rfl⟩:=iI ho;exact⟨A,k,c,by rw[VB],mZ (l:=jP) ho (λ_=>rfl) (λ_ _=>rfl),gU⟩
def aox(hm:gF w0)(hf:FB w0 a w):fu prog [tH,tI,tJ,tK,tL,tM] (dK (FC w0)) a w:=by
 obtain⟨gE,gp,gb,gk,gt,gl,gc,g3,V,hx⟩:=hf;refine jZ (an4 (W:=λw'=>φ w w') V hx.bE ?c12) ?_;case c12=>refine(Ho (ϊ _) (l8 hx.ex) hx.lC T5).mono ?_;rintro e w' ⟨rfl,hb⟩;exact⟨by rw[afd],hb⟩
 rintro a w1 ⟨V,hb⟩;replace hx:=hx.grown hb;clear hb;refine jZ (an5 (W:=λw'=>φ w1 w') V hx.bE ?c13) ?_;case c13=>refine(Ho (ϊ _) (l8 hx.ex) hx.MI T6).mono ?_;rintro e w' ⟨rfl,hb⟩;exact⟨by rw[afe],hb⟩
 rintro a w2 ⟨V,hb⟩;replace hx:=hx.grown hb;clear hb;refine jZ (an6 (W:=λA n c w'=>Row w' w'.heap.size 1 bI (.slice A n c) [1,1]/\φ w2 w') V hx.bE ?c14) ?_;case c14=>refine(ape (ϊ _) (l8 hx.ex) hx.lC T5 afs).mono ?_;rintro e w' ⟨v,rfl,ho,hb⟩;obtain⟨A,n,c,rfl⟩:=iI ho;rw[afr] at ho;exact⟨A,n,c,rfl,CF ho,hb⟩
 rintro a w3 ⟨dF,n22,c22,V,kZ,hb⟩;replace hx:=hx.grown hb;clear hb;refine jZ (an7 (W:=λw'=>φ w3 w') V hx.bE ?c15) ?_;case c15=>refine(apd (ϊ _) (l8 hx.ex) hx.MI T6 aft).mono ?_;rintro e w' ⟨rfl,hb⟩;exact⟨rfl,hb⟩
 rintro a w4 ⟨V,hb⟩;replace hx:=hx.grown hb;replace kZ:=fP kZ hb;clear hb;refine jZ (an8 (W:=λA n c w'=>Row w' w'.heap.size 2 Cut.R (.slice A n c) jP/\φ w4 w') V hx.bE ?c16) ?_;case c16=>refine(Hq (ϊ _) (l8 hx.ex) (aal hm hx)).mono ?_;rintro e w' h;exact Ua aff h
 rintro a w5 ⟨ae,n25,cw,V,iC,hb⟩;replace hx:=hx.grown hb;replace kZ:=fP kZ hb;clear hb;refine jZ (an9 (W:=λA n c w'=>Row w' w'.heap.size 2 Cut.R (.slice A n c) jP/\φ w5 w') V hx.bE ?c17) ?_;case c17=>refine(ao1 (ϊ _) (l8 hx.ex) (aal hm hx)).mono ?_;rintro e w' h;exact Ua afq h
 rintro a w6 ⟨eG,n28,eI,V,nO,hb⟩;exact⟨gE,gp,gb,gk,gt,gl,gc,g3,dF,n22,c22,ae,n25,cw,eG,n28,eI,V,hx.grown hb,fP kZ hb,fP iC hb,nO⟩
def aov(hm:gF w0)(h:fu prog [vV,vW,vX] (dK (FA w0)) a w0):fu prog [vV,vW,vX,tO,tP,tQ,tR,tS,tT,tU,tF,tG,tH,tI,tJ,tK,tL,tM] (dK (FC w0)) a w0:=by refine Gq (ju:=[tO,tP,tQ,tR,tS,tT,tU,tF,tG,tH,tI,tJ,tK,tL,tM]) (λa w hf=>?_) [vV,vW,vX] h;exact Gq (ju:=[tH,tI,tJ,tK,tL,tM]) (λa w hf=>aox hm hf) [tO,tP,tQ,tR,tS,tT,tU,tF,tG] (aow hf.fb)
def aob{eG:Option ϖ}{jI:Option ϖ}(V:Sl [(0,.bool U),(1,π (J ⟨gE,0,H⟩)),(2,E (J ⟨gc,0,H⟩) 3 3),(3,E (J ⟨g3,0,H⟩) 3 3),(5,Y I 0),(7,Y I 0),(9,Y I 0),(11,Y I 0),(13,Y I 0),(15,Y I 0),(17,Y I 0),(20,Y I 1),(21,Y I 0),(22,.slice dF n22 c22),(23,E H 0 0),(24,Y I 8),(25,.slice ae n25 cw),(26,Y I 2),(27,.bool D),(28,.slice eG n28 eI),(29,Y I 14),(30,.bool D),(31,.slice jI n31 jN),(32,Y I 0),(33,Y I 1)] a)
 (hc:Row w w.heap.size 2 Cut.R (E (J ⟨gc,0,H⟩) 3 3) jP)(kZ:Row w w.heap.size 1 bI (.slice dF n22 c22) [1,1])(iC:Row w w.heap.size 2 Cut.R (.slice ae n25 cw) jP)(nO:Row w w.heap.size 2 Cut.R (.slice eG n28 eI) jP)(OO:Row w w.heap.size 1 bI (.slice jI n31 jN) [0,1]):
 yC.wp prog (dK λa w'=>Sl [(1,π (J ⟨gE,0,H⟩))] a/\φ w w') a w:=by
 obtain⟨x,rfl,hx⟩:=V.lit;simp only[Al] at hx;have CA:Hid (∀W,φ w W->ύ prog 35 #[.slice ae n25 cw,E (J ⟨gc,0,H⟩) 3 3] W λe w'=>e=Ω (.bool D)/\φ W w'):=K λW hb=>by have:=Qo (fP iC hb) (fP hc hb) (ϊ _);exact this
 have CB:Hid (∀W,φ w W->ύ prog 35 #[.slice eG n28 eI,E (J ⟨gc,0,H⟩) 3 3] W λe w'=>e=Ω (.bool D)/\φ W w'):=K λW hb=>by have:=Qo (fP nO hb) (fP hc hb) (ϊ _);exact this
 have CC:Hid (∀W,φ w W->∀g,Bk W g 3 #[Y I 1,Y I 1]->ύ prog 30 #[.slice dF n22 c22,E (J ⟨g,0,H⟩) 2 2] W λe w'=>e=Ω (.bool D)/\φ W w'):=K λW hb g hg=>by have:=D4 (fP kZ hb) (sJ [1,1] (by decide) hg rfl) (ϊ _);exact this
 have CD:Hid (∀W,φ w W->∀g,Bk W g 3 #[Y I 0,Y I 1]->ύ prog 30 #[.slice jI n31 jN,E (J ⟨g,0,H⟩) 2 2] W λe w'=>e=Ω (.bool D)/\φ W w'):=K λW hb g hg=>by have:=D4 (fP OO hb) (sJ [0,1] (by decide) hg rfl) (ϊ _);exact this
 clear hc kZ iC nO OO;unfold lit;simp only[hx];simp only[yC,Ba,yI,yH,vZ,uA,su,qV,pW,pb,oo,wG,mo,lM,lr,kK,j4,jH,qe,iM,iL,iK,iS,Tryz.f21,bp,aS,Λ];refine wp_seq (wp_region_lit ?_);generalize hQ:Exit.then _ _=Q';repeat(first
  | (refine nj rfl rfl rfl (by kernel_rfl) (λ_ _=>?_))
  |go_step
  | (dsimp only)
  |go_upon
  |go_back
  |go_values)
 go_at_call 35;refine(CA.e _ (û _ _)).mono ?_;rintro e w1 ⟨rfl,ai⟩;have H1:=K ai;clear ai CA;repeat(first
  | (refine nj rfl rfl rfl (by kernel_rfl) (λ_ _=>?_))
  |go_step
  | (dsimp only)
  |go_upon
  |go_back
  |go_values)
 go_at_call 35;refine(CB.e _ H1.e).mono ?_;rintro e w2 ⟨rfl,an⟩;have H2:=K (H1.e.trans (an.mono H1.e.size));clear an CB H1;repeat(first
  | (refine nj rfl rfl rfl (by kernel_rfl) (λ_ _=>?_))
  |go_step
  | (dsimp only)
  |go_upon
  |go_back
  |go_values)
 go_at_call 30;have rM:=CC.e (w2.alloc (Obj.cells #[Ϟ Ϛ 1,Ϟ Ϛ 1] 3)) (H2.e.alloc H2.e.size _) w2.heap.size (Bk.new _ _ _);refine rM.mono ?_;rintro e w3 ⟨rfl,bK⟩;have H3:=K ((H2.e.alloc H2.e.size _).trans (bK.mono (by have:=H2.e.size;simp;omega)))
 clear bK rM H2 CC;repeat(first
  | (refine nj rfl rfl rfl (by kernel_rfl) (λ_ _=>?_))
  |go_step
  | (dsimp only)
  |go_upon
  |go_back
  |go_values)
 go_at_call 30;have rM:=CD.e (w3.alloc (Obj.cells #[Ϟ Ϛ 0,Ϟ Ϛ 1] 3)) (H3.e.alloc H3.e.size _) w3.heap.size (Bk.new _ _ _);refine rM.mono ?_;rintro e w4 ⟨rfl,cU⟩;have H4:=K ((H3.e.alloc H3.e.size _).trans (cU.mono (by have:=H3.e.size;simp;omega)))
 clear cU rM H3 CD;repeat(first
  | (refine nj rfl rfl rfl (by kernel_rfl) (λ_ _=>?_))
  |go_step
  | (dsimp only)
  |go_upon
  |go_back
  |go_values)
 subst hQ;go_wp2;exact⟨⟨rfl,rfl,eY rfl (jF)⟩,H4.e⟩
def aoc{W:Option ϖ->Nat->Nat->Option ϖ->Nat->Nat->Option ϖ->Nat->Nat->N->Prop}(V:Sl [(1,π (J ⟨gE,0,H⟩))] a)(hc:Bk w gE 26 #[Y I 1,E (J ⟨gp,0,H⟩) 3 3,E (J ⟨gb,0,H⟩) 2 2,E (J ⟨gt,0,H⟩) 1 1])
 (aG:ύ prog 53 #[η #[Y I 1,E (J ⟨gp,0,H⟩) 3 3,E (J ⟨gb,0,H⟩) 2 2,E (J ⟨gt,0,H⟩) 1 1],η #[.string PT,Y I 13,E H 0 0]] w λe w'=>∃Ap np cp Ab nb cb At nt ct,e=Ω (μ #[η #[Y I 1,.slice Ap np cp,.slice Ab nb cb,.slice At nt ct],Y I 0])/\W Ap np cp Ab nb cb At nt ct w'):
 yD.wp prog (dK λa w=>∃Ap np cp Ab nb cb At nt ct w1,W Ap np cp Ab nb cb At nt ct w1/\Sl [(1,π (J ⟨gE,0,H⟩)),(5,Y I 0),(34,π (J ⟨w1.heap.size,0,H⟩))] a/\w=w1.alloc (Ξ #[Y I 1,.slice Ap np cp,.slice Ab nb cb,.slice At nt ct] 26)) a w:=by
 obtain⟨x,rfl,hx⟩:=V.lit;simp only[Al] at hx;have q0:=hc.cell 0;have q1:=hc.cell 1;have q2:=hc.cell 2;have q3:=hc.cell 3;have aG:=K aG;clear hc;unfold lit;simp only[hx];simp only[yD,Di,Ba,yI,yH,vZ,uA,su,qV,pW,pb,oo,wG,mo,lM,lr,kK,j4,jH,qe,iM,iL,iK,iS,Tryz.f21,bp,aS,Λ];go_wp2_with (go_at_call 53;refine aG.e.mono ?_;rintro e w1 ⟨Ap,np,cp,Ab,nb,cb,At,nt,ct,rfl,hp⟩;have HP:=K hp;clear hp)
 exact⟨_,_,_,_,_,_,_,_,_,_,HP.e,⟨rfl,rfl,eY rfl (eY rfl (eY rfl jF))⟩,rfl⟩
def aod{Uv:Nat}{Ap Ab At:Option ϖ}{W:Option ϖ->Nat->Nat->N->Prop}(V:Sl [(1,π (J ⟨gE,0,H⟩)),(5,Y I 0),(34,π (J ⟨Uv,0,H⟩))] a)(hc:Bk w Uv 26 #[Y I 1,.slice Ap np cp,.slice Ab nb cb,.slice At nt ct])
 (aG:ύ prog 33 #[η #[Y I 1,.slice Ap np cp,.slice Ab nb cb,.slice At nt ct]] w λe w'=>∃ae n25 cw,e=Ω (μ #[.slice ae n25 cw,Y I 1,.bool D,Y I 0])/\W ae n25 cw w'):yE.wp prog (dK λa w=>∃ae n25 cw,Sl [(1,π (J ⟨gE,0,H⟩)),(5,Y I 0),(7,Y I 0),(25,.slice ae n25 cw),(26,Y I 1)] a/\W ae n25 cw w) a w:=by
 obtain⟨x,rfl,hx⟩:=V.lit;simp only[Al] at hx;have q0:=hc.cell 0;have q1:=hc.cell 1;have q2:=hc.cell 2;have q3:=hc.cell 3;have aG:=K aG;clear hc;unfold lit;simp only[hx];simp only[yE,Gz,Di,Ba,yI,yH,vZ,uA,su,qV,pW,pb,oo,wG,mo,lM,lr,kK,j4,jH,qe,iM,iL,iK,iS,Tryz.f21,bp,aS,Λ];go_wp2_with (go_at_call 33;refine aG.e.mono ?_;rintro e w1 ⟨ae,n25,cw,rfl,hp⟩;have HP:=K hp;clear hp)
 exact⟨ae,n25,cw,⟨rfl,rfl,(by repeat first|exact jF|refine eY rfl ?_)⟩,HP.e⟩
def aof{Ap Ab At:Option ϖ}{W:Option ϖ->Nat->Nat->N->Prop}(V:Sl [(1,π (J ⟨gE,0,H⟩)),(5,Y I 0),(7,Y I 0),(25,.slice ae n25 cw),(26,Y I 1)] a)(hc:Bk w gE 26 #[Y I 1,.slice Ap np cp,.slice Ab nb cb,.slice At nt ct])
 (aG:ύ prog 56 #[η #[Y I 1,.slice Ap np cp,.slice Ab nb cb,.slice At nt ct]] w λe w'=>∃qO n35 jO,e=Ω (μ #[.slice qO n35 jO,Y I 0])/\W qO n35 jO w'):yF.wp prog (dK λa w=>∃qO n35 jO,Sl [(5,Y I 0),(7,Y I 0),(9,Y I 0),(25,.slice ae n25 cw),(26,Y I 1),(35,.slice qO n35 jO)] a/\W qO n35 jO w) a w:=by
 obtain⟨x,rfl,hx⟩:=V.lit;simp only[Al] at hx;have q0:=hc.cell 0;have q1:=hc.cell 1;have q2:=hc.cell 2;have q3:=hc.cell 3;have aG:=K aG;clear hc;unfold lit;simp only[hx];simp only[yF,Kw,Kv,Gz,Di,Ba,yI,yH,vZ,uA,su,qV,pW,pb,oo,wG,mo,lM,lr,kK,j4,jH,qe,iM,iL,iK,iS,Tryz.f21,bp,aS,Λ];go_wp2_with (go_at_call 56;refine aG.e.mono ?_;rintro e w1 ⟨qO,n35,jO,rfl,hp⟩;have HP:=K hp;clear hp)
 exact⟨qO,n35,jO,⟨rfl,rfl,(by repeat first|exact jF|refine eY rfl ?_)⟩,HP.e⟩
def aog{qO:Option ϖ}{n35 jO:Nat}(V:Sl [(5,Y I 0),(7,Y I 0),(9,Y I 0),(25,.slice ae n25 cw),(26,Y I 1),(35,.slice qO n35 jO)] a)
 (iC:Row w w.heap.size 2 Cut.R (.slice ae n25 cw) nE)(IY:Row w w.heap.size 1 bI (.slice qO n35 jO) [0,1,2]):
 yJ.wp prog (λe a w'=>e=.ret/\a.defers=[cQ]/\a.tmps.size=349/\a.tmps[0]?=J (.bool D)/\φ w w') a w:=by
 obtain⟨x,rfl,hx⟩:=V.lit;simp only[Al] at hx;have CA:Hid (∀W,φ w W->∀g,Bk W g 56 #[Y I 2,Y I 0,Y I 2,Y I 6,Y I 2,Y I 10]->ύ prog 35 #[.slice ae n25 cw,E (J ⟨g,0,H⟩) 3 3] W λe w'=>e=Ω (.bool D)/\φ W w'):=K λW hb g hg=>by have:=Qo (fP iC hb) (SP nE (by decide) hg rfl) (ϊ _);exact this
 have CB:Hid (∀W,φ w W->∀g,Bk W g 3 #[Y I 0,Y I 1,Y I 2]->ύ prog 30 #[.slice qO n35 jO,E (J ⟨g,0,H⟩) 3 3] W λe w'=>e=Ω (.bool D)/\φ W w'):=K λW hb g hg=>by have:=D4 (fP IY hb) (sJ [0,1,2] (by decide) hg rfl) (ϊ _);exact this
 clear iC IY;unfold lit;simp only[hx];simp only[yJ,Kw,Kv,Gz,Di,Ba,yI,yH,vZ,uA,su,qV,pW,pb,oo,wG,mo,lM,lr,kK,j4,jH,qe,iM,iL,iK,iS,Tryz.f21,bp,aS,Λ];go_wp2_with (first
  | (go_at_call 66;refine(dt _ _ _).mono ?_;rintro e w1 ⟨rfl,rfl⟩)
  | (go_at_call 35;refine(CA.e _ (by repeat first|exact û _ _|refine Akw ?_ (by simp<;>omega) _) _ (Bk.bZ (by simp) _ _)).mono ?_;rintro e w5 ⟨rfl,dB⟩;have H5:Hid (φ w w5):=K (Akx (B:=w.heap.size) (by repeat first|exact û _ _|refine Akw ?_ (by simp<;>omega) _) (dB.mono (by simp<;>omega)));clear dB)
  | (go_at_call 30;have rM:=CB.e (w5.alloc (Obj.cells #[Ϟ Ϛ 0,Ϟ Ϛ 1,Ϟ Ϛ 2] 3)) (H5.e.alloc H5.e.size _) w5.heap.size (Bk.new _ _ _);refine rM.mono ?_;rintro e w6 ⟨rfl,eC⟩;have H6:=K ((H5.e.alloc H5.e.size _).trans (eC.mono (by have:=H5.e.size;simp;omega)));clear eC))
 exact H6.e
end
end Go.Jn
namespace Go.Jn
open Go Go.Proofs Go.Sim Go.Conc Go.Tw Go.RowKit
def anR{No:Nat->Prop}{sz:Nat}{R:α->List z->Prop}{xs:List α}(h:cV w No sz R v xs){p:ϖ}(hp:No p.block)(u:z):cV (w.setCell p u) No sz R v xs:=by
 obtain⟨A,c,hv,h1,h2,h3⟩:=h;refine⟨A,c,hv,h1,h2,λhx=>?_⟩;obtain⟨ad,ha,hb,hn,hc⟩:=h3 hx;refine⟨ad,ha,by simpa [World.setCell] using hb,hn,λi x hi=>?_⟩;obtain⟨cs,r,hl,aq⟩:=hc i x hi;refine⟨cs,r,hl,λj u hu=>?_⟩;have aw:(ad.add (i * sz+j)).block≠p.block:=by rw[b9];intro e;rw[e] at hn;exact hn hp
 exact(World.cell?_of_block (Below.heap_setCell w p _ _ aw)).trans (aq j u hu)
section
variable [Go.Tw.aK]
def BM(gk:Nat):List (bN×z):=[(uS,E (J ⟨gk,0,H⟩) 1 1),(⟨FU,6,[]⟩,E H 0 0)]
def VN(gl g1 g2:Nat):List (Tw.Tape×z):=[(⟨[0,2],⟨7,7⟩⟩,E (J ⟨gl,0,H⟩) 2 2),(⟨[0],⟨4,4⟩⟩,E (J ⟨g1,0,H⟩) 1 1),(⟨[2],⟨2,2⟩⟩,E (J ⟨g2,0,H⟩) 1 1)]
def apS{base:Nat}(hp:Bk W gp 72 #[.string Js,Y I 4,Y I 5,Y I 0,.string Jt,Y I 3,Y I 3,Y I 1,.string Jr,Y I 2,Y I 3,Y I 0])
 (hb:Bk W gb 59 #[.string SY,Y I 8,E (J ⟨gk,0,H⟩) 1 1,.string FU,Y I 6,E H 0 0])(hk:Bk W gk 37 #[Y I 3,Y I 3])(hl:Bk W gl 3 #[Y I 0,Y I 2])
 (h1:Bk W g1 3 #[Y I 0])(h2:Bk W g2 3 #[Y I 2])(ho:W.ownsRow base 95 3 tv 3 ((VN gl g1 g2).flatMap cE)):
 aQ W W.heap.size BN (E (J ⟨gp,0,H⟩) 3 3) (E (J ⟨gb,0,H⟩) 2 2) tv:=by
 refine⟨?_,?_,?_⟩
 ·exact za (xs:=bg.pieces) (f:=fX) hp (by decide) (λ_=>rfl) (λx hx=>by
   refine⟨rfl,?_⟩;simp only[bg,Ϡ,Á,or_false] at hx;rcases hx with rfl|rfl|rfl<;>decide) rfl
 ·have:=za (xs:=BM gk) (sz:=3) (f:=fc) (R:=λp cs=>cs=fc p) hb (by show 2<=1000;decide) (λ_=>rfl) (λ_ _=>rfl) rfl;exact tD (ps:=BM gk) this (λp hm cs hc=>by
   simp only[BM,Ϡ,Á,or_false] at hm;rcases hm with rfl|rfl
   ·exact⟨_,hc,(by show uS.name.size<=maxLen;decide),Mm [⟨3,3⟩] (by decide) hk rfl⟩
   ·exact⟨_,hc,by decide,Row.nil⟩)
 ·have:=mZ (l:=VN gl g1 g2) (f:=cE) (R:=λp cs=>cs=cE p) ho (λ_=>rfl) (λ_ _=>rfl);exact tD (ps:=VN gl g1 g2) this (λp hm cs hc=>by
   simp only[VN,Ϡ,Á,or_false] at hm;rcases hm with rfl|rfl|rfl
   ·exact⟨_,hc,sJ [0,2] (by decide) hl rfl⟩
   ·exact⟨_,hc,sJ [0] (by decide) h1 rfl⟩
   ·exact⟨_,hc,sJ [2] (by decide) h2 rfl⟩)
def lS{g':Nat}{t':TypeId}{bu:Array z}(h:Bk w g t cs)(h':Bk w g' t' bu)(ht:t≠t'):g≠g':=by rintro rfl;have h:w.heap[g]?=_:=h;have h':w.heap[g]?=_:=h';rw[h] at h';simp only[Option.some.injEq,Obj.cells.injEq] at h';exact ht h'.2.1
def amU{base sz:Nat}{e:TypeId}{xs:List z}(h:w.ownsRow base e sz v n xs)(hb:Bk w g t cs)(ht:e≠t):∀k,v.ownBlock=J k->g≠k:=by
 rcases h.2 with⟨rfl,_⟩ | ⟨k,cap,cur,rfl,ky,hk,_⟩
 ·intro k hk;simp[Value.ownBlock] at hk
 ·intro k' kU;simp[Value.ownBlock] at kU;subst kU
  exactλe=>lS (show Bk w k _ cur from hk) hb ht e.symm
def apT{W4 w6:N}{v':z}(hx:j6 w0 w gE gp gb gk gt gl gc g3)(h4:φ w W4)(b1:Bk W4 g1 3 #[Y I 0])(b2:Bk W4 g2 3 #[Y I 2])
 (aH:w6.ownsRow w0.heap.size 95 3 v' 3 ((VN gl g1 g2).flatMap cE))(hg:W4.grownBy w6 (J gt)):
 Bk w6 gE 26 #[Y I 1,E (J ⟨gp,0,H⟩) 3 3,E (J ⟨gb,0,H⟩) 2 2,E (J ⟨gt,0,H⟩) 1 1]/\
 Bk (w6.setCell ⟨gE,3,H⟩ v') gE 26 #[Y I 1,E (J ⟨gp,0,H⟩) 3 3,E (J ⟨gb,0,H⟩) 2 2,v']/\
 aQ (w6.setCell ⟨gE,3,H⟩ v') (w6.setCell ⟨gE,3,H⟩ v').heap.size BN (E (J ⟨gp,0,H⟩) 3 3) (E (J ⟨gb,0,H⟩) 2 2) v'/\
 ∀ {A:Option ϖ} {n c:Nat},cV w (λk=>k=gE\/k=gt) 2 Cut.R (.slice A n c) nE->cV (w6.setCell ⟨gE,3,H⟩ v') (λk=>k=gE\/k=gt) 2 Cut.R (.slice A n c) nE:=by
 have up:∀ {g t cs},Bk w g t cs->g≠gt->Bk w6 g t cs:=λh aw=>Bk.grown (W:=W4) (h.below h4 h.lt) hg (by simpa using aw);have ht:=hx.ex.t;have hE:=up hx.bE (lS hx.bE ht (by decide))
 have hp:=up hx.ex.p (lS hx.ex.p ht (by decide));have hb:=up hx.ex.b (lS hx.ex.b ht (by decide));have hk:=up hx.ex.k (lS hx.ex.k ht (by decide));have hl:=up hx.ex.l (lS hx.ex.l ht (by decide));have Wq:=ht.below h4 ht.lt;have h1:Bk w6 g1 3 #[Y I 0]:=Bk.grown (W:=W4) b1 hg (by simpa using lS b1 Wq (by decide))
 have h2:Bk w6 g2 3 #[Y I 2]:=Bk.grown (W:=W4) b2 hg (by simpa using lS b2 Wq (by decide));have ho:=mh (u:=v') (p:=⟨gE,3,H⟩) aH (amU aH hE (by decide));refine⟨hE,hE.set 3 v',apS (hp.dV (lS hp hE (by decide)) _) (hb.dV (lS hb hE (by decide)) _) (hk.dV (lS hk hE (by decide)) _) (hl.dV (lS hl hE (by decide)) _) (h1.dV (lS h1 hE (by decide)) _) (h2.dV (lS h2 hE (by decide)) _) ho,λT=>?_⟩;have de:cV W4 (λk=>k=gE\/k=gt) 2 Cut.R _ nE:=T.below h4 (λk hk=>.inl hk);exact anR (de.grown hg (λk hk=>.inr (by simpa using hk.symm))) (.inl rfl) _
end
def aqU{P:Program}{md:Region.Mode}{Q:Exit->Act->N->Prop}(κ:Nat->Array Bool->Act->N->Prop)
 (dH:∀n l a w i (ψ:Act->N->Prop),κ n l a w->i∈ϯ md ops l->(∀a' w',κ (n+1) (l.setIfInBounds i D) a' w'->ψ a' w')->wpOp P ops Q i ψ a w)
 (rP:∀n l a w,κ n l a w->ϯ md ops l=[]->Q .normal a w)(Cc:∀l a w,κ ops.size l a w->ϯ md ops l=[]):
 ∀fuel n l a w,n+fuel=ops.size->κ n l a w->ë P md ops Q fuel l a w:=by
 intro fuel;induction fuel with
 |zero=>intro n l a w hn h;have hn:n=ops.size:=hn;subst hn;exact⟨Cc l a w h,rP _ l a w h (Cc l a w h)⟩
 |succ k ih=>exactλn l a w hn h=>⟨rP n l a w h,λi hi=>dH n l a w i _ h hi λa' w' h'=>ih (n+1) _ a' w' (by omega) h'⟩
def waits(ops:Array Oper)(i:Nat):List Nat:=((ops[i]?).map λo=>(o.after.toList.filter (Region.binds .any ·)).map (·.on)).getD []
def JM:i∈ϯ .any ops l↔i<ops.size/\l.getD i D=U/\∀d∈waits ops i,l.getD d U=D:=by
 rw[mem_ready];unfold waits;constructor
 ·rintro⟨h,o,ho,ha⟩;refine⟨(Ϝ.1 ho).1,h,λd hd=>?_⟩;rw[ho] at hd;simp only[ó,Λ,List.mem_map,List.mem_filter] at hd;obtain⟨e,⟨he,hb⟩,rfl⟩:=hd;exact ha e (by simpa using he) hb
 ·rintro⟨hi,h,ha⟩;refine⟨h,ops[i],Ϝ.2 ⟨hi,rfl⟩,λe he hb=>ha _ ?_⟩;rw[Ϝ.2 ⟨hi,rfl⟩];simp only[ó,Λ,List.mem_map,List.mem_filter];exact⟨e,⟨by simpa using he,hb⟩,rfl⟩
def dI:Array Oper:=opsOf tN
def aja:Nat:=match tN with| .region i _ _=>i|_=>0
def apK:tN=.region aja dI D:=by kernel_rfl
def C5:dI.size=12:=by kernel_rfl
def aeA:∃o,dI[0]?=J o/\o.op=.fieldAddr 26 (.tmp 1) 3/\o.dst=J 306/\o.guard=H:=⟨_,rfl,rfl,rfl,rfl⟩
def aeB:∃o,dI[1]?=J o/\o.op=.load 24 (.tmp 306)/\o.dst=J 307/\o.guard=H:=⟨_,rfl,rfl,rfl,rfl⟩
def aeE:∃o,dI[2]?=J o/\o.op=.buildSlice 33 1 #[(0,.const (Y I 0))]/\o.dst=J 308/\o.guard=H:=⟨_,rfl,rfl,rfl,rfl⟩
def aeF:∃o,dI[3]?=J o/\o.op=.call {callee:=.value (.func 50),args:=#[.const (Y I 4)],argTypes:=#[3]}/\o.dst=J 309/\o.guard=H:=⟨_,rfl,rfl,rfl,rfl⟩
def aeG:∃o,dI[4]?=J o/\o.op=.build 95 #[(0,.tmp 308),(1,.tmp 309)]/\o.dst=J 310/\o.guard=H:=⟨_,rfl,rfl,rfl,rfl⟩
def aeH:∃o,dI[5]?=J o/\o.op=.buildSlice 33 1 #[(0,.const (Y I 2))]/\o.dst=J 311/\o.guard=H:=⟨_,rfl,rfl,rfl,rfl⟩
def aeI:∃o,dI[6]?=J o/\o.op=.call {callee:=.value (.func 50),args:=#[.const (Y I 2)],argTypes:=#[3]}/\o.dst=J 312/\o.guard=H:=⟨_,rfl,rfl,rfl,rfl⟩
def aeJ:∃o,dI[7]?=J o/\o.op=.build 95 #[(0,.tmp 311),(1,.tmp 312)]/\o.dst=J 313/\o.guard=H:=⟨_,rfl,rfl,rfl,rfl⟩
def aeK:∃o,dI[8]?=J o/\o.op=.buildSlice 24 2 #[(0,.tmp 310),(1,.tmp 313)]/\o.dst=J 314/\o.guard=H:=⟨_,rfl,rfl,rfl,rfl⟩
def aeL:∃o,dI[9]?=J o/\o.op=.call {callee:=.builtin .append,args:=#[.tmp 307,.tmp 314],argTypes:=#[24,24]}/\o.dst=J 315/\o.guard=H:=⟨_,rfl,rfl,rfl,rfl⟩
def aeC:∃o,dI[10]?=J o/\o.op=.fieldAddr 26 (.tmp 1) 3/\o.dst=J 316/\o.guard=H:=⟨_,rfl,rfl,rfl,rfl⟩
def aeD:∃o,dI[11]?=J o/\o.op=.store 24 (.tmp 316) (.tmp 315)/\o.dst=H/\o.guard=H:=⟨_,rfl,rfl,rfl,rfl⟩
def ZH:waits dI 1=[0]:=by kernel_rfl
def Km:waits dI 4=[2,3]:=by kernel_rfl
def Rc:waits dI 7=[5,6]:=by kernel_rfl
def Re:waits dI 8=[4,7]:=by kernel_rfl
def Rf:waits dI 9=[1,8,6]:=by kernel_rfl
def Gs:waits dI 10=[0,1,2,3,4,5,6,7,8,9]:=by kernel_rfl
def Kl:10∈waits dI 11:=List.contains_iff_mem.1 (by kernel_rfl)
def wlt:(ϣ 12).all (λi=>(waits dI i).all λd=>decide (d<i))=D:=by kernel_rfl
def L5(h:ϯ .any dI l=[]):∀i,i<12->l.getD i D=D:=by
 intro i;induction i using Nat.strongRecOn with
 |_ i ih=>
  intro hi;cases hb:l.getD i D with
  |true=>rfl
  |false=>
   have:i∈ϯ .any dI l:=JM.2 ⟨by rw[C5];exact hi,hb,λd hd=>by
    have ao:d<i:=(by have:=Ħ.1 (Ħ.1 wlt i (List.mem_range.2 hi)) d hd;simpa using this);have:=ih d ao (by omega);have V:i<l.size:=by apply Classical.byContradiction;intro hn;rw[æ,Array.getElem?_eq_none (by omega)] at hb;cases hb
    rw[æ,Ϝ.2 ⟨by omega,rfl⟩] at this |-;exact this⟩
   rw[h] at this;cases this
def Hw(h:i<l.size)(d e:Bool):l.getD i d=l.getD i e:=by rw[æ,æ,Ϝ.2 ⟨h,rfl⟩];rfl
def M9(h:i<l.size)(d:Bool):(l.setIfInBounds i D).getD i d=D:=by rw[æ,Ü,if_pos rfl,if_pos h];rfl
def ad0(hc:l.toList.countP id=n)(hi:i<l.size)(hb:l.getD i D=U):(l.setIfInBounds i D).toList.countP id=n+1:=by
 rw[Array.toList_setIfInBounds,List.countP_set (by simpa using hi)];have e:l.toList[i]'(by simpa using hi)=U:=by rw[æ,Ϝ.2 ⟨hi,rfl⟩] at hb;simpa using hb
 rw[e,hc];simp
def adZ(h:l.toList.countP id=12)(V:l.size=12):ϯ .any dI l=[]:=by
 rw[List.eq_nil_iff_forall_not_mem];intro i hi;obtain⟨h1,h2,-⟩:=JM.1 hi;rw[C5] at h1;have:=List.countP_eq_length.1 (h.trans (by simpa using V.symm:12=l.toList.length)) (l[i]'(by omega)) (by simp)
 rw[æ,Ϝ.2 ⟨by omega,rfl⟩] at h2;simp only[id,Λ] at this h2;rw[this] at h2;cases h2
end Go.Jn
namespace Go.Jn
open Go Go.Proofs Go.Sim Go.Conc Go.Tw Go.RowKit
section
variable [Go.Tw.aK]
def FV(gE gt k:Nat)(W:N)(v:z):Prop:=match k with
 |0=>v=π (J ⟨gE,3,H⟩)
 |1=>v=E (J ⟨gt,0,H⟩) 1 1
 |2=>∃b,v=E (J ⟨b,0,H⟩) 1 1/\Bk W b 3 #[Y I 0]
 |3=>v=η #[Y I 4,Y I 4]
 |4=>∃b,v=η #[E (J ⟨b,0,H⟩) 1 1,Y I 4,Y I 4]/\Bk W b 3 #[Y I 0]
 |5=>∃b,v=E (J ⟨b,0,H⟩) 1 1/\Bk W b 3 #[Y I 2]
 |6=>v=η #[Y I 2,Y I 2]
 |7=>∃b,v=η #[E (J ⟨b,0,H⟩) 1 1,Y I 2,Y I 2]/\Bk W b 3 #[Y I 2]
 |_=>∃d b c,v=E (J ⟨d,0,H⟩) 2 2/\Bk W d 95 #[E (J ⟨b,0,H⟩) 1 1,Y I 4,Y I 4,E (J ⟨c,0,H⟩) 1 1,Y I 2,Y I 2]/\Bk W b 3 #[Y I 0]/\Bk W c 3 #[Y I 2]
def FV.below{gE gt k:Nat}{W W':N}{v:z}(h:FV gE gt k W v)(hb:φ W W'):FV gE gt k W' v:=by
 have up:∀ {g t cs},Bk W g t cs->Bk W' g t cs:=λh=>h.below hb h.lt;unfold FV at *;split at h<;>first
  |exact h
  | (obtain⟨b,e,h⟩:=h;exact⟨b,e,up h⟩)
  | (obtain⟨d,b,c,e,h1,h2,h3⟩:=h;exact⟨d,b,c,e,up h1,up h2,up h3⟩)
def BK(W:N)(gE gp gb:Nat)(v:z):Prop:=Bk W gE 26 #[Y I 1,E (J ⟨gp,0,H⟩) 3 3,E (J ⟨gb,0,H⟩) 2 2,v]
def RG(gE gp gb:Nat)(v25:z)(W:N)(v:z):Prop:=∃A n c,v=.slice A n c/\BK W gE gp gb (.slice A n c)/\aQ W W.heap.size BN (E (J ⟨gp,0,H⟩) 3 3) (E (J ⟨gb,0,H⟩) 2 2) (.slice A n c)/\Row W W.heap.size 2 Cut.R v25 nE
def LJ(gE gp gb gt:Nat)(v25:z)(W:N)(v:z):Prop:=BK W gE gp gb (E (J ⟨gt,0,H⟩) 1 1)/\RG gE gp gb v25 (W.setCell ⟨gE,3,H⟩ v) v
structure Bl(m:List (Nat×z))(w:N)(gE gp gb gt:Nat)(v25:z)(n:Nat)(l:Array Bool)(a:Act)(W:N):Prop where
 sz:l.size=12
 cnt:l.toList.countP id=n
 cl:∀k,l.getD k U=D->∀d∈waits dI k,l.getD d U=D
 sl:Sl m a
 ph:(l.getD 9 U=U/\φ w W/\∀k,k<9->l.getD k U=D->∃v,a.tmps[306+k]?=J v/\FV gE gt k W v)\/
  (l.getD 9 U=D/\l.getD 10 U=U/\∃v,a.tmps[315]?=J v/\LJ gE gp gb gt v25 W v)\/
  (l.getD 10 U=D/\l.getD 11 U=U/\∃v,a.tmps[315]?=J v/\a.tmps[316]?=J (π (J ⟨gE,3,H⟩))/\LJ gE gp gb gt v25 W v)\/
  (l.getD 11 U=D/\∃v,RG gE gp gb v25 W v)
def QA{m:List (Nat×z)}(h:Sl m a)(hm:∀p∈m,p.1<306)(hd:306<=d)(v:z):Sl m (a.put (J d) v):=by
 refine⟨h.1,by simpa [Act.put] using h.2.1,λp hp=>?_⟩;have:=h.2.2 p hp;have:=hm p hp;simp only[Act.put];rw[Ü,if_neg (by omega)]
 exact h.2.2 p hp
section
variable {m:List (Nat×z)}{w:N}{gE gp gb gt:Nat}{v25:z}{n:Nat}{l:Array Bool}{a:Act}{W:N}
def Bl.next(h:Bl m w gE gp gb gt v25 n l a W)(hi:i∈ϯ .any dI l):
 (l.setIfInBounds i D).size=12/\(l.setIfInBounds i D).toList.countP id=n+1/\(∀k,(l.setIfInBounds i D).getD k U=D->∀d∈waits dI k,(l.setIfInBounds i D).getD d U=D):=by
 obtain⟨h1,h2,h3⟩:=JM.1 hi;rw[C5] at h1;have V:=h.sz;refine⟨by simpa using V,ad0 h.cnt (by omega) h2,λk hk d hd=>?_⟩
 by_cases rS:i=k
 ·subst rS;exact getD_set_true (h3 d hd)
 ·rw[Aku U rS] at hk;exact getD_set_true (h.cl k hk d hd)
def Bl.one(h:Bl m w gE gp gb gt v25 n l a W)(hm:∀p∈m,p.1<306)(h9:l.getD 9 U=U)(hb:φ w W)(hf:∀k,k<9->l.getD k U=D->∃v,a.tmps[306+k]?=J v/\FV gE gt k W v)
 (hi:i∈ϯ .any dI l)(xD:i<9){W':N}(hW:φ W W')(hv:FV gE gt i W' v):
 Bl m w gE gp gb gt v25 (n+1) (l.setIfInBounds i D) (a.put (J (306+i)) v) W':=by
 obtain⟨n1,n2,n3⟩:=h.next hi;refine⟨n1,n2,n3,QA h.sl hm (by omega) v,.inl ⟨by rw[Aku U (by omega)];exact h9,hb.trans (hW.mono hb.size),λk hk hl=>?_⟩⟩;simp only[Act.put];by_cases rS:i=k
 ·subst rS;have V:=h.sl.2.1;exact⟨v,by rw[Ü,if_pos rfl,if_pos (by omega)],hv⟩
 ·rw[Aku U rS] at hl;obtain⟨u,hu,hfu⟩:=hf k hk hl;exact⟨u,by rw[Ü,if_neg (by omega)];exact hu,hfu.below hW⟩
def AU{ψ:Act->N->Prop}{Q:Exit->Act->N->Prop}(ho:dI[i]?=J o)(hg:o.guard=H)(h:Oper.wp prog o a W ψ Q):wpOp prog dI Q i ψ a W:=by unfold wpOp;rw[ho];simp only[cx hg,if_true];exact .inl h
def ev(h:a.tmps[k]?=J v):a.eval (.tmp k)=v:=by unfold Act.eval;simp[h]
def Zt{ψ:Act->N->Prop}{Q:Exit->Act->N->Prop}(ho:dI[i]?=J o)(ag:o.op=.fieldAddr 26 (.tmp 1) 3)(hd:o.dst=J d)(hg:o.guard=H)(h1:a.tmps[1]?=J (π (J ⟨gE,0,H⟩)))(h:ψ (a.put (J d) (π (J ⟨gE,3,H⟩))) W):wpOp prog dI Q i ψ a W:=by refine AU ho hg ?_;have e:=ev h1;obtain⟨d,op,ty,ps,af,gu⟩:=o;simp only at ag hd hg;subst ag hd hg;clear ho;go_simp;exact h
def aqx{ψ:Act->N->Prop}{Q:Exit->Act->N->Prop}(h1:a.tmps[306]?=J (π (J ⟨gE,3,H⟩)))(hc: W.cell? ⟨gE,3,H⟩=J (E (J ⟨gt,0,H⟩) 1 1))(h:ψ (a.put (J 307) (E (J ⟨gt,0,H⟩) 1 1)) W):wpOp prog dI Q 1 ψ a W:=by obtain⟨o,ho,ag,hd,hg⟩:=aeB;refine AU ho hg ?_;have e:=ev h1;obtain⟨d,op,ty,ps,af,gu⟩:=o;simp only at ag hd hg;subst ag hd hg;clear ho;go_simp;exact h
def Zu{ψ:Act->N->Prop}{Q:Exit->Act->N->Prop}(ho:dI[i]?=J o)(ag:o.op=.buildSlice 33 1 #[(0,.const (Y I υ))])(hd:o.dst=J d)(hg:o.guard=H)(h:ψ (a.put (J d) (E (J ⟨W.heap.size,0,H⟩) 1 1)) (W.alloc (Ξ #[Y I υ] 3))):wpOp prog dI Q i ψ a W:=by refine AU ho hg ?_;obtain⟨d,op,ty,ps,af,gu⟩:=o;simp only at ag hd hg;subst ag hd hg;clear ho;go_simp;exact h
def Zv{d:Nat}{υ:Int}{ψ:Act->N->Prop}{Q:Exit->Act->N->Prop}(ho:dI[i]?=J o)(ag:o.op=.call {callee:=.value (.func 50),args:=#[.const (Y I υ)],argTypes:=#[3]})(hd:o.dst=J d)(hg:o.guard=H)(h:ψ (a.put (J d) (η #[Y I υ,Y I υ])) (W.alloc (Ξ #[Y I υ,Y I υ] 37))):wpOp prog dI Q i ψ a W:=by refine AU ho hg ?_;obtain⟨d,op,ty,ps,af,gu⟩:=o;simp only at ag hd hg;subst ag hd hg;clear ho;go_simp;go_at_call 50;refine(CQ _ _).mono ?_;rintro e w1 ⟨rfl,rfl⟩;exact h
def Zw{s1 s2:Nat}{b:Nat}{ψ:Act->N->Prop}{Q:Exit->Act->N->Prop}(ho:dI[i]?=J o)(ag:o.op=.build 95 #[(0,.tmp s1),(1,.tmp s2)])(hd:o.dst=J d)(hg:o.guard=H)(h1:a.tmps[s1]?=J (E (J ⟨b,0,H⟩) 1 1))(h2:a.tmps[s2]?=J (η #[Y I υ,Y I υ]))(h:ψ (a.put (J d) (η #[E (J ⟨b,0,H⟩) 1 1,Y I υ,Y I υ])) W):wpOp prog dI Q i ψ a W:=by refine AU ho hg ?_;have e:=ev h1;have e':=ev h2;obtain⟨d,op,ty,ps,af,gu⟩:=o;simp only at ag hd hg;subst ag hd hg;clear ho;go_simp;exact h
def aqz{b:Nat}{ψ:Act->N->Prop}{Q:Exit->Act->N->Prop}(h1:a.tmps[310]?=J (η #[E (J ⟨b,0,H⟩) 1 1,Y I 4,Y I 4]))(h2:a.tmps[313]?=J (η #[E (J ⟨c,0,H⟩) 1 1,Y I 2,Y I 2]))
 (h:ψ (a.put (J 314) (E (J ⟨W.heap.size,0,H⟩) 2 2)) (W.alloc (Ξ #[E (J ⟨b,0,H⟩) 1 1,Y I 4,Y I 4,E (J ⟨c,0,H⟩) 1 1,Y I 2,Y I 2] 95))):wpOp prog dI Q 8 ψ a W:=by
 obtain⟨o,ho,ag,hd,hg⟩:=aeK;refine AU ho hg ?_;have e:=ev h1;have e':=ev h2;obtain⟨d,op,ty,ps,af,gu⟩:=o;simp only at ag hd hg;subst ag hd hg;clear ho;go_simp;exact h
def aqy{A:Option ϖ}{u:z}{ψ:Act->N->Prop}{Q:Exit->Act->N->Prop}(h1:a.tmps[316]?=J (π (J ⟨gE,3,H⟩)))(h2:a.tmps[315]?=J (.slice A k c))(hc: W.cell? ⟨gE,3,H⟩=J u)(hf: W.frozen? ⟨gE,3,H⟩=U)(h:ψ a (W.setCell ⟨gE,3,H⟩ (.slice A k c))):wpOp prog dI Q 11 ψ a W:=by obtain⟨o,ho,ag,hd,hg⟩:=aeD;refine AU ho hg ?_;have e:=ev h1;have e':=ev h2;obtain⟨d,op,ty,ps,af,gu⟩:=o;simp only at ag hd hg;subst ag hd hg;clear ho;go_simp;exact h
def aqw{b:Nat}{ψ:Act->N->Prop}{Q:Exit->Act->N->Prop}(hx:j6 w0 w gE gp gb gk gt gl gc g3)(iC:cV w (λk=>k=gE\/k=gt) 2 Cut.R (.slice ae n25 cw) nE)
 (hb:φ w W)(h1:a.tmps[307]?=J (E (J ⟨gt,0,H⟩) 1 1))(h2:a.tmps[314]?=J (E (J ⟨b,0,H⟩) 2 2))
 (hn:Bk W b 95 #[E (J ⟨g1,0,H⟩) 1 1,Y I 4,Y I 4,E (J ⟨g2,0,H⟩) 1 1,Y I 2,Y I 2])(b1:Bk W g1 3 #[Y I 0])(b2:Bk W g2 3 #[Y I 2])
 (h:∀v w',LJ gE gp gb gt (.slice ae n25 cw) w' v->ψ (a.put (J 315) v) w'):wpOp prog dI Q 9 ψ a W:=by
 obtain⟨o,ho,ag,hd,hg⟩:=aeL;obtain⟨i0,cJ,cK,aO,aZ⟩:=info_parts Fz;have ate:w.ownsRow w0.heap.size 95 3 (E (J ⟨gt,0,H⟩) 1 1) 1 [E (J ⟨gl,0,H⟩) 2 2,Y I 7,Y I 7]:=
  ⟨rfl,.inr ⟨gt,1,_,rfl,hx.ex.ht,hx.ex.t,ϊ _,by unfold maxLen;omega,rfl,rfl⟩⟩
 have amT:W.ownsRow w0.heap.size 95 3 (E (J ⟨gt,0,H⟩) 1 1) 1 [E (J ⟨gl,0,H⟩) 2 2,Y I 7,Y I 7]:=
  ⟨rfl,.inr ⟨gt,1,_,rfl,hx.ex.ht,hx.ex.t.below hb hx.ex.t.lt,ϊ _,by unfold maxLen;omega,rfl,rfl⟩⟩
 have lw:w0.heap.size<=W.heap.size:=Nat.le_trans hx.below.size hb.size;refine wpOp_step ho λK' hK=>?_;refine oe (Q:=Q) hg (.tmp 307) (.tmp 314) 24 ag w0.heap.size 95 i0 (η #[E H 0 0,Y I 0,Y I 0]) 3 40 (χ Tryz.underlying24) cJ cK aO aZ rfl (by decide) (E (J ⟨gt,0,H⟩) 1 1) 1 _ (ev h1) amT ⟨b,0,H⟩ 2 2
  [E (J ⟨g1,0,H⟩) 1 1,Y I 4,Y I 4,E (J ⟨g2,0,H⟩) 1 1,Y I 2,Y I 2] (ev h2) rfl (λj u hu=>by
    rw[kP];have:=hn.cell j;exact(by simpa using this.trans (by simpa using hu))) (by simp[Value.oneCell']) (by simp only[maxLen];omega) (by omega) lw ?_
 intro v' w6 aH gK;rw[hd];refine hK _ _ (h _ _ ?_);obtain⟨hE,xe,hB,hR⟩:=apT hx hb b1 b2 aH gK;obtain⟨A',n',c',rfl⟩:=ld aH;exact⟨hE,A',n',c',rfl,xe,hB,(hR iC).row⟩
end
set_option maxRecDepth 4000 in
def aoe(V:Sl [(1,π (J ⟨gE,0,H⟩)),(5,Y I 0),(7,Y I 0),(25,.slice ae n25 cw),(26,Y I 1)] a)
 (hx:j6 w0 w gE gp gb gk gt gl gc g3)(iC:cV w (λk=>k=gE\/k=gt) 2 Cut.R (.slice ae n25 cw) nE):
 tN.wp prog (dK λa W=>∃A n c,Sl [(1,π (J ⟨gE,0,H⟩)),(5,Y I 0),(7,Y I 0),(25,.slice ae n25 cw),(26,Y I 1)] a/\
  Bk W gE 26 #[Y I 1,E (J ⟨gp,0,H⟩) 3 3,E (J ⟨gb,0,H⟩) 2 2,.slice A n c]/\aQ W W.heap.size BN (E (J ⟨gp,0,H⟩) 3 3) (E (J ⟨gb,0,H⟩) 2 2) (.slice A n c)/\Row W W.heap.size 2 Cut.R (.slice ae n25 cw) nE) a w:=by
 rw[apK];refine wp_region_any (by kernel_rfl) ?_;have hm:∀p∈([(1,π (J ⟨gE,0,H⟩)),(5,Y I 0),(7,Y I 0),(25,.slice ae n25 cw),(26,Y I 1)]:List (Nat×z)),p.1<306:=by simp
 refine aqU (Bl [(1,π (J ⟨gE,0,H⟩)),(5,Y I 0),(7,Y I 0),(25,.slice ae n25 cw),(26,Y I 1)] w gE gp gb gt (.slice ae n25 cw)) ?step ?fin (λl a w h=>adZ (by rw[h.cnt,C5]) h.sz) dI.size 0 _ a _ (by omega) ?start;case start=>rw[C5];exact⟨by simp,by simp,λk hk=>by simp[Akq] at hk;split at hk<;>simp at hk,V,.inl ⟨by simp,dT (û _ _),λk _ hk=>by simp[Akq] at hk;split at hk<;>simp at hk⟩⟩
 case fin=>
  intro n l a W h T;have xa:=Hw (l:=l) (i:=11) (by rw[h.sz];omega) D U
  have qm:=Hw (l:=l) (i:=10) (by rw[h.sz];omega) D U;have h9:=Hw (l:=l) (i:=9) (by rw[h.sz];omega) D U;rw[L5 T 11 (by omega)] at xa;rw[L5 T 10 (by omega)] at qm;rw[L5 T 9 (by omega)] at h9;rcases h.ph with h'|h'|h'| ⟨-,v,A,n,c,rfl,h1,h2,h3⟩
  ·rw[<-h9] at h';cases h'.1
  ·rw[<-qm] at h';cases h'.2.1
  ·rw[<-xa] at h';cases h'.2.1
  ·exact⟨A,n,c,h.sl,h1,h2,h3⟩
 case step=>
  intro n l a W i ψ h hi hK;obtain⟨EI,xC,fM⟩:=JM.1 hi;rw[C5] at EI;have e1:a.tmps[1]?=J (π (J ⟨gE,0,H⟩)):=h.sl.get (by simp)
  have Ot:=h.sz;have eK:=h.sl.2.1;have eU:l.getD i U=U:=(Hw (by omega) _ _).trans xC
  rcases h.ph with⟨h9,hb,hf⟩ | ⟨h9,qm,v,hv,hM⟩ | ⟨qm,xa,v,hv,hp,hM⟩ | ⟨xa,v,hF⟩
  ·have one:=λ{v:z} {W':N} (xD:i<9) (hW:φ W W') (hv:FV gE gt i W' v)=>hK _ _ (h.one hm h9 hb hf hi xD hW hv)
   match i,EI with
   |0,_=>obtain⟨o,ho,ag,hd,hg⟩:=aeA;exact Zt ho ag hd hg e1 (one (by omega) (û _ _) rfl)
   |1,_=>obtain⟨v,hv,Fi⟩:=hf 0 (by omega) (fM 0 (by rw[ZH];simp));exact aqx (hv.trans (congrArg J Fi)) ((hx.bE.below hb hx.bE.lt).cell 3) (one (by omega) (û _ _) rfl)
   |2,_=>obtain⟨o,ho,ag,hd,hg⟩:=aeE;exact Zu ho ag hd hg (one (by omega) ((û _ _).alloc (ϊ _) _) ⟨_,rfl,Bk.new _ _ _⟩)
   |3,_=>obtain⟨o,ho,ag,hd,hg⟩:=aeF;exact Zv ho ag hd hg (one (by omega) ((û _ _).alloc (ϊ _) _) rfl)
   |4,_=>obtain⟨v,hv,b,rfl,h1⟩:=hf 2 (by omega) (fM 2 (by rw[Km];simp));obtain⟨u,hu,rfl⟩:=hf 3 (by omega) (fM 3 (by rw[Km];simp));obtain⟨o,ho,ag,hd,hg⟩:=aeG;exact Zw ho ag hd hg hv hu (one (by omega) (û _ _) ⟨b,rfl,h1⟩)
   |5,_=>obtain⟨o,ho,ag,hd,hg⟩:=aeH;exact Zu ho ag hd hg (one (by omega) ((û _ _).alloc (ϊ _) _) ⟨_,rfl,Bk.new _ _ _⟩)
   |6,_=>obtain⟨o,ho,ag,hd,hg⟩:=aeI;exact Zv ho ag hd hg (one (by omega) ((û _ _).alloc (ϊ _) _) rfl)
   |7,_=>obtain⟨v,hv,b,rfl,h1⟩:=hf 5 (by omega) (fM 5 (by rw[Rc];simp));obtain⟨u,hu,rfl⟩:=hf 6 (by omega) (fM 6 (by rw[Rc];simp));obtain⟨o,ho,ag,hd,hg⟩:=aeJ;exact Zw ho ag hd hg hv hu (one (by omega) (û _ _) ⟨b,rfl,h1⟩)
   |8,_=>obtain⟨v,hv,b,rfl,h1⟩:=hf 4 (by omega) (fM 4 (by rw[Re];simp));obtain⟨u,hu,c,rfl,h2⟩:=hf 7 (by omega) (fM 7 (by rw[Re];simp));have hB:φ W (W.alloc (Ξ #[E (J ⟨b,0,H⟩) 1 1,Y I 4,Y I 4,E (J ⟨c,0,H⟩) 1 1,Y I 2,Y I 2] 95)):=(û _ _).alloc (ϊ _) _;exact aqz hv hu (one (by omega) hB ⟨_,b,c,rfl,Bk.new _ _ _,h1.below hB h1.lt,h2.below hB h2.lt⟩)
   |9,_=>
    obtain⟨v,hv,rfl⟩:=hf 1 (by omega) (fM 1 (by rw[Rf];simp));obtain⟨u,hu,d,b,c,rfl,h0,h1,h2⟩:=hf 8 (by omega) (fM 8 (by rw[Rf];simp));obtain⟨n1,n2,n3⟩:=h.next hi;refine aqw hx iC hb hv hu h0 h1 h2 λv w' hM=>hK _ _ ⟨n1,n2,n3,QA h.sl hm (by omega) v,.inr (.inl ⟨M9 (by omega) _,?_,v,?_,hM⟩)⟩
    ·rw[Aku U (by omega)];cases qm:l.getD 10 U with
     |false=>rfl|true=>rw[h.cl 10 qm 9 (by rw[Gs];simp)] at h9;cases h9
    ·simp only[Act.put];rw[Ü,if_pos rfl,if_pos (by omega)]
   |10,_=>rw[fM 9 (by rw[Gs];simp)] at h9;cases h9
   |11,_=>rw[h.cl 10 (fM 10 Kl) 9 (by rw[Gs];simp)] at h9;cases h9
  ·have c8:=h.cl 9 h9;rw[Rf] at c8;have f8:=c8 8 (by simp)
   have f1:=c8 1 (by simp);have f6:=c8 6 (by simp);have c4:=h.cl 8 f8;rw[Re] at c4;have f4:=c4 4 (by simp)
   have f7:=c4 7 (by simp);have f0:=h.cl 1 f1 0 (by rw[ZH];simp);have f2:=h.cl 4 f4 2 (by rw[Km];simp);have f3:=h.cl 4 f4 3 (by rw[Km];simp);have f5:=h.cl 7 f7 5 (by rw[Rc];simp)
   match i,EI with
   |0,_=>rw[f0] at eU;cases eU
   |1,_=>rw[f1] at eU;cases eU
   |2,_=>rw[f2] at eU;cases eU
   |3,_=>rw[f3] at eU;cases eU
   |4,_=>rw[f4] at eU;cases eU
   |5,_=>rw[f5] at eU;cases eU
   |6,_=>rw[f6] at eU;cases eU
   |7,_=>rw[f7] at eU;cases eU
   |8,_=>rw[f8] at eU;cases eU
   |9,_=>rw[h9] at eU;cases eU
   |10,_=>
    obtain⟨n1,n2,n3⟩:=h.next hi;obtain⟨o,ho,ag,hd,hg⟩:=aeC;refine Zt ho ag hd hg e1 (hK _ _ ⟨n1,n2,n3,QA h.sl hm (by omega) _,.inr (.inr (.inl ⟨M9 (by omega) _,?_,v,?_,?_,hM⟩))⟩)
    ·rw[Aku U (by omega)];cases xa:l.getD 11 U with
     |false=>rfl|true=>rw[h.cl 11 xa 10 Kl] at qm;cases qm
    ·simp only[Act.put];rw[Ü,if_neg (by omega)];exact hv
    ·simp only[Act.put];rw[Ü,if_pos rfl,if_pos (by omega)]
   |11,_=>rw[fM 10 Kl] at qm;cases qm
  ·have c10:=h.cl 10 qm;rw[Gs] at c10;have agz:i=11:=by
    apply Classical.byContradiction;intro aw;rcases Nat.lt_or_ge i 10 with h'|h'
    ·have:=c10 i (by simp;omega);rw[this] at eU;cases eU
    ·have:i=10:=by omega
     subst this;rw[qm] at eU;cases eU
   subst agz;obtain⟨n1,n2,n3⟩:=h.next hi;obtain⟨hE,A,k,c,rfl,hF⟩:=hM;have xe:Bk W gE 26 _:=hE;exact aqy hp hv (xe.cell 3) (xe.frozen 3) (hK _ _ ⟨n1,n2,n3,h.sl,.inr (.inr (.inr ⟨M9 (by omega) _,_,A,k,c,rfl,hF⟩))⟩)
  ·have Th:=h.cl 11 xa 10 Kl;have c10:=h.cl 10 Th;rw[Gs] at c10;exfalso;rcases Nat.lt_or_ge i 10 with h'|h'
   ·have:=c10 i (by simp;omega);rw[this] at eU;cases eU
   ·have:i=10\/i=11:=by omega
    rcases this with rfl|rfl
    ·rw[Th] at eU;cases eU
    ·rw[xa] at eU;cases eU
def aoA(w:N)(x:Nat->z):fu prog [vV,vW,vX] (dK (FA w)) ⟨(lit x).toArray,[cQ]⟩ w:=by
 unfold lit;unfold fu fu fu fu;simp only[vV,vW,vX,iM,iL,iK,iS,Tryz.f21,bp,aS,Λ];go_wp2_with (first
  | (go_at_call 94;refine(afx _).mono ?_;rintro e w1 ⟨gp,gb,gk,gt,gl,rfl,hex,ai⟩
     have HX:=K (And.intro hex ai);clear hex ai)
  | (go_at_call 95;refine(ael _).mono ?_;rintro e w2 ⟨gc,rfl,zT,eu,an⟩
     have Sb:=K (And.intro zT (And.intro eu an));clear zT eu an))
 have EH:Bk (w2.alloc (Ξ #[Y I 1,E (J ⟨gp,0,H⟩) 3 3,E (J ⟨gb,0,H⟩) 2 2,E (J ⟨gt,0,H⟩) 1 1] 26)) gc 56 #[Y I 1,Y I 0,Y I 0,Y I 0,Y I 0,Y I 4]:=Sb.e.2.1.alloc _;have Nn:Bk (w2.alloc (Ξ #[Y I 1,E (J ⟨gp,0,H⟩) 3 3,E (J ⟨gb,0,H⟩) 2 2,E (J ⟨gt,0,H⟩) 1 1] 26)) w2.heap.size 26 #[Y I 1,E (J ⟨gp,0,H⟩) 3 3,E (J ⟨gb,0,H⟩) 2 2,E (J ⟨gt,0,H⟩) 1 1]:=Bk.new _ _ _;have rN:φ w2 (w2.alloc (Ξ #[Y I 1,E (J ⟨gp,0,H⟩) 3 3,E (J ⟨gb,0,H⟩) 2 2,E (J ⟨gt,0,H⟩) 1 1] 26)):=(û _ _).alloc (ϊ _) _;generalize (w2.alloc (Ξ #[Y I 1,E (J ⟨gp,0,H⟩) 3 3,E (J ⟨gb,0,H⟩) 2 2,E (J ⟨gt,0,H⟩) 1 1] 26))=hs at EH Nn rN |-
 have c0: hs.cell? ⟨gc,0,H⟩=J (Y I 1):=EH.cell 0;have c1: hs.cell? ⟨gc,1,H⟩=J (Y I 0):=EH.cell 1;have c2: hs.cell? ⟨gc,2,H⟩=J (Y I 0):=EH.cell 2;have c3: hs.cell? ⟨gc,3,H⟩=J (Y I 0):=EH.cell 3;have lc:gc<hs.heap.size:=EH.lt;have lc':gc<=hs.heap.size:=by omega
 have HV:=K (And.intro EH (And.intro Nn rN));clear EH Nn rN;go_region_with (go_at_call 66;refine(dt _ _ _).mono ?_;rintro e w3 ⟨rfl,rfl⟩);all_goals
  show FA w _ _;refine⟨rfl,rfl,rfl,_,gp,gb,gk,gt,gl,gc,_,rfl,rfl,rfl,?_⟩;have eL:=Sb.e.2.2;have aO:=HX.e.2.size;have aZ:=eL.size;have h0:yQ hs w.heap.size gp gb gk gt gl:=⟨(HX.e.1.p.below eL HX.e.1.p.lt).below HV.e.2.2 (HX.e.1.p.below eL HX.e.1.p.lt).lt,(HX.e.1.b.below eL HX.e.1.b.lt).below HV.e.2.2 (HX.e.1.b.below eL HX.e.1.b.lt).lt,(HX.e.1.k.below eL HX.e.1.k.lt).below HV.e.2.2 (HX.e.1.k.below eL HX.e.1.k.lt).lt,(HX.e.1.t.below eL HX.e.1.t.lt).below HV.e.2.2 (HX.e.1.t.below eL HX.e.1.t.lt).lt,(HX.e.1.l.below eL HX.e.1.l.lt).below HV.e.2.2 (HX.e.1.l.below eL HX.e.1.l.lt).lt,HX.e.1.hp,HX.e.1.hb,HX.e.1.hk,HX.e.1.ht,HX.e.1.hl⟩;have dk:φ w hs:=(HX.e.2.trans (eL.mono aO)).trans (HV.e.2.2.mono (by omega))
  exact afB h0 HV.e.2.1 HV.e.1 dk (by omega)
def FD(w0:N)(a:Act)(w:N):Prop:=∃gE gp gb gk gt gl gc g3 dF n22 c22 ae n25 cw eG n28 eI jI n31 jN,
 Sl [(0,.bool U),(1,π (J ⟨gE,0,H⟩)),(2,E (J ⟨gc,0,H⟩) 3 3),(3,E (J ⟨g3,0,H⟩) 3 3),(5,Y I 0),(7,Y I 0),(9,Y I 0),(11,Y I 0),(13,Y I 0),(15,Y I 0),(20,Y I 1),(21,Y I 0),(22,.slice dF n22 c22),(23,E H 0 0),(24,Y I 8),(25,.slice ae n25 cw),(26,Y I 2),(27,.bool D),(28,.slice eG n28 eI),(29,Y I 14),(30,.bool D),(31,.slice jI n31 jN)] a/\
 j6 w0 w gE gp gb gk gt gl gc g3/\Row w w.heap.size 1 bI (.slice dF n22 c22) [1,1]/\Row w w.heap.size 2 Cut.R (.slice ae n25 cw) jP/\Row w w.heap.size 2 Cut.R (.slice eG n28 eI) jP/\Row w w.heap.size 1 bI (.slice jI n31 jN) [0,1]
def FE(a:Act)(w:N):Prop:=∃ae n25 cw qO n35 jO,Sl [(5,Y I 0),(7,Y I 0),(9,Y I 0),(25,.slice ae n25 cw),(26,Y I 1),(35,.slice qO n35 jO)] a/\
 Row w w.heap.size 2 Cut.R (.slice ae n25 cw) nE/\Row w w.heap.size 1 bI (.slice qO n35 jO) [0,1,2]
def afa:BH BN=[0,1,2]:=by decide+kernel
def JR{sz:Nat}{R:α->List z->Prop}{xs:List α}(h:Row w B sz R v xs):∃A n c,v=.slice A n c:=by obtain⟨A,c,e,_⟩:=h;exact⟨A,_,c,e⟩
def aoz(hm:gF w0)(hf:FD w0 a w):fu prog [yB,yC,yD,yE,tN,yF] (dK FE) a w:=by
 obtain⟨gE,gp,gb,gk,gt,gl,gc,g3,dF,n22,c22,ae,n25,cw,eG,n28,eI,jI,n31,jN,V,hx,kZ,iC,nO,OO⟩:=hf;refine jZ (aoa (W:=λw'=>φ w w') V hx.bE ?c19) ?_;case c19=>refine(acn (ϊ _) (l8 hx.ex) VB).mono ?_;rintro e w' ⟨rfl,hb⟩;exact⟨by rw[ae8],hb⟩
 rintro a w1 ⟨V,hb⟩;replace hx:=hx.grown hb;replace kZ:=fP kZ hb;replace iC:=fP iC hb;replace nO:=fP nO hb;replace OO:=fP OO hb;clear hb;refine jZ (aob V hx.lC kZ iC nO OO) ?_;rintro a w2 ⟨V,hb⟩;replace hx:=hx.grown hb;clear hb kZ iC nO OO;refine jZ (aoc (W:=λAp np cp Ab nb cb At nt ct w'=>aQ w' w'.heap.size (fH bg hJ) (.slice Ap np cp) (.slice Ab nb cb) (.slice At nt ct)/\φ w2 w') V hx.bE ?c21) ?_;case c21=>refine(aid (x:=hJ) (kv:=E H 0 0) (ϊ _) (l8 hx.ex) (by show PT.size<=maxLen;decide) Row.nil zi ae6).mono ?_;rintro e w' ⟨fE,gH,ez,rfl,ah,hb⟩;obtain⟨Ap,np,cp,rfl⟩:=JR ah.pieces;obtain⟨Ab,nb,cb,rfl⟩:=JR ah.aC;obtain⟨At,nt,ct,rfl⟩:=JR ah.aI;exact⟨Ap,np,cp,Ab,nb,cb,At,nt,ct,rfl,ah,hb⟩
 rintro a w3 ⟨Ap,np,cp,Ab,nb,cb,At,nt,ct,ss,⟨ah,hb⟩,V,rfl⟩;have an:φ w2 (ss.alloc (Ξ #[Y I 1,.slice Ap np cp,.slice Ab nb cb,.slice At nt ct] 26)):=hb.alloc hb.size _;replace hx:=hx.grown an;have pG:φ ss (ss.alloc (Ξ #[Y I 1,.slice Ap np cp,.slice Ab nb cb,.slice At nt ct] 26)):=(û _ _).alloc (ϊ _) _;have ahf:=ah.still (Δ.aJ pG (ϊ _));have hn:Bk (ss.alloc (Ξ #[Y I 1,.slice Ap np cp,.slice Ab nb cb,.slice At nt ct] 26)) ss.heap.size 26 #[Y I 1,.slice Ap np cp,.slice Ab nb cb,.slice At nt ct]:=Bk.new _ _ _;have aN:ss.heap.size<=(ss.alloc (Ξ #[Y I 1,.slice Ap np cp,.slice Ab nb cb,.slice At nt ct] 26)).heap.size:=pG.size;generalize (ss.alloc (Ξ #[Y I 1,.slice Ap np cp,.slice Ab nb cb,.slice At nt ct] 26))=w3 at *;refine jZ (aod (W:=λA n c w'=>cV w' (λk=>k=gE\/k=gt) 2 Cut.R (.slice A n c) nE/\φ w3 w') V hn ?c22) ?_
 case c22=>
  refine(Hq aN ahf (aal hm hx)).mono ?_;rintro e w' ⟨cv,mv,fv,rfl,eW,gU⟩;rw[ae7] at eW;obtain⟨ho,rfl,rfl⟩:=eW;obtain⟨A,k,c,rfl⟩:=iI ho;have h0:bT (fH bg hJ) 0=0:=by decide+kernel
  exact⟨A,k,c,by rw[h0],cV.tt (xs:=nE) ho (λ_=>rfl) (λ_ _=>rfl) (λk hk=>by
   rcases hk with rfl|rfl
   ·exact hx.bE.lt
   ·exact hx.ex.t.lt),gU⟩
 rintro a w4 ⟨aax,al3,ac3,V,iC,hb⟩;replace hx:=hx.grown hb;clear hb;refine jZ (aoe V hx iC) ?_;rintro a w5 ⟨At',nt',ct',V,hbE,ahg,T⟩;refine jZ (aof (W:=λA n c w'=>Row w' w'.heap.size 1 bI (.slice A n c) [0,1,2]/\φ w5 w') V hbE ?c24) ?_;case c24=>refine(ady (ϊ _) ahg afu).mono ?_;rintro e w' ⟨v,rfl,dE,hb⟩;rw[afa] at dE;obtain⟨A,n,c,rfl⟩:=JR dE;exact⟨A,n,c,rfl,dE,hb⟩
 rintro a w6 ⟨qO,n35,jO,V,IY,hb⟩;exact⟨_,_,_,qO,n35,jO,V,fP T hb,IY⟩
end
end Go.Jn
namespace Go.Jn
open Go Go.Proofs Go.Sim Go.Conc Go.Tw
def nZ:Array Oper:=opsOf Kb
def apJ:∃id,Kb=.region id nZ U:=⟨_,rfl⟩
def n18:nZ.size=7:=by decide+kernel
def amt:∃o,nZ[0]?=J o/\o.op=.load 26 (.tmp 1)/\o.dst=J 197/\o.guard=H/\k8 ϋ G0 o=D:=by
 have h:k8 ϋ G0 (nZ[0]'(by rw[n18];omega))=D:=by decide+kernel
 exact⟨_,rfl,rfl,rfl,rfl,h⟩
def XI:∃o,nZ[1]?=J o/\o.op=.call {callee:=.value (.func 38),args:=#[.tmp 197],argTypes:=#[26]}/\o.dst=J 198/\o.guard=H:=⟨_,rfl,rfl,rfl,rfl⟩
def amu:∃o,nZ[2]?=J o/\o.op=.move (.tmp 198)/\o.dst=J 196/\o.guard=H:=⟨_,rfl,rfl,rfl,rfl⟩
def amv:∃o,nZ[3]?=J o/\o.op=.extract (.tmp 196) 0/\o.dst=J 199/\o.guard=H:=⟨_,rfl,rfl,rfl,rfl⟩
def amw:∃o,nZ[4]?=J o/\o.op=.extract (.tmp 196) 1/\o.dst=J 200/\o.guard=H:=⟨_,rfl,rfl,rfl,rfl⟩
def amx:∃o,nZ[5]?=J o/\o.op=.assign (.tmp 199)/\o.dst=J 31/\o.guard=H:=⟨_,rfl,rfl,rfl,rfl⟩
def amy:∃o,nZ[6]?=J o/\o.op=.assign (.tmp 200)/\o.dst=J 15/\o.guard=H:=⟨_,rfl,rfl,rfl,rfl⟩
def ahQ:wF nZ 349 1 197 198 196 199 200 31 15:=⟨n18,amt,XI,amu,amv,amw,amx,amy,by decide⟩
def om(w:N):N:={w with heap:=#[.cells #[.func (.func 234) #[] #[],.func (.func 236) #[] #[]] 146 (0,2)]}
def r0:Ren:=λa b=>a=0/\b=0
def Uu(Z:Ren)(f:FuncId):aj Z (.func (.func f) #[] #[]) (.func (.func f) #[] #[]):=.func (.func f) rfl (λi hi _=>absurd hi (by simp)) rfl (λi hi _=>absurd hi (by simp))
def aqO{C:bX}(h:sD w):cg C r0 (om w) w:=by
 obtain⟨fr,h⟩:=h;refine⟨?_,?_,?_,?_,?_⟩
 ·rintro a b ⟨rfl,rfl⟩;simp[om]
 ·rintro a b ⟨rfl,rfl⟩;exact(Ϝ.1 h).1
 ·rintro a b b' ⟨rfl,rfl⟩ ⟨_,rfl⟩;rfl
 ·rintro a a' b ⟨rfl,rfl⟩ ⟨rfl,_⟩;rfl
 ·rintro a b o ⟨rfl,rfl⟩ ho;have e:o=.cells #[.func (.func 234) #[] #[],.func (.func 236) #[] #[]] 146 (0,2):=by simpa [om] using ho.symm
  subst e;refine⟨_,h,.cells 146 ⟨rfl,λi h1 h2=>?_⟩ (.inr ⟨rfl,ϊ _⟩)⟩
  match i,h1,h2 with
  |0,_,_=>exact Uu _ _
  |1,_,_=>exact Uu _ _
  |i+2,h1,_=>exact absurd h1 (by simp)
def aqP:bO (om w).heap:=by
 intro o ho hb;have e:o=.cells #[.func (.func 234) #[] #[],.func (.func 236) #[] #[]] 146 (0,2):=by simpa [om] using ho
 subst e;exact hb
def Ra(hr:Tape):gF (bq (om w) hr):=⟨(0,2),rfl⟩
def Q9(b:Nat):ot r0 (om w) b:=by rintro a ⟨rfl,_⟩;exact⟨_,rfl,rfl,ϊ _⟩
def afw{S:Nat->Prop}{base:Nat}(h:yQ W base gp gb gk gt gl):GF S W W.heap.size bg (E (J ⟨gp,0,H⟩) 3 3) (E (J ⟨gb,0,H⟩) 2 2) (E (J ⟨gt,0,H⟩) 1 1):=by
 letI:=jC
 have sv:∀(g n c:Nat),n≠0->Sv S (E (J ⟨g,0,H⟩) n c):=λg n c hn A n' c' e h0=>by injection e with _ e2 _;omega
 refine⟨(l8 h).pieces,?_,?_,sv _ _ _ (by omega),sv _ _ _ (by omega),sv _ _ _ (by omega)⟩
 ·have:=za (xs:=BM gk) (sz:=3) (f:=fc) (R:=λp cs=>cs=fc p) h.b (by show 2<=1000;decide) (λ_=>rfl) (λ_ _=>rfl) rfl;refine tD (ps:=BM gk) this (λp hm cs hc=>?_);subst hc;simp only[BM,Ϡ,Á,or_false] at hm;rcases hm with rfl|rfl
  ·refine⟨⟨_,rfl,(by show uS.name.size<=maxLen;decide),Mm [⟨3,3⟩] (by decide) h.k rfl⟩,λu hu=>?_⟩;simp only[fc,Ϡ,Á,or_false] at hu;rcases hu with rfl|rfl|rfl
   ·intro A n c e;cases e
   ·intro A n c e;cases e
   ·exact sv _ _ _ (by omega)
  ·refine⟨⟨_,rfl,by decide,Row.nil⟩,λu hu=>?_⟩;simp only[fc,Ϡ,Á,or_false] at hu;rcases hu with rfl|rfl|rfl<;>(intro A n c e;cases e)
 ·have:=za (xs:=[((⟨[0,2],⟨7,7⟩⟩:Tw.Tape),Value.slice (J ⟨gl,0,H⟩) 2 2)]) (sz:=3) (f:=cE) (R:=λp cs=>cs=cE p) h.t (by show 1<=1000;decide) (λ_=>rfl) (λ_ _=>rfl) rfl;refine tD this (λp hm cs hc=>?_);subst hc;simp only[Ϡ,Á,or_false] at hm;subst hm;refine⟨⟨_,rfl,sJ [0,2] (by decide) h.l rfl⟩,λu hu=>?_⟩;simp only[cE,Ϡ,Á,or_false] at hu;rcases hu with rfl|rfl|rfl
  ·exact sv _ _ _ (by omega)
  ·intro A n c e;cases e
  ·intro A n c e;cases e
abbrev MU(gp gb gt:Nat):z:=η #[.int .i64 1,E (J ⟨gp,0,H⟩) 3 3,E (J ⟨gb,0,H⟩) 2 2,E (J ⟨gt,0,H⟩) 1 1]
def adC:∀c∈ [yB,yC,yD,yE,tN,yF],C0.clean c:=by
 have h: [yB,yC,yD,yE,tN,yF].all (cC ϋ G0)=D:=by decide+kernel
 intro c hc;exact Ħ.1 h c hc
def adD:C0.clean yJ:=by
 have h:cC ϋ G0 yJ=D:=by decide+kernel
 exact h
def anE:Tryz.f21.results=#[.tmp 0]:=rfl
def afl:KU bg=[0,1]:=by decide+kernel
def afA(h:j6 w0 w gE gp gb gk gt gl gc g3)(hr:Tape):j6 (bq w0 hr) (bq w hr) gE gp gb gk gt gl gc g3:=
 ⟨⟨h.ex.p,h.ex.b,h.ex.k,h.ex.t,h.ex.l,h.ex.hp,h.ex.hb,h.ex.hk,h.ex.ht,h.ex.hl⟩,h.bE,h.bc,h.b3,⟨h.below.os,rfl,h.below.output,h.below.size,h.below.block⟩,h.lE⟩
def afK(h:FD w0 a w)(hr:Tape):FD (bq w0 hr) a (bq w hr):=by obtain⟨gE,gp,gb,gk,gt,gl,gc,g3,dF,n22,c22,ae,n25,cw,eG,n28,eI,jI,n31,jN,V,hx,h1,h2,h3,h4⟩:=h;exact⟨gE,gp,gb,gk,gt,gl,gc,g3,dF,n22,c22,ae,n25,cw,eG,n28,eI,jI,n31,jN,V,afA hx hr,h1,h2,h3,h4⟩
def apj{base:Nat}{arg:z}(hm:gF wl)(hx:yQ wl base gp gb gk gt gl)(ha:aj Z (MU gp gb gt) arg)(hW:cg C0 Z wl w)(hg:Z 0 0):
 KI bg (yl Z (gY Z wl w)) (rG Z wl w) (E (J ⟨gp,0,H⟩) 3 3) (E (J ⟨gb,0,H⟩) 2 2) (E (J ⟨gt,0,H⟩) 1 1) wl.heap.size arg w:=by
 letI:=jC
 obtain⟨a',b',c',d',rfl,r1,r2,r3,r4⟩:=aca ha;obtain⟨ah,p1,p2,p3⟩:=agd hW (afw (S:=gY Z wl w) hx) ⟨_,r2⟩ ⟨_,r3⟩ ⟨_,r4⟩;have Ii:gY Z wl w 0:=Yb hW (p:=⟨0,0,H⟩) (hm.cell 0) hg;refine⟨agf hW,⟨hg,Ii⟩,agh,λa q h=>?_,Nat.le_of_eq Us.symm,ah,?_⟩
 ·obtain⟨o1,k1,b1,c,c',e,fr,ba,u,h1,h2,h3,h4,h5,h6,rfl⟩:=M7 h.2;exact⟨_,k1,rfl,ϊ _⟩
 ·refine .agg rfl λi h1 h2=>?_
  match i,h1,h2 with
  |0,_,_=>exact Pv.rel r1 trivial
  |1,_,_=>exact Pv.rel r2 p1
  |2,_,_=>exact Pv.rel r3 p2
  |3,_,_=>exact Pv.rel r4 p3
  |i+4,h1,_=>exact absurd h1 (by simp)
def ahS{a:Nat}(h: [a,c,m,e0,e1,d0,d1].contains i=U):(ib u a c m e0 e1 d0 d1 x ov s)[i]?=u[i]?:=by
 have h:¬i∈ [a,c,m,e0,e1,d0,d1]:=by simpa using h
 simp only[Ϡ,Á,or_false,not_or] at h;obtain⟨h1,h2,h3,h4,h5,h6,h7⟩:=h;unfold ib;rw[bP (Ne.symm h7),bP (Ne.symm h6),bP (Ne.symm h5),bP (Ne.symm h4),bP (Ne.symm h3),bP (Ne.symm h2),bP (Ne.symm h1)]
def ahR{a:Nat}(h:d1≠d0)(hd:d0<u.size):(ib u a c m e0 e1 d0 d1 x ov s)[d0]?=J ov:=by unfold ib;exact(bP h).trans (eX (by simpa using hd))
def ahX{a:Nat}(hd:d1<u.size):(ib u a c m e0 e1 d0 d1 x ov s)[d1]?=J s:=by unfold ib;exact eX (by simpa using hd)
def agN{m0:Machine}{t0:Trace}{σ:Ren}{f r:Nat}{fn:Func}{c:Code}{fr:Frame}{cs:List Frame}(hc:C0.clean c)(h:sL m0 t0 W σ f (fr::cs) c Z u wl)
 (hf:ϋ.funcs[f]?=J fn)(T:fn.results=#[.tmp r]){b:Bool}(hl:∀hr,c.wp (@Tw.prog jC) (λe a _=>e=.ret/\a.defers=[cQ]/\a.tmps[r]?=J (.bool b)) ⟨u,[cQ]⟩ (bq wl hr)):
 ∃Ψ gs w sl tr q,runNT ϋ Ψ m0 t0=(.next (crowd gs w sl),tr)/\Fr ϋ gs w tr q (aT (fr.finish (.bool b)) cs)/\Base W w/\∀b,b<W.heap.size->w.heap[b]?=W.heap[b]?:=by
 obtain⟨Ψ,gs,w,sl,tr,q,t,bh,hF,ht,ν⟩:=h;obtain⟨N1,UE,M1,g1,w1,Qx,vH,q1,r1,-,⟨rfl,hB,hk⟩,mL⟩:=DK (Stop:=λ_ g w'=>g=aT (fr.finish (.bool b)) cs/\Base W w'/\∀b,b<W.heap.size->w'.heap[b]?=W.heap[b]?)
  (piece (S:=⟨.skip,[],[],fr::cs,.normal⟩) (c:=c) hc (a:=⟨u,[cQ]⟩) rfl rfl (QL:=λe a _=>e=.ret/\a.defers=[cQ]/\a.tmps[r]?=J (.bool b)) (λhr=>Code.wp_mono (λe a w h=>⟨.inr h.1,h⟩) (hl hr)) ν.core ν.iy (Bu ν.core) (λb hb=>ly.1 hb) ν.nb ht (by
    rintro e arj sR ry Dj Ki atu ⟨rfl,gh,h0⟩ th ar4 zS VM xx iW ht3;refine⟨λh=>(by cases h),λ_ tW D' hD=>?_⟩;rw[gh] at hD;have hD:=zh hD;subst hD;obtain⟨v',Fi,xU⟩:=JO ht3 h0;cases xU;have e0:Ki.getD r L=.bool b:=cT Fi;refine lL rfl (g':=aT (fr.finish (.bool b)) cs) (λRg=>?_) (.stop λRg hk=>?_)
    ·have e:unwind ϋ D ⟨f,Ki,tW,[],.returning,.normal,H⟩ (fr::cs) H Rg=.go (aT (fr.finish (.bool b)) cs) Rg #[]:=by
        unfold unwind;simp only[hf,results1 T,vR,GStep.after,doReturn,e0];rfl
     exact e
    ·have H2:=ν.AK th ar4 zS iW hk;exact⟨rfl,H2.base,H2.kept⟩)) gs sl tr q hF (λb hb=>ly.1 hb)
 exact⟨Ψ+N1,UE,w1,Qx,vH,q1,vO _ _ _ bh r1,mL,hB,hk⟩
def aoC:DC:=by
 letI:=jC
 intro gs w t q x fr cs sl hx hM hF;rw[OE Tryz.func21 acs x .normal] at hF;have V:(x++ϱ (Tryz.f21.ntmps - x.size) L).size=349:=by rw[Array.size_append,Array.size_replicate,show Tryz.f21.ntmps=349 from rfl];omega
 generalize (x++ϱ (Tryz.f21.ntmps - x.size) L)=t' at V hF;obtain⟨u,hu⟩:=MV r0 t';obtain⟨y,rfl,_⟩:=Xj u (hu.1.trans V);have M0:sL (crowd gs w sl) t w r0 21 (fr::cs) (chain [vV,vW,vX,tO,tP,tQ,tR,tS,tT,tU,tF,tG,tH,tI,tJ,tK,tL,tM] (.seq Kb (chain [yB,yC,yD,yE,tN,yF] yJ))) r0 (lit y).toArray (om w):=
  ⟨0,gs,w,sl,t,q,t',rfl,hF,hu,aqO hM,⟨rfl,rfl⟩,aqP,λb _=>Q9 b,λ_ _=>rfl,G7 w,Ren.le_refl _⟩
 obtain⟨cF,u1,mn,⟨hr,hf⟩,M1⟩:=Jb adB M0 (Q:=λu aa=>∃hr,FC (bq (om w) hr) ⟨u,[cQ]⟩ aa) (λhr=>Gq (ju:=[]) (λa aa hf=>by
  obtain⟨_,_,_,_,_,_,_,_,_,_,_,_,_,_,_,_,_,xR,_⟩:=_root_.id hf;obtain⟨tm,θ⟩:=a;obtain rfl:θ=_:=xR.1;exact⟨rfl,rfl,hr,hf⟩) _ (aov (Ra hr) (aoA _ y)))
 obtain⟨gE,gp,gb,gk,gt,gl,gc,g3,dF,n22,c22,ae,n25,cw,eG,n28,eI,xR,hex,kZ,iC,nO⟩:=hf;obtain⟨id,e18⟩:=apJ;rw[e18] at M1;have hm:gF mn:=(Ra (w:=w) hr).below hex.below (by simp[om,bq])
 obtain⟨bQ,gQ,T2,ol,M2,aH,rO⟩:=P9 ahQ M1 xR.2.1 (xR.2.2 (1,_) (by simp)) (b:=bg) hex.bE (λZ T' w' v' ν hv=>⟨_,_,_,_,_,_,apj (wl:=bq mn T') hm (afA hex T').ex hv ν.core ν.iy⟩);have ag:bT bg 0=0:=VB;rw[je,if_pos ag,afl] at aH;rw[ag] at M2;obtain⟨jI,n31,jN,rfl⟩:=iI aH;have hFD:FD (bq (om w) T2) ⟨ib u1 197 198 196 199 200 31 15 (MU gp gb gt) (.slice jI n31 jN) (.int .i64 0),[cQ]⟩ gQ:=by
  have di:u1.size=349:=xR.2.1;refine⟨gE,gp,gb,gk,gt,gl,gc,g3,dF,n22,c22,ae,n25,cw,eG,n28,eI,jI,n31,jN,⟨rfl,by unfold ib;simp[di],λp hp=>?_⟩,(afA hex T2).grown rO,fP (w:=bq mn T2) kZ rO,fP (w:=bq mn T2) iC rO,fP (w:=bq mn T2) nO rO,CF (l:=[0,1]) aH⟩;have BS:(ib u1 197 198 196 199 200 31 15 (MU gp gb gt) (.slice jI n31 jN) (.int .i64 0))[31]?=J (.slice jI n31 jN):=ahR (by omega) (by simp[di]);have MJ:(ib u1 197 198 196 199 200 31 15 (MU gp gb gt) (.slice jI n31 jN) (.int .i64 0))[15]?=J (.int .i64 0):=ahX (by simp[di]);have old:∀(i:Nat) (v:z),[197,198,196,199,200,31,15].contains i=U->u1[i]?=J v->(ib u1 197 198 196 199 200 31 15 (MU gp gb gt) (.slice jI n31 jN) (.int .i64 0))[i]?=J v:=λi v hc h=>(ahS hc).trans h;generalize ib u1 197 198 196 199 200 31 15 (MU gp gb gt) (.slice jI n31 jN) (.int .i64 0)=χ at BS MJ old |-;simp only[Ϡ,Á,or_false] at hp;rcases hp with rfl|rfl|rfl|rfl|rfl|rfl|rfl|rfl|rfl|rfl|rfl|rfl|rfl|rfl|rfl|rfl|rfl|rfl|rfl|rfl|rfl|rfl;all_goals first
   |exact old _ _ rfl (xR.2.2 (_,_) (by simp))
   |exact BS
   |exact MJ
 obtain⟨eA,u3,Rb,hFE,M3⟩:=Jb adC M2 (Q:=λu aa=>FE ⟨u,[cQ]⟩ aa) (λT'=>Gq (ju:=[]) (λa aa hf=>by
  obtain⟨_,_,_,_,_,_,xR,_⟩:=_root_.id hf;obtain⟨tm,θ⟩:=a;obtain rfl:θ=_:=xR.1;exact⟨rfl,rfl,hf⟩) _ (aoz (w0:=bq (om w) T') (Ra T') (afK hFD T')))
 obtain⟨aax,al3,ac3,qO,n35,jO,acg,aiw,aiy⟩:=hFE;obtain⟨Ψ,UE,w1,Qx,vH,q1,bh,mL,hB,hk⟩:=agN adD M3 Tryz.func21 anE (b:=D) (λT'=>Code.wp_mono (λe a w h=>⟨h.1,h.2.1,h.2.2.2.1⟩) (aog acg (w:=bq Rb T') aiw aiy));exact⟨Ψ,UE,w1,Qx,vH,q1,bh,mL,hB,hk⟩
end Go.Jn
namespace Go.Jn
open Go Go.Proofs Go.Conc
open YtfifdjajcogccaaGreatDoor
def arG:joinedFacts ϋ 4 Tryz.f4 Rows.mouldBestSpec Rows.mouldBestRow=D:=by unfold joinedFacts;exact fA (fA (fA (fA (fA (fA (fA (fA (fA (fA (fA (fA (fA (fA (fA (fA (fA (fA (fA (fA (fA (fA (fA (fA (fA (fA (fA (fA (fA (fA (fA arN alW) alX) asn) asq) asu) al0) asE) al1) asH) arO) arP) arQ) arR) arS) arT) arU) arV) arX) ar0) ar1) ar6) ar9) asb) alY) alZ) asd) asf) (by kernel_rfl)) asl) aso) asp
def ai0(An:DC):Rows.MouldBestSaid:=
 OpenClaim.holds_of_wide_leaving 4 Tryz.f4 rfl rfl rfl rfl rfl rfl rfl ⟨rfl,rfl,rfl,rfl,rfl⟩ rfl rfl rfl rfl rfl (by kernel_rfl) Tryz.func4 arG
  (of_decide_eq_true (by kernel_rfl)) (by unfold Func.isWrapper;first| (rw[if_pos (by decide+kernel)];kernel_rfl) | (rw[if_neg (by decide+kernel)];exact⟨rfl,rfl⟩))
  (λos started ν enc _=>aiX An os started ν enc)
def arM:Rows.mouldBestRow.wfByText (OpenSpec.ofChange Rows.mouldBestSpec)=D:=by kernel_rfl
def arH:D=Rows.mouldBestRow.goesBy Tryz.pinned.checked.prog:=by kernel_rfl
def arI:ϋ.funcNamed Rows.mouldBestRow.func=J 4:=by kernel_rfl
def arL:Tryz.f4.params=#[26]:=by kernel_rfl
def asU:([26].all λu=> !ϋ.wantsStandIn u)=D:=by kernel_rfl
def atz:ϋ.laidByTextLater Rows.mouldBestRow.laid [.funcs] D:=aoH
def aiU(h:Rows.MouldBestSaid):Rows.MouldBestCardSaid:=
 apU .later [.funcs] D (D,"8b4c60804a89a2dc1775d2d899c432f4b3d9a7cd22d2b16114beb87ecc832d7f") U h arM (OpenClaim.laidByTextAt_later rfl rfl atz amY) rfl ⟨rfl,rfl⟩ ak8 rfl
  (λf fn hf ED=>by
    obtain rfl:f=4:=(Option.some.inj (arI.symm.trans hf)).symm;obtain rfl:fn=Tryz.f4:=(Option.some.inj (Tryz.func4.symm.trans ED)).symm;refine⟨amq,λj t ht=>?_⟩;rw[arL] at ht;have hm:t∈ [26]:=by have:= Array.mem_of_getElem? ht;simp at this;simp[this]
    have:=Ħ.1 asU t hm;exact(show ϋ.wantsStandIn t=U by simpa using this)) arH
end Go.Jn
namespace Go.Proofs.YtfifdjajcogccaaGreatDoor
theorem mouldBest_holds:Rows.MouldBestCardSaid:=Go.Jn.aiU (Go.Jn.ai0 Go.Jn.aoC)
end Go.Proofs.YtfifdjajcogccaaGreatDoor
end
