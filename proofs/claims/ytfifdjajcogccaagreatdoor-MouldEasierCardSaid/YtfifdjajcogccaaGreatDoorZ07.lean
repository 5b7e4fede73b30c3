/- An eased book never makes it harder: MouldEasier returns true for every book, choice and board. Conditions: the card's own (mould.measures is as the program's text lays it). -/
import Derived.Test.YtfifdjajcogccaaGreatDoorZ06
import Derived.Test.YtfifdjajcogccaaGreatDoorZ05
import Derived.Test.YtfifdjajcogccaaGreatDoorCards
import Derived.SevenTiedAt
import Derived.LaidOnce
set_option linter.all false
set_option maxHeartbeats 0
set_option maxRecDepth 400000
open Array renaming replicate -> Θ, getElem?_eq_some_iff -> Ϝ, size_setIfInBounds -> ć, getD_eq_getD_getElem? -> Õ, getElem?_ofFn -> Aj5, getElem?_setIfInBounds -> Ö, getElem?_eq_none_iff -> Akv, getElem?_eq_getElem -> è, getElem?_eq_none -> ý, getElem?_replicate -> Akw
open Go renaming Calls -> ύ, Goroutine -> ϐ, Code -> ϕ, wpList -> ü, wpAny -> æ, wpAny_take -> Aky, getD_set_ne -> Akz
open Go.Act renaming put -> Ϧ
open Go.IntKind renaming i64 -> Ϙ
open Go.Proofs.Tryz renaming prog -> ϋ
open Go.Region renaming ready -> É, wanted -> ε
open Go.RowKit.Below renaming refl -> à, alloc -> Ak1, trans -> Ak2
open Go.Value renaming int -> ϛ
open Go.World renaming cell?_setCell_far -> Û, cell?_alloc_lt -> Ă
open List renaming setIfInBounds_toArray -> ϫ, set_cons_zero -> Ϭ, set_cons_succ -> ϧ, mem_cons -> ϥ, not_mem_nil -> Λ, eq_nil_of_length_eq_zero -> Ŏ, range -> ϸ, mem_range -> ű, all_eq_true -> ħ, take_succ_cons -> õ, drop_zero -> ø, drop_succ_cons -> û, take_zero -> ö
open Nat renaming le_refl -> ϊ, lt_of_lt_of_le -> Ϟ, le_trans -> ϡ
open Ne renaming symm -> Ã
open Option renaming getD_some -> À, map_some -> î
open Option.some renaming inj -> Ϡ, injEq -> ó
open Bool renaming true -> θ, false -> χ
open Go renaming Value -> υ, undef -> ω, World -> Ψ
open Go.Ending renaming returned -> Ω
open Go.IntKind renaming i64 -> κ
open Go.Lib renaming hid -> ψ
open Go.Obj renaming cells -> Ξ
open Go.RowKit renaming Below -> Γ, Below -> Γ
open Go.Value renaming slice -> ζ, pointer -> π, tuple -> μ, agg -> η, int -> ξ
open Option renaming some -> φ, none -> ν
variable{α:Type}{l:Array Bool}{ops:Array Go.Oper}{t cs t0:Array υ}{main:Bool}{a:Go.Act}{fr:Go.Frame}{fn:Go.Func}{o:Go.Oper}{P:Go.Program}{ρ σ:Go.Sim.Ren}{x:Go.Tw.bN}{b:Go.Tw.eR}{z:Int}{zs:List Int}{aD:List Nat}{gE gp gb gt gc g3 i gk gl n g n4 c4 n25 cw n22 c22 B d NR k np c nt n28 eI fuel g1 g2 h q NB cN cL n31 jN j e n16 c16 cp nb cb ct:Nat}{A4 cu dF eG:Option Go.Addr}{w w0 wl W w' wB w2 aa:Ψ}{v tv ov pv bv v' arg:υ}
noncomputable section
namespace Go.Jn
open Go Go.Proofs Go.Sim Go.Conc Go.Tw Go.RowKit
abbrev B9(W:Ψ)(g:Nat)(a b c d:υ):Prop:= W.cell? ⟨g,0,ν⟩=φ a/\ W.cell? ⟨g,1,ν⟩=φ b/\ W.cell? ⟨g,2,ν⟩=φ c/\ W.cell? ⟨g,3,ν⟩=φ d
def add_same(h0:cZ b=0)(hc:cZ (fH b x)=0){l:List Cut}(hl:mr b l):je (fH b x) l=je b l:=by
 letI:=jU
 have E:vx b (fH b x):=aaJ b x;have dM:mr (fH b x) l:=P9 E hl;unfold je;rw[QK hl,QK dM,Qu E h0 hc,P8 E];split
 ·rfl
 ·congr 2
  funext L;exact aih λc hc=>by
   obtain⟨⟨k,e,hk⟩,-⟩:=hl.2 c hc;exact⟨k,hk,e⟩
def aj4{PA A TA KA XA CA:Option Addr}{pc m tc kn kc xn xc cn cc:Nat}{cs:List Cut}{a0 a1 a2 a3:υ}{v n2:Int}{p2:Bool}{V:Ψ}(ah:aQ w B b (.slice PA np pc) (.slice A m c) (.slice TA nt tc))(Aw:x.name.size<=maxLen)(iZ:Row w B 2 Span.R (.slice XA xn xc) x.cM)(hB:B<=w.heap.size)(hM:gF w)(h0:cZ b=0)(ag:bT b 0=0)(Dq:mr b cs)
 (hV:S9 w b x PA np pc A m c TA nt tc XA xn xc V)(hg:w.heap.size+2<=g)(hG:Bk V g 26 #[a0,a1,a2,a3])(Nb:V.ownsRow 0 56 2 (.slice CA cn cc) b.pieces.length (cs.flatMap Cut.vs))(aw:∀k,(Value.slice CA cn cc).ownBlock=φ k->g≠k)(hW:Below V.heap.size V W):
 aav z9 w b x PA A TA KA XA CA np pc m c nt tc kn kc xn xc cn cc h q g (je b cs) v (yn b iH) n2 (yc b iH) p2 W:=by
 intro F1 F2 y1 z1 y2 z2 ug uh ui uj uk um uo uq ur uu uv uw ux uy uz Gt Gu Gv Gw Gx Gy ZI ZJ ZK ZL ZM ZN ZO ZP ZQ ZR ZS ZT ZU ZV ZW ZX ZY ZZ Z1 Z4 Z7 Z8 Z9 x70 x71 x72 x73 x74 x75 x76 x77 x78 x79 x80 x81 x82 x83 x84 x85 x86 x87 x88 x89 x90 x91 x92 x93 x94 x95 x96 x97 x98 x99 abr abt abu abv abw abx aby abz abA abX abY abZ ab0 ab1 ab2 ab3 ab4 ab5 ab6
 letI:=jU
 have bD:=ψ ah;have Sc:=ψ iZ;have ET:b.aC.length<=1000:=by have:=(fG h0).nb;omega
 obtain⟨W0,bY⟩:∃W0,W0=((w.alloc (Ξ #[ξ κ b.ab,.slice PA np pc,.slice A m c,.slice TA nt tc] 26)).alloc (Ξ #[.string x.name,ξ κ x.aL,.slice XA xn xc] 59)):=⟨_,rfl⟩
 have Z0:W0.heap.size=w.heap.size+2:=by rw[bY];simp
 have BW:Hid (Below w.heap.size w W0):=ψ (by rw[bY];exact((Below.refl _ _).alloc (ϊ _) _).alloc (by simp) _)
 have KB:Hid (Bk W0 w.heap.size 26 #[ξ κ b.ab,.slice PA np pc,.slice A m c,.slice TA nt tc]):=ψ (by rw[bY];exact(Bk.new _ _ _).alloc _)
 have KS:Hid (Bk W0 (w.heap.size+1) 59 #[.string x.name,ξ κ x.aL,.slice XA xn xc]):=ψ (by rw[bY];exact Bk.bZ (by simp) _ _)
 have HV:Hid (Below (w.heap.size+2) W0 V):=ψ (by rw[bY];exact hV)
 have zV:w.heap.size+2<=V.heap.size:=by have:=HV.e.size;omega
 have HW:=ψ hW;have zW:V.heap.size<=W.heap.size:=hW.size;have KG:Hid (Bk W g 26 #[a0,a1,a2,a3]):=ψ (hG.below hW hG.lt);have hgV:g<V.heap.size:=hG.lt;have kA:g<W.heap.size:=by omega
 have HCO:=ψ Nb;have O5:=ψ aw;have hlc:cs.length=b.pieces.length:=Dq.1;have ST:Hid (∀U,Below (w.heap.size+2) V U->Below w.heap.size w U/\V.heap.size<=U.heap.size):=ψ λU hU=>
  ⟨(BW.e.trans (HV.e.mono (by omega))).trans (hU.mono (by omega)),hU.size⟩
 have KX:Hid (∀U,Below (w.heap.size+2) V U->B9 U w.heap.size (ξ κ b.ab) (.slice PA np pc) (.slice A m c) (.slice TA nt tc)/\(U.cell? ⟨w.heap.size+1,0,ν⟩=φ (.string x.name)/\ U.cell? ⟨w.heap.size+1,1,ν⟩=φ (ξ κ x.aL)/\ U.cell? ⟨w.heap.size+1,2,ν⟩=φ (.slice XA xn xc))):=ψ λU hU=>by
  have k:=(KB.e.below HV.e (by omega)).below hU (by omega)
  have k':=(KS.e.below HV.e (by omega)).below hU (by omega)
  exact⟨⟨k.cell 0,k.cell 1,k.cell 2,k.cell 3⟩,k'.cell 0,k'.cell 1,k'.cell 2⟩
 have yT:=ψ hM;have C53:Hid (∀U,Below (w.heap.size+2) V U->ύ lp 53 #[η #[ξ κ b.ab,.slice PA np pc,.slice A m c,.slice TA nt tc],η #[.string x.name,ξ κ x.aL,.slice XA xn xc]] U λe w'=>yR (λk=>B<=k/\k<U.heap.size) U w' (BE b x) (cZ (fH b x)) e):=ψ λU hU=>by
  obtain⟨hb,hz⟩:=ST.e U hU;have st:=Δ.aJ hb hB;exact aaI (B:=B) (by omega) (bD.e.still st) Aw (Sc.e.still st λ_ _ h=>h) h0
 have C55:Hid (∀U,Below (w.heap.size+2) V U->ύ lp 55 #[η #[ξ κ b.ab,.slice PA np pc,.slice A m c,.slice TA nt tc],η #[.string x.name,ξ κ x.aL,.slice XA xn xc]] U λe w'=>∃T n z,e=Ω (η #[ξ κ b.ab,.slice PA np pc,.slice T n z,.slice TA nt tc])/\aQ w' w'.heap.size (fH b x) (.slice PA np pc) (.slice T n z) (.slice TA nt tc)/\Below U.heap.size U w'):=ψ λU hU=>by
  obtain⟨hb,hz⟩:=ST.e U hU;have st:=Δ.aJ hb hB;refine(ail (B:=B) (by omega) (bD.e.still st) Aw (Sc.e.still st λ_ _ h=>h) ET).mono ?_
  rintro e w' ⟨gH,rfl,kU,dv⟩;obtain⟨T,n,z,rfl,-⟩:=kU.aC.Φ;exact⟨T,n,z,rfl,kU,dv⟩
 obtain⟨⟨g0,g1,g2,g3⟩,l0,l1,l2⟩:=KX.e W (HW.e.mono (by omega))
 have hwl:w.heap.size<W.heap.size:=by omega
 have asO:w.heap.size+1<W.heap.size:=by omega
 have H00:Hid (Below (w.heap.size+2) V W):=ψ (HW.e.mono (by omega))
 unfold z9 T9 c9;simp only[Tryz.f9,À,bp,aS];obtain⟨R,hR⟩:∃R,R=BE b x:=⟨_,rfl⟩
 obtain⟨sw,Sy⟩:∃s,s=R.ab:=⟨_,rfl⟩
 obtain⟨z,hz⟩:∃z,z=cZ (fH b x):=⟨_,rfl⟩
 have agw:Hid (∀U,Below (w.heap.size+2) V U->ύ lp 53 #[η #[ξ κ b.ab,.slice PA np pc,.slice A m c,.slice TA nt tc],η #[.string x.name,ξ κ x.aL,.slice XA xn xc]] U λe w'=>∃P4 k4 q4 A4 m4 r4 T4 n4 s4,e=Ω (μ #[η #[ξ κ sw,.slice P4 k4 q4,.slice A4 m4 r4,.slice T4 n4 s4],ξ κ z])/\
  (∀X,oy (λk=>B<=k/\k<U.heap.size) w' X->aQ X X.heap.size R (.slice P4 k4 q4) (.slice A4 m4 r4) (.slice T4 n4 s4))/\Below U.heap.size U w'):=ψ λU hU=>by
  have:=C53.e U hU;rw[<-hR,<-hz] at this;rw[Sy];exact this
 clear C53;go_wp2
 go_at_call 53
 refine(agw.e W H00.e).mono ?_
 rintro e w5 ⟨P4,k4,q4,A4,m4,r4,T4,n4,s4,rfl,oM,dB⟩;have z5:W.heap.size<=w5.heap.size:=dB.size;have jM:=KG.e.below dB kA;have fS:Hid (Below V.heap.size V w5):=ψ (HW.e.trans (dB.mono HW.e.size));obtain⟨W6,ib⟩:∃W6,W6=(((w5.setCell ⟨g,0,ν⟩ (ξ κ sw)).setCell ⟨g,1,ν⟩ (.slice P4 k4 q4)).setCell ⟨g,2,ν⟩ (.slice A4 m4 r4)).setCell ⟨g,3,ν⟩ (.slice T4 n4 s4):=⟨_,rfl⟩
 have Z6:W6.heap.size=w5.heap.size:=by rw[ib];simp
 have KO:Hid (Bk W6 g 26 #[ξ κ sw,.slice P4 k4 q4,.slice A4 m4 r4,.slice T4 n4 s4]):=ψ (by
  rw[ib];have hz:=(((jM.set 0 (ξ κ sw)).set 1 (.slice P4 k4 q4)).set 2 (.slice A4 m4 r4)).set 3 (.slice T4 n4 s4);simpa using hz)
 have yS:Hid (aQ W6 W6.heap.size R (.slice P4 k4 q4) (.slice A4 m4 r4) (.slice T4 n4 s4)):=ψ (oM _ ⟨by omega,λy hy hn=>by
  have vw:g≠y.block:=λe=>hn ⟨by omega,by omega⟩
  rw[ib,Û _ _ _ _ vw,Û _ _ _ _ vw,Û _ _ _ _ vw,Û _ _ _ _ vw]⟩)
 have OO:Hid (Row W6 W6.heap.size 2 Cut.R (.slice CA cn cc) cs/\Below (w.heap.size+2) V W6):=ψ ⟨by
  rw[ib];exact mZ (l:=cs) (f:=Cut.vs) (by rw[hlc];exact mh (mh (mh (mh (si HCO.e (HW.e.trans (dB.mono HW.e.size)) (ϊ _)) O5.e) O5.e) O5.e) O5.e) (λ_=>rfl) (λ_ _=>rfl),by
  rw[ib];exact((((fS.e.mono (by omega)).setCell (by simp<;>omega) _).setCell (by simp<;>omega) _).setCell (by simp<;>omega) _).setCell (by simp<;>omega) _⟩
 have LU:=jM.cell 0;have LV:=jM.cell 1;have LY:=jM.cell 2;have LZ:=jM.cell 3;have f0:=jM.frozen 0;have f1:=jM.frozen 1;have f2:=jM.frozen 2;have f3:=jM.frozen 3;have hg5:g<w5.heap.size:=by omega
 have qe:=ψ ib;clear oM dB ib jM;clear g0 g1 g2 g3 l0 l1 l2;have KY:Hid (∀U,Below W6.heap.size W6 U->(B9 U w.heap.size (ξ κ b.ab) (.slice PA np pc) (.slice A m c) (.slice TA nt tc)/\(U.cell? ⟨w.heap.size+1,0,ν⟩=φ (.string x.name)/\ U.cell? ⟨w.heap.size+1,1,ν⟩=φ (ξ κ x.aL)/\ U.cell? ⟨w.heap.size+1,2,ν⟩=φ (.slice XA xn xc)))/\B9 U g (ξ κ sw) (.slice P4 k4 q4) (.slice A4 m4 r4) (.slice T4 n4 s4)/\Hid (Below W6.heap.size W6 U)):=ψ λU hU=>by
  have hz:=OO.e.2.size;have k1:=KX.e U (OO.e.2.trans (hU.mono (by omega)))
  have k3:=KO.e.below hU (by omega)
  exact⟨k1,⟨k3.cell 0,k3.cell 1,k3.cell 2,k3.cell 3⟩,ψ hU⟩
 obtain⟨⟨⟨g0,g1,g2,g3⟩,l0,l1,l2⟩,⟨o0,o1,o2,o3⟩,-⟩:=KY.e W6 (Below.refl _ _);have VW0:Hid (∀U,Below W6.heap.size W6 U->Below (w.heap.size+2) V U/\aQ U U.heap.size R (.slice P4 k4 q4) (.slice A4 m4 r4) (.slice T4 n4 s4)/\Row U U.heap.size 2 Cut.R (.slice CA cn cc) cs):=ψ λU hU=>⟨OO.e.2.trans (hU.mono (by have:=OO.e.2.size;omega)),zb (yS.e.still (Δ.aJ hU (ϊ _))) hU.size,asU OO.e.1 hU⟩
 have HBA:Hid (Below W6.heap.size W6 W6):=ψ (Below.refl _ _);have nK:g<W6.heap.size:=by omega
 by_cases hs:cZ (fH b x)=0
 ·have hr:R=fH b x:=by rw[hR];unfold BE;rw[if_pos hs]
  obtain rfl:sw=b.ab:=by rw[Sy,hr];rfl
  obtain rfl:z=0:=hz.trans hs;have VW:=VW0;rw[hr] at VW;have E:vx b (fH b x):=aaJ b x;have aak:bT (fH b x) 0=0:=by rw[Qu E h0 hs];exact ag
  have I1:je (fH b x) cs=je b cs:=add_same h0 hs Dq;have aa8:mr (fH b x) cs:=P9 E Dq;have FB:=aaO E h0 hs;obtain⟨u,hu⟩:∃u,u=je b cs:=⟨_,rfl⟩
  obtain⟨n1,qF⟩:∃n,n=yn b iH:=⟨_,rfl⟩
  obtain⟨n3,iW⟩:∃n,n=yn (fH b x) iH:=⟨_,rfl⟩
  obtain⟨p1,ej⟩:∃p,p=yc b iH:=⟨_,rfl⟩
  obtain⟨p3,iX⟩:∃p,p=yc (fH b x) iH:=⟨_,rfl⟩
  rw[<-qF,<-ej,<-iW,<-iX] at FB;rw[<-hu] at I1;rw[<-hu,<-qF,<-ej];have yK:Hid (∀U P4 k4 q4 A4 m4 r4 T4 n4 s4 T n z,aQ U U.heap.size (fH b x) (.slice P4 k4 q4) (.slice A4 m4 r4) (.slice T4 n4 s4)->aQ U U.heap.size (fH b x) (.slice PA np pc) (.slice T n z) (.slice TA nt tc)->ύ lp 54 #[η #[ξ κ b.ab,.slice P4 k4 q4,.slice A4 m4 r4,.slice T4 n4 s4],η #[ξ κ b.ab,.slice PA np pc,.slice T n z,.slice TA nt tc]] U λe w'=>e=Ω (.bool θ)/\Below U.heap.size U w'):=ψ λU P4 k4 q4 A4 m4 r4 T4 n4 s4 T n z hb dv=>JV (b:=fH b x) hb dv (ϊ _)
  have C33:Hid (∀U P4 k4 q4 A4 m4 r4 T4 n4 s4,Below (w.heap.size+2) V U->aQ U U.heap.size (fH b x) (.slice P4 k4 q4) (.slice A4 m4 r4) (.slice T4 n4 s4)->ύ lp 33 #[η #[ξ κ b.ab,.slice P4 k4 q4,.slice A4 m4 r4,.slice T4 n4 s4]] U λe w'=>∃F y z,e=Ω (μ #[.slice F y z,ξ κ n3,.bool p3,ξ κ 0])/\Below U.heap.size U w'):=ψ λU P4 k4 q4 A4 m4 r4 T4 n4 s4 hU hb=>by
   have mO:=(ST.e U hU).1;have:=aah (b:=fH b x) (ϊ _) hb (yT.e.below mO yT.e.lt);rw[<-iW,<-iX,aak] at this;exact this
  have Rt:Hid (∀U P4 k4 q4 A4 m4 r4 T4 n4 s4,aQ U U.heap.size (fH b x) (.slice P4 k4 q4) (.slice A4 m4 r4) (.slice T4 n4 s4)->Row U U.heap.size 2 Cut.R (.slice CA cn cc) cs->ύ lp 28 #[η #[ξ κ b.ab,.slice P4 k4 q4,.slice A4 m4 r4,.slice T4 n4 s4],.slice CA cn cc] U λe w'=>e=Ω (μ #[ξ κ u,ξ κ 0])/\Below U.heap.size U w'):=ψ λU P4 k4 q4 A4 m4 r4 T4 n4 s4 hb hr=>by
   have:=aaf (b:=fH b x) (ϊ _) hb hr aa8;rw[I1,aak] at this;exact this
  clear hs hr aak I1 aa8 hu qF iW ej iX h0 ET ah iZ hV bY hM hG Nb aw ag Dq hW VW0 hR Sy hz;go_wp2;rw[<-qe.e];clear qe LU LV LY LZ f0 f1 f2 f3
  go_at_call 33
  refine(C33.e _ _ _ _ _ _ _ _ _ _ (VW.e _ HBA.e).1 (VW.e _ HBA.e).2.1).mono ?_
  rintro e w7 ⟨F3,y3,z3,rfl,oH⟩;have H7:=ψ oH;clear g0 g1 g2 g3 l0 l1 l2 o0 o1 o2 o3;obtain⟨⟨⟨g0,g1,g2,g3⟩,l0,l1,l2⟩,⟨o0,o1,o2,o3⟩,-⟩:=KY.e w7 oH;have hg7:g<w7.heap.size:=by have:=oH.size;omega
  clear oH;go_wp2
  go_at_call 28
  refine(Rt.e _ _ _ _ _ _ _ _ _ _ (VW.e _ H7.e).2.1 (VW.e _ H7.e).2.2).mono ?_
  rintro e w8 ⟨rfl,pF⟩;have aai:=H7.e.trans (pF.mono H7.e.size);have lx:Hid (Below W6.heap.size W6 w8.drew):=ψ (dT aai);clear g0 g1 g2 g3 l0 l1 l2 o0 o1 o2 o3;obtain⟨⟨⟨g0,g1,g2,g3⟩,l0,l1,l2⟩,⟨o0,o1,o2,o3⟩,-⟩:=KY.e w8 aai;clear pF aai;go_wp2;refine Sg (S:=(λU=>(B9 U w.heap.size (ξ κ b.ab) (.slice PA np pc) (.slice A m c) (.slice TA nt tc)/\(U.cell? ⟨w.heap.size+1,0,ν⟩=φ (.string x.name)/\ U.cell? ⟨w.heap.size+1,1,ν⟩=φ (ξ κ x.aL)/\ U.cell? ⟨w.heap.size+1,2,ν⟩=φ (.slice XA xn xc)))/\B9 U g (ξ κ b.ab) (.slice P4 k4 q4) (.slice A4 m4 r4) (.slice T4 n4 s4)/\Hid (Below W6.heap.size W6 U))) 34 rfl (by kernel_rfl) ?_ (λxB=>?_)
  ·exact KY.e _ lx.e
  refine Wf [0,1,2,3,4,5,6,7,8,9] [9,8,7,6,5,4,3,2,1,0] 24 rfl (by kernel_rfl) rfl xB ?_
  iterate 10
   apply o5 146 rfl (by kernel_rfl) (by kernel_rfl)
   ·intro W hW
    try dsimp only[B9] at hW
    go_simp;all_goals with_reducible rfl
   simp only[Ϧ,ϫ,Ϭ,ϧ]
  apply po;refine lV 10 rfl (by kernel_rfl) (by kernel_rfl) (λK Q hK=>?_)
  go_simp
  go_at_call 55
  refine(C55.e _ (VW.e _ lx.e).1).mono ?_
  rintro e w9 ⟨T9,n9,c9,rfl,hk9,jR⟩;have Ln:=ψ hk9;have nv:=ψ (lx.e.trans (jR.mono (show W6.heap.size<=w8.drew.heap.size from lx.e.size)))
  clear jR hk9
  try go_wp2_with fail
  refine hK.out _ _ ?_ (λEG=>?_)
  ·exact KY.e _ nv.e
  clear hK K Q xB
  try simp only[Ϧ,ϫ,Ϭ,ϧ]
  refine lV 11 rfl (by kernel_rfl) (by kernel_rfl) (λK Q hK=>?_)
  go_simp
  go_at_call 54
  refine(yK.e _ _ _ _ _ _ _ _ _ _ _ _ _ (VW.e _ nv.e).2.1 Ln.e).mono ?_
  rintro e Kk ⟨rfl,sR⟩;have nw:=ψ (nv.e.trans (sR.mono nv.e.size));clear sR
  try go_wp2_with fail
  refine hK.out _ _ ?_ (λID=>?_)
  ·exact KY.e _ nw.e
  clear hK K Q EG
  try simp only[Ϧ,ϫ,Ϭ,ϧ]
  refine Wf [12,13,14,15,16,17,18] [18,17,16,15,14,13,12,11,10,9,8,7,6,5,4,3,2,1,0] 15 rfl (by kernel_rfl) rfl ID ?_
  iterate 7
   apply o5 146 rfl (by kernel_rfl) (by kernel_rfl)
   ·intro W hW
    try dsimp only[B9] at hW
    go_simp;all_goals with_reducible rfl
   simp only[Ϧ,ϫ,Ϭ,ϧ]
  apply po;cases p1
  ·clear FB
   refine Wf [19,20,21,22,23,24,25,26,27,28,29,30] [30,29,28,27,26,25,24,23,22,21,20,19,18,17,16,15,14,13,12,11,10,9,8,7,6,5,4,3,2,1,0] 3 rfl (by kernel_rfl) rfl ID ?_
   iterate 3
    apply o5 146 rfl (by kernel_rfl) (by kernel_rfl)
    ·intro W hW
     try dsimp only[B9] at hW
     go_simp;all_goals with_reducible rfl
    simp only[Ϧ,ϫ,Ϭ,ϧ]
   iterate 6
    apply amp 146 rfl (by kernel_rfl) (by kernel_rfl)
    simp only[Ϧ,ϫ,Ϭ,ϧ]
   iterate 3
    apply o5 146 rfl (by kernel_rfl) (by kernel_rfl)
    ·intro W hW
     try dsimp only[B9] at hW
     go_simp;all_goals with_reducible rfl
    simp only[Ϧ,ϫ,Ϭ,ϧ]
   apply po;refine lV 31 rfl (by kernel_rfl) (by kernel_rfl) (λK Q hK=>?_)
   go_simp
   go_at_call 21
   refine(J9 _).mono ?_
   rintro e w' ⟨rfl,rfl⟩
   try go_wp2_with fail
   refine hK.out _ _ ?_ (λOe=>?_)
   ·exact KY.e _ nw.e
   clear hK K Q ID
   try simp only[Ϧ,ϫ,Ϭ,ϧ]
   refine Wf [32,33] [33,32,31,30,29,28,27,26,25,24,23,22,21,20,19,18,17,16,15,14,13,12,11,10,9,8,7,6,5,4,3,2,1,0] 0 rfl (by kernel_rfl) rfl Oe ?_
   apply o5 146 rfl (by kernel_rfl) (by kernel_rfl)
   ·intro W hW
    try dsimp only[B9] at hW
    go_simp;all_goals with_reducible rfl
   simp only[Ϧ,ϫ,Ϭ,ϧ];apply zZ (φ 10) rfl rfl (by kernel_rfl)
   ·intro W hW
    try dsimp only[B9] at hW
    go_simp;all_goals with_reducible rfl
   simp only[Ϧ,ϫ,Ϭ,ϧ];apply po;refine GX (by kernel_rfl) ?_
   go_wp2;exact⟨rfl,rfl,rfl⟩
  ·obtain⟨rfl,hle⟩:=FB rfl
   refine Wf [19,20,21,22,23,24,25,26,27,28,29,30] [30,29,28,27,26,25,24,23,22,21,20,19,18,17,16,15,14,13,12,11,10,9,8,7,6,5,4,3,2,1,0] 3 rfl (by kernel_rfl) rfl ID ?_
   iterate 12
    apply o5 146 rfl (by kernel_rfl) (by kernel_rfl)
    ·intro W hW
     try dsimp only[B9] at hW
     go_simp;all_goals with_reducible rfl
    simp only[Ϧ,ϫ,Ϭ,ϧ]
   apply po;refine lV 31 rfl (by kernel_rfl) (by kernel_rfl) (λK Q hK=>?_)
   go_simp
   go_at_call 21
   refine(J9 _).mono ?_
   rintro e w' ⟨rfl,rfl⟩
   try go_wp2_with fail
   refine hK.out _ _ ?_ (λOe=>?_)
   ·exact KY.e _ nw.e
   clear hK K Q ID
   try simp only[Ϧ,ϫ,Ϭ,ϧ]
   refine Wf [32,33] [33,32,31,30,29,28,27,26,25,24,23,22,21,20,19,18,17,16,15,14,13,12,11,10,9,8,7,6,5,4,3,2,1,0] 0 rfl (by kernel_rfl) rfl Oe ?_
   apply o5 146 rfl (by kernel_rfl) (by kernel_rfl)
   ·intro W hW
    try dsimp only[B9] at hW
    go_simp;all_goals with_reducible rfl
   simp only[Ϧ,ϫ,Ϭ,ϧ];apply zZ (φ 10) rfl rfl (by kernel_rfl)
   ·intro W hW
    try dsimp only[B9] at hW
    go_simp;all_goals with_reducible rfl
   simp only[Ϧ,ϫ,Ϭ,ϧ];apply po;refine GX (by kernel_rfl) ?_
   go_wp2;exact⟨rfl,rfl,rfl⟩
 ·have hr:R=Tw.jG:=by rw[hR];unfold BE;rw[if_neg hs]
  obtain rfl:sw=0:=by rw[Sy,hr];rfl
  rw[<-hz] at hs;have aO:(z==0)=χ:=by simpa using hs
  have gw:(z !=0)=θ:=by simpa using hs
  have YL:=yS.e;rw[hr] at YL;have yK:=ψ (JV (b:=Tw.jG) YL (Rj W6 _) (ϊ _));clear YL hr hz hR Sy h0 ET C55 ah iZ hV bY hM hG Nb aw ag Dq hW VW0;have XG:=o0;have XH:=o1;have XJ:=o2;have XK:=o3;rw[qe.e] at XG XH XJ XK;go_wp2;rw[<-qe.e];clear qe LU LV LY LZ f0 f1 f2 f3 XG XH XJ XK
  go_at_call 54
  refine yK.e.mono ?_
  rintro e Kk ⟨rfl,sR⟩;clear sR;go_wp2
  go_at_call 21
  refine(J9 _).mono ?_
  rintro e w' ⟨rfl,rfl⟩;go_wp2;exact⟨rfl,rfl,rfl⟩
def akk{ps:List Nat}{kv xv:υ}(ah:aQ w B b pv bv tv)(vv:Row w B 1 wG kv ps)(Aw:x.name.size<=maxLen)(iZ:Row w B 2 Span.R xv x.cM)(hB:B<=w.heap.size)(hM:gF w)(hh:h<256)(hq:q<256):
 c9.wp lp (GS 10) ⟨t9 (η #[ξ κ b.ab,pv,bv,tv]) kv h q (η #[.string x.name,ξ κ x.aL,xv]),[cQ]⟩ w:=by
 letI:=jU
 obtain⟨PA,np,pc,rfl,-⟩:=ah.pieces.Φ;obtain⟨A,m,c,rfl,-⟩:=ah.aC.Φ;obtain⟨TA,nt,tc,rfl,-⟩:=ah.aI.Φ;obtain⟨KA,kn,kc,rfl,-⟩:=vv.Φ;obtain⟨XA,xn,xc,rfl,-⟩:=iZ.Φ;rw[aiO];refine aj5 ah vv Aw iZ hB hh hq _ λh0 eQ V g cn cc k1 q1 m1 r1 CA P1 A1 hV hg hG hK Nb aw=>?_
 rw[ah5];exact aj9 ah hB hM h0 (ajj h0 h q) (ajq h0 h q) (Tr eQ ps) hV hg hG hK Nb _ λag U hU=>aj4 ah Aw iZ hB hM h0 ag (Tr eQ ps) hV hg hG Nb aw hU
end Go.Jn
namespace Go.Jn
open Go Go.Proofs Go.Sim Go.Tw Go.Conc Go.ChangeShapes Go.WideShapes Go.ChangeAt Go.RowKit
open YtfifdjajcogccaaGreatDoor
def aiJ:Tryz.f9.body=φ c9:=by
 unfold c9;rfl
def aiN:cC ϋ G0 c9=θ:=by decide+kernel
def ath(v k:υ)(h q:Nat)(x:υ):t9 v k h q x=#[v,k,.int .u8 h,.int .u8 q,x]++Θ 174 ω:=by kernel_rfl
def asP(h:aj ρ v v')(s:ByteArray)(a:Int):aj ρ (η #[.string s,ξ κ a,v]) (η #[.string s,ξ κ a,v']):=
 .agg rfl λi h1 h2=>by
  match i,h1,h2 with
  |0,_,_=>exact .string _
  |1,_,_=>exact .int _ _
  |2,_,_=>exact h
def aj8(An:DC)(os:Os)(started:os.Started)(H:Type)(enc:TypeId×υ->H):
 ReturnsInLeavingWide {} Tryz.checked os 9 .any (λw args=>(Rows.mouldEasierSpec.pre enc ϋ Tryz.f9 [] χ w args/\laidMetH ϋ FK w)/\sizedMet enc ϋ Tryz.f9 (OpenSpec.ofChange Rows.mouldEasierSpec) χ w args)
  (Rows.mouldEasierSpec.post enc ϋ Tryz.f9 χ θ χ χ):=by
 refine akc (C:=Tryz.checked) (X:=λw _=>laidMetH ϋ FK w) (λ_ _ _ hh h=>laidMetH.of_heap hh h) amS started Tryz.func9
  (ChangeSpec.witness_shaped (enc:=enc) (C:=Tryz.checked) (os:=os) (X:=λw _=>laidMetH ϋ FK w) χ (World.doorLaid ϋ 600 os) #[η #[ξ κ 0,ζ ν 0 0,ζ ν 0 0,ζ ν 0 0],ζ ν 0 0,.int .u8 0,.int .u8 0,η #[.string {data:=#[]},ξ κ 0,ζ ν 0 0]] 8 rfl (aoX os _) (by kernel_rfl) (by kernel_rfl) (by kernel_rfl) (aeu os _)) ?_
 intro W base args ds gs before Wv hW hS hL;have vD:∀(j:Nat) t v,Tryz.f9.params[j]?=φ t->args[j]?=φ v->Value.okWide ϋ W .any base t v:=Wv
 have B1:=hW;obtain⟨p,q,UH,hV,rfl,Vc,oN⟩:=hW;have hA:DataW.TrodAll enc ϋ W 0 (λ_=>θ) θ Tryz.f9.params.toList args.toList ds p:=UH
 rw[Tryz.params9] at hA vD;obtain⟨v0,v1,v2,v3,v4,d0,d1,d2,d3,d4,p0,p1,p2,p3,p4,rfl,rfl,rfl,h0,h1,h2,h3,h4⟩:=atm hA;obtain⟨rfl,rfl⟩:=trodVars_none hV;obtain⟨x,rfl,rfl,rfl,wx⟩:=open_int Tryz.underlying5 (vD 2 5 v2 rfl rfl) h2;obtain⟨z,rfl,rfl,rfl,wz⟩:=open_int Tryz.underlying5 (vD 3 5 v3 rfl rfl) h3;have qJ:=ao5 (vD 1 50 v1 rfl rfl);have O3:=vD 0 26 v0 rfl rfl;unfold Value.okWide at O3;rw[Tryz.underlying26] at O3;obtain⟨cs,rfl,_,_⟩:=O3;have O4:=vD 4 59 v4 rfl rfl;unfold Value.okWide at O4;rw[Tryz.underlying59] at O4;obtain⟨TM,rfl,_,_⟩:=O4;have h0k:=h0;have h1k:=h1;have h4k:=h4;obtain⟨fuel,hf⟩:=h0;obtain⟨arL,iz⟩:=h1;obtain⟨arM,hf4⟩:=h4;obtain⟨b,pv,bv,tv,fh,ah⟩:=acR (enc:=enc) (W:=W) hf;obtain⟨v,ps,fj,dE,nQ⟩:=am6 (enc:=enc) (W:=W) iz;have VA:=PC (enc:=enc) (W:=W) Tryz.underlying59 hf4;rw[adw] at VA;obtain⟨t,⟨xv,Wr,htn,Wd⟩,anA⟩:=acN (enc:=enc) (W:=W) hf4 VA;obtain rfl:v1=v:=by
  rw[qJ] at fj;simpa using fj
 have ahr:cs=#[ξ κ b.ab,pv,bv,tv]:=by
  have:cs.toList=_:=fh;rw[<-Array.toList_inj,this]
 subst ahr;have ahs:TM=#[.string t.name,ξ κ t.aL,xv]:=by
  have:TM.toList=[.string t.name,ξ κ t.aL,xv]:=Wr;rw[<-Array.toList_inj,this]
 subst ahs;have hsx:Sv (fI W) xv:=anA xv (by
  rw[Wr];simp)
 clear UH Wv;simp only[List.append_nil,List.nil_append] at B1;have iV:∀y∈p0,y.block<W.heap.size:=λy hy=>B1.lt y (by simp[hy])
 have ES:∀y∈p1,y.block<W.heap.size:=λy hy=>B1.lt y (by simp[hy])
 have aic:∀y∈p4,y.block<W.heap.size:=λy hy=>B1.lt y (by simp[hy])
 have hm:=ale hS hL;obtain⟨hM,h00⟩:=af5 hm;obtain⟨hB,q1,q2,q3⟩:=af1 ah;have hR:=zo (R:=wG) (R':=wG) dE λx cs r=>⟨r,λu hu=>by
  rw[r.1] at hu;rw[List.mem_singleton] at hu;subst hu;exact trivial⟩
 have Nu:=zo (R:=Span.R) (R':=Span.R) Wd λx cs r=>⟨r,λu hu=>by
  have r':cs=[ξ κ x.lo,ξ κ x.hi]:=r;rw[r'] at hu;simp only[ϥ,Λ,or_false] at hu;rcases hu with rfl|rfl<;>exact trivial⟩
 have q4:=AR (by omega) dE nQ
 have q5:=AR (by omega) Wd hsx
 obtain⟨xn,rfl,hx⟩:∃m:Nat,x=m/\m<256:=by
  simp[Lit.wf,IntKind.min,IntKind.max,IntKind.signed,IntKind.bits] at wx;exact⟨x.toNat,by omega,by omega⟩
 obtain⟨zn,rfl,hz⟩:∃m:Nat,z=m/\m<256:=by
  simp[Lit.wf,IntKind.min,IntKind.max,IntKind.signed,IntKind.bits] at wz;exact⟨z.toNat,by omega,by omega⟩
 obtain⟨M,last,o,w',t',r1,r2,r3,r4⟩:=ajX An (f:=9) (r:=10) (fn:=Tryz.f9) (c:=c9) Tryz.func9 aiJ aiN rfl (by omega) (ρ:=tk W) (wl:=oF W) (W:=W) (args:=#[η #[ξ κ b.ab,pv,bv,tv],v1,.int .u8 xn,.int .u8 zn,η #[.string t.name,ξ κ t.aL,xv]]) (tl:=t9 (η #[ξ κ b.ab,pv,bv,tv]) v1 xn zn (η #[.string t.name,ξ κ t.aL,xv]))
  (λT=>akk (w:=bq (oF W) T) (B:=W.heap.size) ⟨hB.pieces,hB.aC,hB.aI⟩ hR htn Nu (Nat.le_of_eq Uk.symm) hM hx hz) (af3 C1) h00 af6 (by rw[ath];exact(asQ (ant q1 q2 q3) q4.self (.int _ _) (.int _ _) (asP q5.self _ _)).append (anB _ 174)) af4 hm
 refine⟨M,last,o,w',t',r1,r2,r3,Conc.Good.mono r4 λv hF=>?_⟩
 obtain⟨rfl,hb⟩:=hF;refine⟨_,_,_,[],p0++(p1++([]++([]++p4))),[],B1,?_,?_,rfl,hb.frame _,λh=>by cases h⟩
 ·exact trodAll_mk1 (shut_bool Tryz.underlying4 _)
 ·exact ap6 (Below.trod Jf (by kernel_rfl) (of_decide_eq_true (by kernel_rfl)) h0k hb iV) (Below.trod Jf (by kernel_rfl) (of_decide_eq_true (by kernel_rfl)) h1k hb ES) (shut_int Tryz.underlying5 wx) (shut_int Tryz.underlying5 wz) (Below.trod Jf (by kernel_rfl) (of_decide_eq_true (by kernel_rfl)) h4k hb aic)
end Go.Jn
namespace Go.Jn
open Go Go.Proofs
open YtfifdjajcogccaaGreatDoor
def apU(Lk:Looks){p:Pinned}{s:OpenSpec}{c:OpenClaim}(kinds:List LaidKind)(QO:Bool)(zI:Bool×String)(lk:Bool)
 (hc:c.holds p s)(hw:c.wfByText s=θ)(aiP:c.laidByTextAt Lk p kinds QO)(eW:c.start=.entering)(eQ:c.noBlocks=χ/\c.again=χ)(hm:p.checked.prog.mainIs=φ (zI.1,zI.2.toList))(hn:(!zI.1 && zI.2.isEmpty && !lk)=χ)
 (hl:∀f fn,p.checked.prog.funcNamed c.func=φ f->p.checked.prog.funcs[f]?=φ fn->lk=p.checked.prog.looks []/\∀(j:Nat) t,fn.params[j]?=φ t->p.checked.prog.wantsStandIn t=χ)
 (hg:θ=c.goesBy p.checked.prog):
 Claim7.holds p (.plain s) {stood:={row:=c,standIns:=[],harness:=zI,looks:=lk},kinds:=[],alts:=[],goes:=θ,laidByText:=θ,laidKinds:=kinds,laidTests:=QO,laidLooks:=Lk}:=by
 have h6:Claim7.isSixth {stood:={row:=c,standIns:=[],harness:=zI,looks:=lk},kinds:=[]}=χ:=by simpa [Claim7.isSixth] using hn
 exact⟨Claim7.tied_new_at Lk kinds QO (Claim7.new_of_sixth hc zI lk eW eQ hm h6 hl) hw,(λD hD=>by cases hD),aiP,(λh=>by cases h),hg⟩
def aoH:ϋ.laidByTextLater Rows.mouldLeastRow.laid [.funcs] θ:=
 Program.laidByTextLater_by_one 16 8 2 (by kernel_rfl) (by kernel_rfl) (by kernel_rfl) (by kernel_rfl) (by kernel_rfl) (by kernel_rfl) (λ_ _=>by kernel_rfl)
def amY:Tryz.pinned.checked.prog.headLifts.contains "ownunsafe" =χ:=by kernel_rfl
def ak8:Tryz.pinned.checked.prog.mainIs=φ (θ,"8b4c60804a89a2dc1775d2d899c432f4b3d9a7cd22d2b16114beb87ecc832d7f".toList):=by kernel_rfl
def amq:χ=Tryz.pinned.checked.prog.looks []:=by kernel_rfl
end Go.Jn
namespace Go.Jn
open Go Go.Proofs Go.Sim Go.Conc Go.Tw
def anK(w:Ψ)(cN cL:Nat):Sim.ay:=⟨λq=>q<w.heap.size/\q≠cN/\q≠cL,λ_=>False⟩
def apk{w1:Ψ}{lb bk p6 p7:Nat}{t1:Array υ}{M:Sim.ay}(hP:LO b ρ wl pv bv tv B lb bk n NB wB w1)(h4:R4 t1 (allM w1) w1 cN cL p6 p7 t M w2):
 ∃eA Rb l6 l7,St b eA Rb pv bv tv B lb l6 l7 bk p6 p7 cN cL n NB wB (anK w2 cN cL) w2/\(∀a q,eA a q->q<max p6 p7+1)/\NB<=max p6 p7+1:=by
 obtain⟨core,iy,Xw,fixed,rb,hB,book,c0,c1,c2,c3,⟨bc,e,fb,A,c,ai,an⟩,old,eQ⟩:=hP;have kept:∀q,q<w1.heap.size->w2.heap[q]?=w1.heap[q]?:=λq hq=>h4.kept q (.inl hq)
 have aeb:=uQ core h4.size λa q hq=>kept q (core.dq a q hq)
 have jk:∀(σ:Ren) (c:Nat),aV σ #[μ #[]] #[.chan (φ c)]:=λσ c=>⟨rfl,λj h1 h2=>by
  have:j=0:=by simp at h1;omega
  subst this;exact .junk rfl (by simp) (by simp)⟩
 have eS:=wS (o:=.cells #[μ #[]] 154 (0,1)) aeb h4.vn.2.2.2 (λa ha=>by have:=core.dq a _ ha;have:=h4.vn.2.2.1;omega) (.cells 154 (jk _ _) (.inr ⟨rfl,by simp⟩))
 have ia:=wS (o:=.cells #[μ #[]] 155 (0,1)) eS h4.vl.2.2.2 (λa ha=>by
  rcases ha with ha| ⟨_,e⟩
  ·have:=core.dq a _ ha;have:=h4.vl.2.2.1;omega
  ·exact h4.np e.symm) (.cells 155 (jk _ _) (.inr ⟨rfl,by simp⟩))
 have st1:=(Δ.refl wl).alloc hB (Ξ #[μ #[]] 154 (0,1));have pB:B<=(wl.alloc (Ξ #[μ #[]] 154 (0,1))).heap.size:=by rw[fy];exact Nat.le_succ_of_le hB
 have lf:=st1.alloc pB (Ξ #[μ #[]] 155 (0,1));have cl:∀ {j:Nat} {v:υ},wl.cell? ⟨lb,j,ν⟩=φ v->((wl.alloc (Ξ #[μ #[]] 154 (0,1))).alloc (Ξ #[μ #[]] 155 (0,1))).cell? ⟨lb,j,ν⟩=φ v:=λhv=>
  (Ă _ _ ⟨lb,_,ν⟩ (by show lb<_;rw[fy];have:=core.dL _ _ rb;omega)).trans ((Ă wl _ _ (core.dL _ _ rb)).trans hv)
 have Jk:∀ {q:Nat},q<w1.heap.size->q<w2.heap.size/\q≠cN/\q≠cL:=λ{q} hq=>⟨Ϟ hq h4.size,by have:=h4.n.2.2.1;omega,by have:=h4.l.2.2.1;omega⟩
 have Xp:p6<w2.heap.size/\p6≠cN/\p6≠cL:=⟨h4.low _ (.inl h4.vn.2.1),(by rintro rfl;have:=h4.vn.2.2.2;rw[h4.n.2.2.2] at this;cases this),(by rintro rfl;have:=h4.vn.2.2.2;rw[h4.l.2.2.2] at this;cases this)⟩
 have Xq:p7<w2.heap.size/\p7≠cN/\p7≠cL:=⟨h4.low _ (.inl h4.vl.2.1),(by rintro rfl;have:=h4.vl.2.2.2;rw[h4.n.2.2.2] at this;cases this),(by rintro rfl;have:=h4.vl.2.2.2;rw[h4.l.2.2.2] at this;cases this)⟩
 refine⟨_,_,_,_,⟨⟨ia,.inl (.inl iy),bO.push (bO.push Xw (o:=.cells #[μ #[]] 154 (0,1)) (λh=>h)) (o:=.cells #[μ #[]] 155 (0,1)) (λh=>h),?_,?_,.inl (.inl rb),.inl (.inr ⟨rfl,rfl⟩),.inr ⟨rfl,rfl⟩,by rw[fy];exact Nat.le_succ_of_le pB,book.still lf,cl c0,cl c1,cl c2,cl c3⟩,?_,.inl Xp,.inl Xq,.inl (Jk (core.dq _ _ rb)),h4.vn.2.2.2,h4.vl.2.2.2,
  ⟨bc,e,fb,A,c,(kept _ (core.dq _ _ rb)).trans ai,an⟩,λq hq=>⟨.inl (Jk (by omega)),(kept q (by omega)).trans (old q hq)⟩,ϡ eQ h4.size,⟨?_,?_⟩,⟨h4.low _ (.inl h4.n.2.1),h4.low _ (.inl h4.l.2.1)⟩⟩,?_,by have:=h4.vn.2.2.1;omega⟩
 ·rintro a q ((ha| ⟨_,rfl⟩) | ⟨_,rfl⟩)
  ·exact .inl (Jk (core.dq _ _ ha))
  ·exact .inl Xp
  ·exact .inl Xq
 ·rintro a q ((ha| ⟨rfl,_⟩) | ⟨rfl,_⟩)
  ·obtain⟨o,k1,k2⟩:=fixed a q ha
   have:=core.dL _ _ ha;exact⟨o,(lz (by rw[fy];omega)).trans ((lz this).trans k1),k2⟩
  ·exact⟨_,(lz (by rw[fy];omega)).trans kQ,⟨rfl,by simp⟩⟩
  ·exact⟨_,kQ,⟨rfl,by simp⟩⟩
 ·rintro q (hq|hq)
  ·exact hq.1
  ·exact hq.elim
 ·rintro(hq|hq)
  ·exact hq.2.1 rfl
  ·exact hq
 ·rintro(hq|hq)
  ·exact hq.2.2 rfl
  ·exact hq
 ·rintro a q ((ha| ⟨_,rfl⟩) | ⟨_,rfl⟩)
  ·have:=core.dq _ _ ha;have:=h4.vn.2.2.1;omega
  ·omega
  ·omega
section
variable {b:eR}{ρ:Ren}{wl wB:Ψ}{pv bv tv:υ}{B lb l6 l7 bk p6 p7 cN cL n N0 NB NR:Nat}{cX:Nat->Bool}{cs:List Frame}
def hears(hr:∀a q,ρ a q->q<NR)(hN:NB<=NR)(hn:n<=1000)(t:Array υ)(M:Sim.ay)(w:Ψ)(hs:kO bk p6 p7 t)(hS:(St b ρ wl pv bv tv B lb l6 l7 bk p6 p7 cN cL n NB wB) M w)(Ek:NR<=w.heap.size):
 Walk ϋ θ (oB (Pm.mk ϋ n N0 cL cN cX sr (yO NR NB wB cs)) n []) M (rg 38 t [.code (.seq (.region 11 CU χ) vN)] [] .normal cs) w:=by
 refine fZ (iu ?_)
 rw[s11];obtain⟨o,ho,ag,hd,hg⟩:=akJ;refine dJ (v:=ζ ν 0 0) ho (cx hg) rfl (λaa _=>⟨_,run_assign t aa ag,eE⟩) ?_
 rw[hd];have h9:(aA t (φ 9) (ζ ν 0 0))[9]?=φ (ζ ν 0 0):=eX (by rw[hs.sz];omega)
 have di:kO bk p6 p7 (aA t (φ 9) (ζ ν 0 0)):=hs.put ⟨by omega,by omega,by omega⟩
 revert h9 di
 generalize aA t (φ 9) (ζ ν 0 0)=t1;intro h9 di;refine jl ?_
 rw[anH];refine fZ (fZ (iu ?_))
 rw[s12];obtain⟨o,ho,ag,hd,hg⟩:=akK;obtain⟨dir,hu⟩:=Da;refine dJ (v:=.chan (φ cN)) ho (cx hg) rfl (λaa hk=>⟨_,yz _ aa ag (cT di.t6) hu rfl (mH ((hk.kept _ hS.m6).trans hS.h6) rfl rfl),yx hS.m6 _ rfl⟩) ?_
 rw[hd];refine jl (De (Q6 ?_))
 refine recvs hr hN hn n [] _ M w (by simp) (by simp[aA,di.sz]) (eX (by rw[di.sz];omega)) ⟨⟨ζ ν 0 0,(bP (by omega)).trans h9,⟨rfl,.inl ⟨rfl,rfl⟩⟩,λg k c e=>by cases e⟩,Ek,λ_=>(bP (by omega)).trans h9⟩ hS
def apm(xL:∀i,cX i=(search b (cB (aB b)) (λk=>decide (k=i)) b.pieces.length []).isNone)(ag:bT b 0=0)(hr:∀a q,ρ a q->q<NR)(hN:NB<=NR)(hn:n<=1000)(t:Array υ)(M:Sim.ay)(w:Ψ)(hs:kO bk p6 p7 t)(hS:(St b ρ wl pv bv tv B lb l6 l7 bk p6 p7 cN cL n NB wB) M w)(Ek:NR<=w.heap.size)
 (Ej:∀M w,(St b ρ wl pv bv tv B lb l6 l7 bk p6 p7 cN cL n NB wB) M w->NR<=w.heap.size):
 Walk ϋ θ (StopA (Pm.mk ϋ n N0 cL cN cX sr (yO NR NB wB cs)) n) M (rg 38 t [.code oY] [] .normal cs) w:=by
 rw[anJ];refine fZ (fZ (iu ?_))
 rw[s5];obtain⟨bc,e,fb,A,c,ai,an⟩:=hS.hb;obtain⟨o,ho,bL,hd,hg⟩:=m50;obtain⟨fs,fd,fi,hu,hf,ON,hi,aN⟩:=Zj;refine dJ ho (cx hg) rfl (λaa _=>⟨_,Ye t aa bL (cT hs.t1) hu hf hi aN,eE⟩) ?_
 rw[hd,ON];have di:kO bk p6 p7 (aA t (φ 21) (π (φ ((⟨bk,0,ν⟩:Addr).add 2)))):=hs.put ⟨by omega,by omega,by omega⟩
 have sP:(aA t (φ 21) (π (φ ((⟨bk,0,ν⟩:Addr).add 2)))).getD 21 ω=π (φ ((⟨bk,0,ν⟩:Addr).add 2)):=iT (by rw[hs.sz];omega)
 revert di sP
 generalize aA t (φ 21) (π (φ ((⟨bk,0,ν⟩:Addr).add 2)))=t1;intro di sP;obtain⟨o,ho,bL,hd,hg⟩:=m51;obtain⟨e23,Ff⟩:=Zi;refine dJ ho (cx hg) rfl (λaa hk=>⟨_,yz _ aa bL sP Ff rfl (mH ((hk.kept _ hS.mb).trans ai) rfl an),yx hS.mb _ rfl⟩) ?_
 rw[hd];have dN:kO bk p6 p7 (aA t1 (φ 22) (.slice A n c)):=di.put ⟨by omega,by omega,by omega⟩
 have Nf:(aA t1 (φ 22) (.slice A n c)).getD 22 ω=.slice A n c:=iT (by rw[di.sz];omega)
 revert dN Nf
 generalize aA t1 (φ 22) (.slice A n c)=t2;intro dN Nf;obtain⟨o,ho,bL,hd,hg⟩:=m52;refine dJ ho (cx hg) rfl (λaa _=>⟨_,Yg _ aa bL Nf Ff,eE⟩) ?_
 rw[hd];have iE:kO bk p6 p7 (aA t2 (φ 23) (goInt n)):=dN.put ⟨by omega,by omega,by omega⟩
 have zy:(aA t2 (φ 23) (goInt n))[23]?=φ (ξ κ n):=eX (by rw[dN.sz];omega)
 revert iE zy
 generalize aA t2 (φ 23) (goInt n)=t3;intro iE zy;obtain⟨o,ho,bL,hd,hg⟩:=m53;refine dJ (v:=ξ κ 0) ho (cx hg) rfl (λaa _=>⟨_,run_move _ aa bL,eE⟩) ?_
 rw[hd];refine jl (De (Q6 ?_))
 refine spawns xL ag (by omega) (λt M w hs hS=>hears hr hN hn t M w hs hS (Ej M w hS)) n _ M w (ϊ _) (iE.put ⟨by omega,by omega,by omega⟩) ((bP (by omega)).trans zy) ((eX (by rw[iE.sz];omega)).trans (by simp)) hS
end
def results2(hr:fn.results=#[.tmp 2,.tmp 3])(t:Array υ)(w:Ψ):(results fn t).runT P w #[]=(.ok (μ #[t.getD 2 ω,t.getD 3 ω]) w,#[]):=by
 have e:results fn t=Sem.pure (μ #[t.getD 2 ω,t.getD 3 ω]):=by
  unfold results;rw[hr];simp only[Array.mapM_eq_mapM_toList,List.mapM_cons,List.mapM_nil];rfl
 rw[e];rfl
def aqM{Stop:Sim.ay->ϐ->Ψ->Prop}{M:Sim.ay}{f:FuncId}{k:List Item}{cs:List Frame}(hf:P.funcs[f]?=φ fn)(hr:fn.results=#[.tmp 2,.tmp 3])
 (h:Walk P main Stop M (aT (fr.finish (μ #[t.getD 2 ω,t.getD 3 ω])) cs) w):Walk P main Stop M (aT ⟨f,t,k,[],.returning,.normal,ν⟩ (fr::cs)) w:=
 lL rfl (λaa=>by
  have e:unwind P main ⟨f,t,k,[],.returning,.normal,ν⟩ (fr::cs) ν aa=.go (aT (fr.finish (μ #[t.getD 2 ω,t.getD 3 ω])) cs) aa #[]:=by
   unfold unwind;simp only[hf,results2 hr,vR,GStep.after,doReturn];rfl
  exact e) h
def akf(hW:cg C0 σ wl w)(hr:∀a q,σ a q->q<NR)(hn:bO wl.heap)(ho:w.ownsRow NR 3 1 ov n (zs.map (ξ κ))):
 ∃(bQ:Ren) (gQ:Ψ) (ol:υ),cg C0 bQ gQ w/\σ.le bQ/\(∀a p,bQ a p->σ a p\/(wl.heap.size<=a/\NR<=p))/\aj bQ ol ov/\gQ.ownsRow wl.heap.size 3 1 ol n (zs.map (ξ κ))/\
  (∀(a:Nat) (o:Obj),wl.heap[a]?=φ o->gQ.heap[a]?=φ o)/\wl.heap.size<=gQ.heap.size/\bO gQ.heap:=by
 rcases ho.2 with⟨rfl,h0⟩ | ⟨g,cap,cur,rfl,vd,hg,ey,oI,fh,tj⟩
 ·exact⟨σ,wl,ζ ν 0 0,hW,σ.le_refl,λa p h=>.inl h,.sliceNone 0 0,⟨ho.1,.inl ⟨rfl,h0⟩⟩,λ_ _ h=>h,ϊ _,hn⟩
 ·obtain⟨u,hu,Fh⟩:=Qh (ext σ wl.heap.size g) cur n zs tj
  have ia:=wS (o:=.cells u 3) hW hg (λa ha=>by have:=hr a g ha;omega) (.cells 3 hu (.inl rfl))
  refine⟨_,_,ζ (φ ⟨wl.heap.size,0,ν⟩) n cap,ia,zk _ _ _,?_,.slice _ _ ⟨.inr ⟨rfl,rfl⟩,rfl,rfl⟩,⟨ho.1,.inr ⟨_,cap,u,rfl,ϊ _,kQ,ey,oI,hu.1.trans fh,Fh⟩⟩,
   λa o ha=>(lz (Ϝ.1 ha).1).trans ha,by rw[fy];omega,bO.push hn (o:=.cells u 3) (λh=>h)⟩
  rintro a p (ha| ⟨rfl,rfl⟩)
  ·exact .inl ha
  ·exact .inr ⟨ϊ _,vd⟩
def K6(NB:Nat)(wB:Ψ)(fr:Frame)(cs:List Frame)(zs:List Int)(_:Sim.ay)(g:ϐ)(w:Ψ):Prop:=
 ∃ov,g=aT (fr.finish (μ #[ov,ξ κ 0])) cs/\w.ownsRow NB 3 1 ov zs.length (zs.map (ξ κ))/\(∀q,q<NB->w.heap[q]?=wB.heap[q]?)/\NB<=w.heap.size
def YI(zs:List Int):(fQ zs).length=zs.length:=by simp[fQ]
def afQ{cs:List Frame}{M:Sim.ay}{g:ϐ}(hE:yO NR NB wB (fr::cs) aD M g w)(hN:NB<=NR)(hW:cg C0 σ wl wB)(uZ:NB=wB.heap.size)(kA:σ 0 0)(mP:∀a q,σ a q->∃o,wl.heap[a]?=φ o/\mw o)(eQ:bO wl.heap)(hg:aD.length<=1000):
 Walk ϋ θ (K6 NB wB fr cs (fQ (ints aD))) (allM w) g w:=by
 letI:=jC
 obtain⟨t,z,rfl,hs,BS,⟨⟨ov,h9,aH,_⟩,Ek,OJ⟩,hold,VX⟩:=hE;have IZ:∀a q,σ a q->q<NB:=λa q h=>by rw[uZ];exact hW.dq a q h
 obtain⟨o,ho,ag,hd,ig⟩:=Xs;refine dJ (v:=.bool χ) ho (cx ig) rfl (λaa _=>⟨_,F9 t aa ag (cT BS) rfl,eE⟩) ?_
 rw[hd];have di:(aA t (φ 32) (.bool χ)).size=41:=by simp[aA,hs]
 have j9:(aA t (φ 32) (.bool χ))[9]?=φ ov:=(bP (by omega)).trans h9
 have Pg:(aA t (φ 32) (.bool χ)).getD 32 ω=.bool χ:=iT (by omega)
 revert di j9 Pg
 generalize aA t (φ 32) (.bool χ)=t1;intro di j9 Pg;refine jl ?_
 rw[Sf];refine fZ (Df (q:=χ) Pg (Q3 (k':=[.code tB]) rfl ?_))
 rw[anI];refine fZ ?_
 have eS:cg C0 σ wl w:=uQ hW (by rw[<-uZ];exact VX) λa q hq=>hold q (IZ a q hq)
 obtain⟨bQ,gQ,ol,ia,hle,hinv,hv,gv,aim,aiL,OC⟩:=akf eS (λa q h=>Ϟ (IZ a q h) hN) eQ aH
 obtain⟨u0,As⟩:=MV bQ t1;have O0:=F6 As hv j9;have hus:(u0.setIfInBounds 9 ol).size=41:=by rw[ć,As.1,di]
 have hu9:(u0.setIfInBounds 9 ol)[9]?=φ ol:=eX (by rw[As.1,di];omega)
 refine piece (S:=⟨.skip,[.code (.seq (.region 17 AP χ) .ret)],[],fr::cs,.normal⟩) (c:=.region 16 CV χ) (a:=⟨u0.setIfInBounds 9 ol,[cQ]⟩) adA rfl rfl (hl:=λT=>ao8 (w:=bq gQ T) (base:=wl.heap.size) (n:=aD.length) (zs:=ints aD) gv (by omega) aiL hus hu9) ia (hle _ _ kA) (Bu ia) (λq hq=>ly.1 hq) OC O0 ?_
 rintro e bJ aa b6 aM fq aF ⟨rfl,aN,k9,vt⟩ cr gd zS VM xx iW Wu;refine⟨λ_ _=>?_,λhe=>by cases he⟩
 have ht:fq.size=41:=Wu.1.symm.trans aN;obtain⟨v',hv9,xU⟩:=JO Wu k9;have hb:∀a q,wl.heap.size<=a->aM a q->NR<=q:=by
  intro a q ha hq;rcases cr.new a q hq with hq| ⟨_,hq⟩
  ·rcases hinv a q hq with hq| ⟨_,hq⟩
   ·have:=hW.dL a q hq;omega
   ·exact hq
  ·omega
 have aiq:aF.ownsRow NB 3 1 v' (fQ (ints aD)).length ((fQ (ints aD)).map (ξ κ)):=by
  rw[YI];have xF:(ints aD).length=aD.length:=by simp[ints]
  rw[xF];by_cases h0:aD.length=0
  ·have hz:fQ (ints aD)=[]:=Ŏ (by rw[YI,xF,h0])
   have xN:ov=ζ ν 0 0:=by
    have:=OJ (Ŏ h0);rw[h9] at this;exact Ϡ this
   have hol:ol=ζ ν 0 0:=by
    rcases gv.2 with⟨e,_⟩ | ⟨g,cap,cur,e,_⟩
    ·exact e
    ·rw[xN,e,h0] at hv;cases hv
   rw[hol] at xU;cases xU;rw[hz,h0];exact⟨rfl,.inl ⟨rfl,rfl⟩⟩
  ·exact World.ownsRow.base (XW gd xU vt h0 hb).1 hN
 have kept:∀q,q<NB->aF.heap[q]?=wB.heap[q]?:=by
  intro q hq;refine(cr.jd q (.inl (show q<w.heap.size by omega)) λa ha=>?_).trans (hold q hq)
  rcases hinv a q ha with ha| ⟨_,hx⟩
  ·obtain⟨o,h1,h2⟩:=mP a q ha
   exact⟨o,aim a o h1,h2⟩
  ·omega
 have aiK:NB<=aF.heap.size:=ϡ VX cr.gO;show Walk ϋ θ (K6 NB wB fr cs (fQ (ints aD))) b6 (rg 38 fq [.code (.seq (.region 17 AP χ) .ret)] [] .normal (fr::cs)) aF;have hOv:∀g k c,v'=ζ (φ g) k c->b6.has g.block:=by
  intro g k c e;subst e;cases xU with
  |slice _ _ ha=>exact(zS _ _ ha.1).imp id (·.1)
  |sliceDead a1 b1=>
   rcases gv.2 with⟨e,_⟩ | ⟨g',cap,cur,e,_⟩
   ·cases e
   ·have h0:aD.length=0:=by injection e with e1 e2 e3;exact e2.symm
    have:=OJ (Ŏ h0);rw[h9] at this;rw[Ϡ this] at hv;cases hv
  |junk h _ _=>
   rcases gv.2 with⟨e,_⟩ | ⟨g,cap,cur,e,_⟩<;>cases e
 have hMq:∀q,q<NB->b6.has q:=λq hq=>ay.vb cr.R cr.O (.inl (show q<w.heap.size by omega))
 ·refine fZ (iu ?_)
  rw[s17];obtain⟨o,ho,ag,hd,ig⟩:=akS;have e9:aX fq (.tmp 9)=v':=cT hv9;refine dJ (v:=v') ho (cx ig) rfl (λaa _=>⟨_,(run_move fq aa ag).trans (by rw[e9]),eE⟩) ?_
  rw[hd];have MO:aX (aA fq (φ 40) v') (.tmp 40)=v':=iT (by omega)
  have dN:(aA fq (φ 40) v').size=41:=by simp[aA,ht]
  revert MO dN
  generalize aA fq (φ 40) v'=t2;intro MO dN;obtain⟨o,ho,ag,hd,ig⟩:=akT;refine dJ (v:=v') ho (cx ig) rfl (λaa _=>⟨_,(run_assign t2 aa ag).trans (by rw[MO]),eE⟩) ?_
  rw[hd];have e2:(aA t2 (φ 2) v')[2]?=φ v':=eX (by omega)
  have iE:(aA t2 (φ 2) v').size=41:=by simp[aA,dN]
  revert e2 iE
  generalize aA t2 (φ 2) v'=t3;intro e2 iE;obtain⟨o,ho,ag,hd,ig⟩:=akU;refine dJ (v:=ξ κ 0) ho (cx ig) rfl (λaa _=>⟨_,run_assign t3 aa ag,eE⟩) ?_
  rw[hd];have e3:(aA t3 (φ 3) (ξ κ 0)).getD 3 ω=ξ κ 0:=iT (by omega)
  have TV:(aA t3 (φ 3) (ξ κ 0)).getD 2 ω=v':=cT ((bP (by omega)).trans e2)
  refine jl (aqL (aqM Tryz.func38 anF ?_))
  rw[e3,TV];refine .stop λau hk=>⟨v',rfl,?_,?_,ϡ aiK hk.size⟩
  ·exact P2 aiq λg k c e=>hk.kept _ (hOv g k c e)
  ·exactλq hq=>(hk.kept q (hMq q hq)).trans (kept q hq)
def anc{M0 M:Sim.ay}{p6 p7:Nat}(h:R4 t0 M0 w0 cN cL p6 p7 t M w)(k:bR M w aa):R4 t0 M0 w0 cN cL p6 p7 t M aa:=
 ⟨h.n.keep k,h.l.keep k,h.vn.keep k,h.vl.keep k,h.nl,h.np,h.o8,h.same,h.O,h.On,h.R,λb hb=>(k.kept b (hb.imp (h.O b) λx=>by rw[h.R];exact x)).trans (h.kept b hb),ϡ h.size k.size,λb hb=>Ϟ (h.low b hb) k.size,k.tape.trans h.tape,k.os.trans h.os,k.e.trans h.e⟩
def CN{l:List Nat}(hd:l.Nodup)(h:∀i∈l,i<n):l.length<=n:=by
 have:=hd.length_le_of_subset (l₂:=ϸ n) λi hi=>ű.2 (h i hi)
 simpa using this
def FW(b:eR)(i:Nat):Bool:=(search b (cB (aB b)) (λk=>decide (k=i)) b.pieces.length []).isNone
def KU(b:eR):List Nat:=(ϸ b.aC.length).filter (FW b)
def ame(hb:KI b σ wl pv bv tv B arg w)(ag:bT b 0=0){cs:List Frame}
 {gs:Array ϐ}{t:Trace}{q:Nat->Nat}(hF:Fr ϋ gs w t q (aT (Frame.enter ϋ 38 #[arg] .normal) (fr::cs)))(sl:Option (Nat×Nat)):
 ∃N aY w' bB t' q' g' aD M',runNT ϋ N (crowd gs w sl) t=(.next (crowd aY w' bB),t')/\Fr ϋ aY w' t' q' g'/\K6 w.heap.size w fr cs (fQ (ints aD)) M' g' w'/\aD.Nodup/\(∀i,i∈aD↔i<b.aC.length/\FW b i=θ)/\Base w w':=by
 have he:Frame.enter ϋ 38 #[arg] .normal=⟨38,#[arg]++Θ 40 ω,[.code (.seq (.region 0 p0 χ) (.seq rv (.seq (.region 4 jB θ) oY)))],[],.run,.normal,ν⟩:=
  BL Tryz.func38 SL #[arg] .normal
 rw[he] at hF;have iW:b.aC.length<=3:=by letI:=jC;exact(fG (mX ag).1).nb
 obtain⟨N1,UE,M1,g1,w1,Qx,t1,q1,r1,z1,⟨⟨T,bk,lb,cF,mn,rfl,hT,zH,hP⟩,pB⟩,mL⟩:=DK (Gp (stA (cs:=fr::cs) hb ag) (G7 w)) gs sl t q hF (λq hq=>ly.1 hq)
 have hE:WalkE ϋ θ w1.heap.size (λM g w2=>∃cN cL p6 p7 t2,R4 T (allM w1) w1 cN cL p6 p7 t2 M w2/\g=rg 38 t2 [.code oY] [] .normal (fr::cs)) (allM w1) (rg 38 T [.code (.seq (.region 4 jB θ) oY)] [] .normal (fr::cs)) w1:=
  Zy rfl (λaa=>by simp[stepG,stepG.exec]) (aqK rfl hT (λb hb=>ly.1 hb) λcN cL p6 p7 t2 M w2 h4=>.stop λll hk=>⟨cN,cL,p6,p7,t2,anc h4 hk,rfl⟩)
 obtain⟨N2,Hz,M2,g2,w2,Qy,t2,q2,r2,z2,⟨⟨cN,cL,p6,p7,T2,h4,rfl⟩,Nj⟩,Ic,Ny⟩:=acy (aqA hE pB) UE Qx t1 q1 mL (λq hq=>ly.1 hq) (mE.of_low mL.il.seen)
 obtain⟨eA,Rb,l6,l7,hS,Cp,UN⟩:=apk hP h4;have hs:kO bk p6 p7 T2:=⟨h4.o8,(h4.same 1 (by omega) (by omega) (by omega) (by omega)).trans zH,h4.vn.1,h4.vl.1⟩
 have Ej:∀(M:Sim.ay) (w':Ψ),St b eA Rb pv bv tv B lb l6 l7 bk p6 p7 cN cL b.aC.length w.heap.size w M w'->max p6 p7+1<=w'.heap.size:=λM w' h=>by
  have:=h.low _ h.m6;have:=h.low _ h.m7;omega
 have hW:=apm (N0:=Hz.size) (cX:=FW b) (cs:=fr::cs) (λ_=>rfl) ag Cp UN (by omega) T2 _ w2 hs hS (Ej _ _ hS) Ej
 obtain⟨G,hG⟩:=afM (X:=Pm.mk ϋ b.aC.length Hz.size cL cN (FW b) sr (yO (max p6 p7+1) w.heap.size w (fr::cs))) Ic rfl
  (λq hq=>by
    rcases hq with hq|hq
    ·exact⟨hq.1,hq.2.2,hq.2.1⟩
    ·exact hq.elim) rfl hW h4.l.2.2.2 h4.n.2.2.2 (Ã h4.nl) Ny h4.n.2.2.1
 obtain⟨N3,Nc,w3,Qz,t3,r3,⟨q3,g3,M3,aD,Np,J7,oN,ma,Eu,VM⟩⟩:=afF Qy hG;have kA:aD.length<=1000:=by
  have:aD.length<=b.aC.length:=CN oN λi hi=>((ma i).1 hi).1
  omega
 have N8:=afQ J7 UN hb.core rfl hb.iy hb.fixed hb.nb kA;obtain⟨N4,gs4,M4,g4,w4,sl4,t4,q4,r4,z4,⟨agT,hB4⟩,hF4⟩:=DK (Gp N8 (sG Nj Eu)) Nc Qz t3 q3 Np (λq hq=>ly.1 hq)
 exact⟨N1+(N2+(N3+N4)),gs4,w4,sl4,t4,q4,g4,aD,M4,vO _ _ _ r1 (vO _ _ _ r2 (vO _ _ _ r3 r4)),hF4,agT,oN,ma,hB4⟩
def ao7(hd:aD.Nodup)(hm:∀i,i∈aD↔i<b.aC.length/\FW b i=θ):fQ (ints aD)=ints (KU b):=by
 have hp:aD.Perm (KU b):=(List.perm_ext_iff_of_nodup hd (List.nodup_range.filter _)).2 λi=>by rw[hm i];simp[KU]
 have hs:(ints (KU b)).Pairwise (λx y=>decide (x<=y)=θ):=by
  unfold ints KU;rw[List.pairwise_map];refine(List.Pairwise.filter _ List.pairwise_lt_range).imp λh=>?_
  simp only[decide_eq_true_eq];omega
 have h1:(fQ (ints aD)).Perm (ints (KU b)):=(List.mergeSort_perm _ _).trans (hp.map _);refine h1.eq_of_pairwise (le:=λx y=>decide (x<=y)=θ) (λa c _ _ h k=>by simp only[decide_eq_true_eq] at h k;omega) ?_ hs
 exact List.pairwise_mergeSort (λa b c h k=>by simp only[decide_eq_true_eq] at *;omega) (λa b=>by simp;omega) _
end Go.Jn
namespace Go.Jn
open Go Go.Proofs Go.Sim Go.Conc Go.Tw Go.RowKit
def iS:ϕ:=(Tryz.f21.body).getD .skip
def iK:ϕ:=iS
def iL:ϕ:=aS iK
def iM:ϕ:=aS iL
def jm:ϕ:=aS iM
def jH:ϕ:=aS jm
def j4:ϕ:=aS jH
def kK:ϕ:=aS j4
def lr:ϕ:=aS kK
def lM:ϕ:=aS lr
def mo:ϕ:=aS lM
def nu:ϕ:=aS mo
def oo:ϕ:=aS nu
def pb:ϕ:=aS oo
def pW:ϕ:=aS pb
def qV:ϕ:=aS pW
def su:ϕ:=aS qV
def uA:ϕ:=aS su
def vZ:ϕ:=aS uA
def yH:ϕ:=aS vZ
def yI:ϕ:=aS yH
def Ba:ϕ:=aS yI
def Di:ϕ:=aS Ba
def Gz:ϕ:=aS Di
def Kv:ϕ:=aS Gz
def Kw:ϕ:=aS Kv
def yJ:ϕ:=aS Kw
def vV:ϕ:=bp iK
def vW:ϕ:=bp iL
def vX:ϕ:=bp iM
def tO:ϕ:=bp jm
def tP:ϕ:=bp jH
def tQ:ϕ:=bp j4
def tR:ϕ:=bp kK
def tS:ϕ:=bp lr
def tT:ϕ:=bp lM
def tU:ϕ:=bp mo
def tF:ϕ:=bp nu
def tG:ϕ:=bp oo
def tH:ϕ:=bp pb
def tI:ϕ:=bp pW
def tJ:ϕ:=bp qV
def tK:ϕ:=bp su
def tL:ϕ:=bp uA
def tM:ϕ:=bp vZ
def Kb:ϕ:=bp yH
def yB:ϕ:=bp yI
def yC:ϕ:=bp Ba
def yD:ϕ:=bp Di
def yE:ϕ:=bp Gz
def tN:ϕ:=bp Kv
def yF:ϕ:=bp Kw
def acs:Tryz.f21.body=φ (chain [vV,vW,vX,tO,tP,tQ,tR,tS,tT,tU,tF,tG,tH,tI,tJ,tK,tL,tM] (.seq Kb (chain [yB,yC,yD,yE,tN,yF] yJ))):=rfl
def adB:∀c∈ [vV,vW,vX,tO,tP,tQ,tR,tS,tT,tU,tF,tG,tH,tI,tJ,tK,tL,tM],C0.clean c:=by
 have h: [vV,vW,vX,tO,tP,tQ,tR,tS,tT,tU,tF,tG,tH,tI,tJ,tK,tL,tM].all (cC ϋ G0)=θ:=by decide+kernel
 intro c hc;exact ħ.1 h c hc
def Gq{P:Program}{ju:List ϕ}{F:Act->Ψ->Prop}{Q:Exit->Act->Ψ->Prop}(h2:∀a w,F a w->fu P ju Q a w):∀(wT:List ϕ) {a:Act} {w:Ψ},fu P wT (dK F) a w->fu P (wT++ju) Q a w
 | [],a,w,h=>h2 a w h
 |c::cs,a,w,h=>by
  show c.wp P (Exit.then (fu P (cs++ju) Q) Q) a w;have h:c.wp P (Exit.then (fu P cs (dK F)) (dK F)) a w:=h;refine Code.wp_mono (λe a w hq=>?_) h
  cases e with
  |normal=>exact Gq h2 cs hq
  |_=>exact(hq:False).elim
structure j6(w0 w:Ψ)(gE gp gb gk gt gl gc g3:Nat):Prop where
 ex:yQ w w0.heap.size gp gb gk gt gl
 bE:Bk w gE 26 #[ξ κ 1,ζ (φ ⟨gp,0,ν⟩) 3 3,ζ (φ ⟨gb,0,ν⟩) 2 2,ζ (φ ⟨gt,0,ν⟩) 1 1]
 bc:Bk w gc 56 #[ξ κ 1,ξ κ 0,ξ κ 0,ξ κ 0,ξ κ 0,ξ κ 4]
 b3:Bk w g3 56 #[ξ κ 1,ξ κ 0,ξ κ 0,ξ κ 0,ξ κ 0,ξ κ 6]
 below:Γ w0.heap.size w0 w
 lE:w0.heap.size<=gE
section
variable [Go.Tw.aK]
def j6.grown(h:j6 w0 w gE gp gb gk gt gl gc g3)(hb:Γ w.heap.size w w'):j6 w0 w' gE gp gb gk gt gl gc g3:=
 ⟨⟨h.ex.p.below hb h.ex.p.lt,h.ex.b.below hb h.ex.b.lt,h.ex.k.below hb h.ex.k.lt,h.ex.t.below hb h.ex.t.lt,h.ex.l.below hb h.ex.l.lt,h.ex.hp,h.ex.hb,h.ex.hk,h.ex.ht,h.ex.hl⟩,h.bE.below hb h.bE.lt,h.bc.below hb h.bc.lt,h.b3.below hb h.b3.lt,h.below.trans (hb.mono h.below.size),h.lE⟩
def afB{V:Ψ}{o:Obj}(h0:yQ V w0.heap.size gp gb gk gt gl)(hE:Bk V gE 26 #[ξ κ 1,ζ (φ ⟨gp,0,ν⟩) 3 3,ζ (φ ⟨gb,0,ν⟩) 2 2,ζ (φ ⟨gt,0,ν⟩) 1 1])
 (hc:Bk V gc 56 #[ξ κ 1,ξ κ 0,ξ κ 0,ξ κ 0,ξ κ 0,ξ κ 4])(hb:Γ w0.heap.size w0 V)(hl:w0.heap.size<=gE):
 j6 w0 ((V.drew.alloc o).alloc (Ξ #[ξ κ 1,ξ κ 0,ξ κ 0,ξ κ 0,ξ κ 0,ξ κ 6] 56)) gE gp gb gk gt gl gc (V.heap.size+1):=by
 have hx:Γ V.heap.size V ((V.drew.alloc o).alloc (Ξ #[ξ κ 1,ξ κ 0,ξ κ 0,ξ κ 0,ξ κ 0,ξ κ 6] 56)):=((dT (à _ _)).alloc (ϊ _) o).alloc (by simp) _
 exact⟨⟨h0.p.below hx h0.p.lt,h0.b.below hx h0.b.lt,h0.k.below hx h0.k.lt,h0.t.below hx h0.t.lt,h0.l.below hx h0.l.lt,h0.hp,h0.hb,h0.hk,h0.ht,h0.hl⟩,hE.below hx hE.lt,hc.below hx hc.lt,Bk.bZ (by simp) _ _,hb.trans (hx.mono hb.size),hl⟩
def FA(w0:Ψ)(a:Act)(w:Ψ):Prop:=a.defers=[cQ]/\a.tmps.size=349/\a.tmps[0]?=φ (.bool χ)/\∃gE gp gb gk gt gl gc g3,a.tmps[1]?=φ (π (φ ⟨gE,0,ν⟩))/\a.tmps[2]?=φ (ζ (φ ⟨gc,0,ν⟩) 3 3)/\a.tmps[3]?=φ (ζ (φ ⟨g3,0,ν⟩) 3 3)/\j6 w0 w gE gp gb gk gt gl gc g3
end
def lit(x:Nat->υ):List υ:=x 0::x 1::x 2::x 3::x 4::x 5::x 6::x 7::x 8::x 9::x 10::x 11::x 12::x 13::x 14::x 15::x 16::x 17::x 18::x 19::x 20::x 21::x 22::x 23::x 24::x 25::x 26::x 27::x 28::x 29::x 30::x 31::x 32::x 33::x 34::x 35::x 36::x 37::x 38::x 39::x 40::x 41::x 42::x 43::x 44::x 45::x 46::x 47::x 48::x 49::x 50::x 51::x 52::x 53::x 54::x 55::x 56::x 57::x 58::x 59::x 60::x 61::x 62::x 63::x 64::x 65::x 66::x 67::x 68::x 69::x 70::x 71::x 72::x 73::x 74::x 75::x 76::x 77::x 78::x 79::x 80::x 81::x 82::x 83::x 84::x 85::x 86::x 87::x 88::x 89::x 90::x 91::x 92::x 93::x 94::x 95::x 96::x 97::x 98::x 99::x 100::x 101::x 102::x 103::x 104::x 105::x 106::x 107::x 108::x 109::x 110::x 111::x 112::x 113::x 114::x 115::x 116::x 117::x 118::x 119::x 120::x 121::x 122::x 123::x 124::x 125::x 126::x 127::x 128::x 129::x 130::x 131::x 132::x 133::x 134::x 135::x 136::x 137::x 138::x 139::x 140::x 141::x 142::x 143::x 144::x 145::x 146::x 147::x 148::x 149::x 150::x 151::x 152::x 153::x 154::x 155::x 156::x 157::x 158::x 159::x 160::x 161::x 162::x 163::x 164::x 165::x 166::x 167::x 168::x 169::x 170::x 171::x 172::x 173::x 174::x 175::x 176::x 177::x 178::x 179::x 180::x 181::x 182::x 183::x 184::x 185::x 186::x 187::x 188::x 189::x 190::x 191::x 192::x 193::x 194::x 195::x 196::x 197::x 198::x 199::x 200::x 201::x 202::x 203::x 204::x 205::x 206::x 207::x 208::x 209::x 210::x 211::x 212::x 213::x 214::x 215::x 216::x 217::x 218::x 219::x 220::x 221::x 222::x 223::x 224::x 225::x 226::x 227::x 228::x 229::x 230::x 231::x 232::x 233::x 234::x 235::x 236::x 237::x 238::x 239::x 240::x 241::x 242::x 243::x 244::x 245::x 246::x 247::x 248::x 249::x 250::x 251::x 252::x 253::x 254::x 255::x 256::x 257::x 258::x 259::x 260::x 261::x 262::x 263::x 264::x 265::x 266::x 267::x 268::x 269::x 270::x 271::x 272::x 273::x 274::x 275::x 276::x 277::x 278::x 279::x 280::x 281::x 282::x 283::x 284::x 285::x 286::x 287::x 288::x 289::x 290::x 291::x 292::x 293::x 294::x 295::x 296::x 297::x 298::x 299::x 300::x 301::x 302::x 303::x 304::x 305::x 306::x 307::x 308::x 309::x 310::x 311::x 312::x 313::x 314::x 315::x 316::x 317::x 318::x 319::x 320::x 321::x 322::x 323::x 324::x 325::x 326::x 327::x 328::x 329::x 330::x 331::x 332::x 333::x 334::x 335::x 336::x 337::x 338::x 339::x 340::x 341::x 342::x 343::x 344::x 345::x 346::x 347::x 348:: []
def akq(x:Nat->υ):lit x=(ϸ 349).map x:=rfl
def Xj(u:Array υ)(h:u.size=349):∃x:Nat->υ,u=(lit x).toArray/\∀i v,u[i]?=φ v->x i=v:=by
 refine⟨λi=>u.getD i ω,?_,λi v hv=>?_⟩
 ·rw[akq]
  apply Array.ext
  ·simp[h]
  ·intro i h1 h2
   simp[Õ,h1]
 ·simp[Õ,hv]
def Sl(m:List (Nat×υ))(a:Act):Prop:=a.defers=[cQ]/\a.tmps.size=349/\∀p∈m,a.tmps[p.1]?=φ p.2
def Sl.get{m:List (Nat×υ)}(h:Sl m a)(hm:(i,v)∈m):a.tmps[i]?=φ v:=h.2.2 (i,v) hm
def eY{p:α->Prop}{a:α}{l:List α}(h1:p a)(h2:∀x∈l,p x):∀x∈a::l,p x:=λx hx=>(ϥ.1 hx).elim (λe=>e▸h1) (h2 x)
def jF{p:α->Prop}:∀x∈([]:List α),p x:=λ_ h=>absurd h Λ
def Al:List (Nat×υ)->(Nat->υ)->Prop
 | [],_=>True
 |p::m,x=>x p.1=p.2/\Al m x
def Sl.lit{m:List (Nat×υ)}{a:Act}(h:Sl m a):∃x,a=⟨(lit x).toArray,[cQ]⟩/\Al m x:=by
 obtain⟨u,d⟩:=a;obtain⟨hd,hz,hm⟩:=h;simp only at hd hz hm;subst hd;obtain⟨x,rfl,hx⟩:=Xj u hz;refine⟨x,rfl,?_⟩
 clear hz;induction m with
 |nil=>trivial
 |cons p m ih=>exact⟨hx _ _ (hm p (by simp)),ih λq hq=>hm q (by simp[hq])⟩
def jZ{c:ϕ}{cs:List ϕ}{F:Act->Ψ->Prop}{Q:Exit->Act->Ψ->Prop}(h:c.wp P (dK F) a w)(h2:∀a w,F a w->fu P cs Q a w):fu P (c::cs) Q a w:=by
 show c.wp P (Exit.then (fu P cs Q) Q) a w;refine Code.wp_mono (λe a w hq=>?_) h
 cases e with
 |normal=>exact h2 a w hq
 |_=>exact(hq:False).elim
end Go.Jn
namespace Go.Jn
open Go Go.Proofs Go.Sim Go.Conc Go.Tw Go.RowKit
section
variable [Go.Tw.aK]
def rz3{W:Option Addr->Nat->Nat->Ψ->Prop}(hs:Sl [(0,.bool χ),(1,π (φ ⟨gE,0,ν⟩)),(2,ζ (φ ⟨gc,0,ν⟩) 3 3),(3,ζ (φ ⟨g3,0,ν⟩) 3 3)] a)(hc:Bk w gE 26 #[ξ κ 1,ζ (φ ⟨gp,0,ν⟩) 3 3,ζ (φ ⟨gb,0,ν⟩) 2 2,ζ (φ ⟨gt,0,ν⟩) 1 1])
 (aG:ύ prog 47 #[η #[ξ κ 1,ζ (φ ⟨gp,0,ν⟩) 3 3,ζ (φ ⟨gb,0,ν⟩) 2 2,ζ (φ ⟨gt,0,ν⟩) 1 1],ξ κ 0] w λe w'=>∃A4 n4 c4,e=Ω (μ #[.slice A4 n4 c4,ξ κ 0])/\W A4 n4 c4 w'):tO.wp prog (dK λa w=>∃A4 n4 c4,Sl [(0,.bool χ),(1,π (φ ⟨gE,0,ν⟩)),(2,ζ (φ ⟨gc,0,ν⟩) 3 3),(3,ζ (φ ⟨g3,0,ν⟩) 3 3),(4,.slice A4 n4 c4),(5,ξ κ 0)] a/\W A4 n4 c4 w) a w:=by
 obtain⟨x,rfl,hx⟩:=hs.lit;simp only[Al] at hx;have q0:=hc.cell 0;have q1:=hc.cell 1;have q2:=hc.cell 2;have q3:=hc.cell 3;have aG:=ψ aG;clear hc;unfold lit;simp only[hx];simp only[tO,jm,iM,iL,iK,iS,Tryz.f21,bp,aS,À];go_wp2_with (go_at_call 47;refine aG.e.mono ?_;rintro e w1 ⟨A4,n4,c4,rfl,hp⟩;have HP:=ψ hp;clear hp)
 exact⟨A4,n4,c4,⟨rfl,rfl,(by repeat first|exact jF|refine eY rfl ?_)⟩,HP.e⟩
def rz4{W:Ψ->Prop}(hs:Sl [(0,.bool χ),(1,π (φ ⟨gE,0,ν⟩)),(2,ζ (φ ⟨gc,0,ν⟩) 3 3),(3,ζ (φ ⟨g3,0,ν⟩) 3 3),(4,.slice A4 n4 c4),(5,ξ κ 0)] a)(hc:Bk w gE 26 #[ξ κ 1,ζ (φ ⟨gp,0,ν⟩) 3 3,ζ (φ ⟨gb,0,ν⟩) 2 2,ζ (φ ⟨gt,0,ν⟩) 1 1])
 (aG:ύ prog 48 #[η #[ξ κ 1,ζ (φ ⟨gp,0,ν⟩) 3 3,ζ (φ ⟨gb,0,ν⟩) 2 2,ζ (φ ⟨gt,0,ν⟩) 1 1],ξ κ 0,ξ κ 0] w λe w'=>e=Ω (μ #[ξ κ 4,ξ κ 0])/\W w'):tP.wp prog (dK λa w=>Sl [(0,.bool χ),(1,π (φ ⟨gE,0,ν⟩)),(2,ζ (φ ⟨gc,0,ν⟩) 3 3),(3,ζ (φ ⟨g3,0,ν⟩) 3 3),(4,.slice A4 n4 c4),(5,ξ κ 0),(6,ξ κ 4),(7,ξ κ 0)] a/\W w) a w:=by
 obtain⟨x,rfl,hx⟩:=hs.lit;simp only[Al] at hx;have q0:=hc.cell 0;have q1:=hc.cell 1;have q2:=hc.cell 2;have q3:=hc.cell 3;have aG:=ψ aG;clear hc;unfold lit;simp only[hx];simp only[tP,jH,jm,iM,iL,iK,iS,Tryz.f21,bp,aS,À];go_wp2_with (go_at_call 48;refine aG.e.mono ?_;rintro e w1 ⟨rfl,hp⟩;have HP:=ψ hp;clear hp)
 exact⟨⟨rfl,rfl,(by repeat first|exact jF|refine eY rfl ?_)⟩,HP.e⟩
def rz5{W:Ψ->Prop}(hs:Sl [(0,.bool χ),(1,π (φ ⟨gE,0,ν⟩)),(2,ζ (φ ⟨gc,0,ν⟩) 3 3),(3,ζ (φ ⟨g3,0,ν⟩) 3 3),(4,.slice A4 n4 c4),(5,ξ κ 0),(6,ξ κ 4),(7,ξ κ 0)] a)(hc:Bk w gE 26 #[ξ κ 1,ζ (φ ⟨gp,0,ν⟩) 3 3,ζ (φ ⟨gb,0,ν⟩) 2 2,ζ (φ ⟨gt,0,ν⟩) 1 1])
 (aG:ύ prog 48 #[η #[ξ κ 1,ζ (φ ⟨gp,0,ν⟩) 3 3,ζ (φ ⟨gb,0,ν⟩) 2 2,ζ (φ ⟨gt,0,ν⟩) 1 1],ξ κ 0,ξ κ 1] w λe w'=>e=Ω (μ #[ξ κ 8,ξ κ 0])/\W w'):tQ.wp prog (dK λa w=>Sl [(0,.bool χ),(1,π (φ ⟨gE,0,ν⟩)),(2,ζ (φ ⟨gc,0,ν⟩) 3 3),(3,ζ (φ ⟨g3,0,ν⟩) 3 3),(4,.slice A4 n4 c4),(5,ξ κ 0),(6,ξ κ 4),(7,ξ κ 0),(8,ξ κ 8),(9,ξ κ 0)] a/\W w) a w:=by
 obtain⟨x,rfl,hx⟩:=hs.lit;simp only[Al] at hx;have q0:=hc.cell 0;have q1:=hc.cell 1;have q2:=hc.cell 2;have q3:=hc.cell 3;have aG:=ψ aG;clear hc;unfold lit;simp only[hx];simp only[tQ,j4,jH,jm,iM,iL,iK,iS,Tryz.f21,bp,aS,À];go_wp2_with (go_at_call 48;refine aG.e.mono ?_;rintro e w1 ⟨rfl,hp⟩;have HP:=ψ hp;clear hp)
 exact⟨⟨rfl,rfl,(by repeat first|exact jF|refine eY rfl ?_)⟩,HP.e⟩
def rz8{W:Ψ->Prop}(hs:Sl [(0,.bool χ),(1,π (φ ⟨gE,0,ν⟩)),(2,ζ (φ ⟨gc,0,ν⟩) 3 3),(3,ζ (φ ⟨g3,0,ν⟩) 3 3),(4,.slice A4 n4 c4),(5,ξ κ 0),(6,ξ κ 4),(7,ξ κ 0),(8,ξ κ 8),(9,ξ κ 0),(10,.bool θ),(11,ξ κ 0),(12,.bool χ),(13,ξ κ 0)] a)(hc:Bk w gE 26 #[ξ κ 1,ζ (φ ⟨gp,0,ν⟩) 3 3,ζ (φ ⟨gb,0,ν⟩) 2 2,ζ (φ ⟨gt,0,ν⟩) 1 1])
 (aG:ύ prog 22 #[η #[ξ κ 1,ζ (φ ⟨gp,0,ν⟩) 3 3,ζ (φ ⟨gb,0,ν⟩) 2 2,ζ (φ ⟨gt,0,ν⟩) 1 1]] w λe w'=>e=Ω (μ #[ξ κ 2,ξ κ 0])/\W w'):tT.wp prog (dK λa w=>Sl [(0,.bool χ),(1,π (φ ⟨gE,0,ν⟩)),(2,ζ (φ ⟨gc,0,ν⟩) 3 3),(3,ζ (φ ⟨g3,0,ν⟩) 3 3),(4,.slice A4 n4 c4),(5,ξ κ 0),(6,ξ κ 4),(7,ξ κ 0),(8,ξ κ 8),(9,ξ κ 0),(10,.bool θ),(11,ξ κ 0),(12,.bool χ),(13,ξ κ 0),(14,ξ κ 2),(15,ξ κ 0)] a/\W w) a w:=by
 obtain⟨x,rfl,hx⟩:=hs.lit;simp only[Al] at hx;have q0:=hc.cell 0;have q1:=hc.cell 1;have q2:=hc.cell 2;have q3:=hc.cell 3;have aG:=ψ aG;clear hc;unfold lit;simp only[hx];simp only[tT,lM,lr,kK,j4,jH,jm,iM,iL,iK,iS,Tryz.f21,bp,aS,À];go_wp2_with (go_at_call 22;refine aG.e.mono ?_;rintro e w1 ⟨rfl,hp⟩;have HP:=ψ hp;clear hp)
 exact⟨⟨rfl,rfl,(by repeat first|exact jF|refine eY rfl ?_)⟩,HP.e⟩
def rz9{W:Option Addr->Nat->Nat->Ψ->Prop}(hs:Sl [(0,.bool χ),(1,π (φ ⟨gE,0,ν⟩)),(2,ζ (φ ⟨gc,0,ν⟩) 3 3),(3,ζ (φ ⟨g3,0,ν⟩) 3 3),(4,.slice A4 n4 c4),(5,ξ κ 0),(6,ξ κ 4),(7,ξ κ 0),(8,ξ κ 8),(9,ξ κ 0),(10,.bool θ),(11,ξ κ 0),(12,.bool χ),(13,ξ κ 0),(14,ξ κ 2),(15,ξ κ 0)] a)(hc:Bk w gE 26 #[ξ κ 1,ζ (φ ⟨gp,0,ν⟩) 3 3,ζ (φ ⟨gb,0,ν⟩) 2 2,ζ (φ ⟨gt,0,ν⟩) 1 1])
 (aG:ύ prog 24 #[η #[ξ κ 1,ζ (φ ⟨gp,0,ν⟩) 3 3,ζ (φ ⟨gb,0,ν⟩) 2 2,ζ (φ ⟨gt,0,ν⟩) 1 1],ξ κ 0] w λe w'=>∃lN n16 c16,e=Ω (μ #[.slice lN n16 c16,ξ κ 0])/\W lN n16 c16 w'):tU.wp prog (dK λa w=>∃lN n16 c16,Sl [(0,.bool χ),(1,π (φ ⟨gE,0,ν⟩)),(2,ζ (φ ⟨gc,0,ν⟩) 3 3),(3,ζ (φ ⟨g3,0,ν⟩) 3 3),(4,.slice A4 n4 c4),(5,ξ κ 0),(6,ξ κ 4),(7,ξ κ 0),(8,ξ κ 8),(9,ξ κ 0),(10,.bool θ),(11,ξ κ 0),(12,.bool χ),(13,ξ κ 0),(14,ξ κ 2),(15,ξ κ 0),(16,.slice lN n16 c16),(17,ξ κ 0)] a/\W lN n16 c16 w) a w:=by
 obtain⟨x,rfl,hx⟩:=hs.lit;simp only[Al] at hx;have q0:=hc.cell 0;have q1:=hc.cell 1;have q2:=hc.cell 2;have q3:=hc.cell 3;have aG:=ψ aG;clear hc;unfold lit;simp only[hx];simp only[tU,mo,lM,lr,kK,j4,jH,jm,iM,iL,iK,iS,Tryz.f21,bp,aS,À];go_wp2_with (go_at_call 24;refine aG.e.mono ?_;rintro e w1 ⟨lN,n16,c16,rfl,hp⟩;have HP:=ψ hp;clear hp)
 exact⟨lN,n16,c16,⟨rfl,rfl,(by repeat first|exact jF|refine eY rfl ?_)⟩,HP.e⟩
def an4{W:Ψ->Prop}(hs:Sl [(0,.bool χ),(1,π (φ ⟨gE,0,ν⟩)),(2,ζ (φ ⟨gc,0,ν⟩) 3 3),(3,ζ (φ ⟨g3,0,ν⟩) 3 3)] a)(hc:Bk w gE 26 #[ξ κ 1,ζ (φ ⟨gp,0,ν⟩) 3 3,ζ (φ ⟨gb,0,ν⟩) 2 2,ζ (φ ⟨gt,0,ν⟩) 1 1])
 (aG:ύ prog 28 #[η #[ξ κ 1,ζ (φ ⟨gp,0,ν⟩) 3 3,ζ (φ ⟨gb,0,ν⟩) 2 2,ζ (φ ⟨gt,0,ν⟩) 1 1],ζ (φ ⟨gc,0,ν⟩) 3 3] w λe w'=>e=Ω (μ #[ξ κ 1,ξ κ 0])/\W w'):tH.wp prog (dK λa w=>Sl [(0,.bool χ),(1,π (φ ⟨gE,0,ν⟩)),(2,ζ (φ ⟨gc,0,ν⟩) 3 3),(3,ζ (φ ⟨g3,0,ν⟩) 3 3),(5,ξ κ 0),(20,ξ κ 1)] a/\W w) a w:=by
 obtain⟨x,rfl,hx⟩:=hs.lit;simp only[Al] at hx;have q0:=hc.cell 0;have q1:=hc.cell 1;have q2:=hc.cell 2;have q3:=hc.cell 3;have aG:=ψ aG;clear hc;unfold lit;simp only[hx];simp only[tH,pb,oo,nu,mo,lM,lr,kK,j4,jH,jm,iM,iL,iK,iS,Tryz.f21,bp,aS,À];go_wp2_with (go_at_call 28;refine aG.e.mono ?_;rintro e w1 ⟨rfl,hp⟩;have HP:=ψ hp;clear hp)
 exact⟨⟨rfl,rfl,(by repeat first|exact jF|refine eY rfl ?_)⟩,HP.e⟩
def an5{W:Ψ->Prop}(hs:Sl [(0,.bool χ),(1,π (φ ⟨gE,0,ν⟩)),(2,ζ (φ ⟨gc,0,ν⟩) 3 3),(3,ζ (φ ⟨g3,0,ν⟩) 3 3),(5,ξ κ 0),(20,ξ κ 1)] a)(hc:Bk w gE 26 #[ξ κ 1,ζ (φ ⟨gp,0,ν⟩) 3 3,ζ (φ ⟨gb,0,ν⟩) 2 2,ζ (φ ⟨gt,0,ν⟩) 1 1])
 (aG:ύ prog 28 #[η #[ξ κ 1,ζ (φ ⟨gp,0,ν⟩) 3 3,ζ (φ ⟨gb,0,ν⟩) 2 2,ζ (φ ⟨gt,0,ν⟩) 1 1],ζ (φ ⟨g3,0,ν⟩) 3 3] w λe w'=>e=Ω (μ #[ξ κ 0,ξ κ 0])/\W w'):tI.wp prog (dK λa w=>Sl [(0,.bool χ),(1,π (φ ⟨gE,0,ν⟩)),(2,ζ (φ ⟨gc,0,ν⟩) 3 3),(3,ζ (φ ⟨g3,0,ν⟩) 3 3),(5,ξ κ 0),(7,ξ κ 0),(20,ξ κ 1),(21,ξ κ 0)] a/\W w) a w:=by
 obtain⟨x,rfl,hx⟩:=hs.lit;simp only[Al] at hx;have q0:=hc.cell 0;have q1:=hc.cell 1;have q2:=hc.cell 2;have q3:=hc.cell 3;have aG:=ψ aG;clear hc;unfold lit;simp only[hx];simp only[tI,pW,pb,oo,nu,mo,lM,lr,kK,j4,jH,jm,iM,iL,iK,iS,Tryz.f21,bp,aS,À];go_wp2_with (go_at_call 28;refine aG.e.mono ?_;rintro e w1 ⟨rfl,hp⟩;have HP:=ψ hp;clear hp)
 exact⟨⟨rfl,rfl,(by repeat first|exact jF|refine eY rfl ?_)⟩,HP.e⟩
def an6{W:Option Addr->Nat->Nat->Ψ->Prop}(hs:Sl [(0,.bool χ),(1,π (φ ⟨gE,0,ν⟩)),(2,ζ (φ ⟨gc,0,ν⟩) 3 3),(3,ζ (φ ⟨g3,0,ν⟩) 3 3),(5,ξ κ 0),(7,ξ κ 0),(20,ξ κ 1),(21,ξ κ 0)] a)(hc:Bk w gE 26 #[ξ κ 1,ζ (φ ⟨gp,0,ν⟩) 3 3,ζ (φ ⟨gb,0,ν⟩) 2 2,ζ (φ ⟨gt,0,ν⟩) 1 1])
 (aG:ύ prog 31 #[η #[ξ κ 1,ζ (φ ⟨gp,0,ν⟩) 3 3,ζ (φ ⟨gb,0,ν⟩) 2 2,ζ (φ ⟨gt,0,ν⟩) 1 1],ζ (φ ⟨gc,0,ν⟩) 3 3] w λe w'=>∃dF n22 c22,e=Ω (μ #[.slice dF n22 c22,ξ κ 0])/\W dF n22 c22 w'):tJ.wp prog (dK λa w=>∃dF n22 c22,Sl [(0,.bool χ),(1,π (φ ⟨gE,0,ν⟩)),(2,ζ (φ ⟨gc,0,ν⟩) 3 3),(3,ζ (φ ⟨g3,0,ν⟩) 3 3),(5,ξ κ 0),(7,ξ κ 0),(9,ξ κ 0),(20,ξ κ 1),(21,ξ κ 0),(22,.slice dF n22 c22)] a/\W dF n22 c22 w) a w:=by
 obtain⟨x,rfl,hx⟩:=hs.lit;simp only[Al] at hx;have q0:=hc.cell 0;have q1:=hc.cell 1;have q2:=hc.cell 2;have q3:=hc.cell 3;have aG:=ψ aG;clear hc;unfold lit;simp only[hx];simp only[tJ,qV,pW,pb,oo,nu,mo,lM,lr,kK,j4,jH,jm,iM,iL,iK,iS,Tryz.f21,bp,aS,À];go_wp2_with (go_at_call 31;refine aG.e.mono ?_;rintro e w1 ⟨dF,n22,c22,rfl,hp⟩;have HP:=ψ hp;clear hp)
 exact⟨dF,n22,c22,⟨rfl,rfl,(by repeat first|exact jF|refine eY rfl ?_)⟩,HP.e⟩
def an7{W:Ψ->Prop}(hs:Sl [(0,.bool χ),(1,π (φ ⟨gE,0,ν⟩)),(2,ζ (φ ⟨gc,0,ν⟩) 3 3),(3,ζ (φ ⟨g3,0,ν⟩) 3 3),(5,ξ κ 0),(7,ξ κ 0),(9,ξ κ 0),(20,ξ κ 1),(21,ξ κ 0),(22,.slice dF n22 c22)] a)(hc:Bk w gE 26 #[ξ κ 1,ζ (φ ⟨gp,0,ν⟩) 3 3,ζ (φ ⟨gb,0,ν⟩) 2 2,ζ (φ ⟨gt,0,ν⟩) 1 1])
 (aG:ύ prog 31 #[η #[ξ κ 1,ζ (φ ⟨gp,0,ν⟩) 3 3,ζ (φ ⟨gb,0,ν⟩) 2 2,ζ (φ ⟨gt,0,ν⟩) 1 1],ζ (φ ⟨g3,0,ν⟩) 3 3] w λe w'=>e=Ω (μ #[ζ ν 0 0,ξ κ 8])/\W w'):tK.wp prog (dK λa w=>Sl [(0,.bool χ),(1,π (φ ⟨gE,0,ν⟩)),(2,ζ (φ ⟨gc,0,ν⟩) 3 3),(3,ζ (φ ⟨g3,0,ν⟩) 3 3),(5,ξ κ 0),(7,ξ κ 0),(9,ξ κ 0),(20,ξ κ 1),(21,ξ κ 0),(22,.slice dF n22 c22),(23,ζ ν 0 0),(24,ξ κ 8)] a/\W w) a w:=by
 obtain⟨x,rfl,hx⟩:=hs.lit;simp only[Al] at hx;have q0:=hc.cell 0;have q1:=hc.cell 1;have q2:=hc.cell 2;have q3:=hc.cell 3;have aG:=ψ aG;clear hc;unfold lit;simp only[hx];simp only[tK,su,qV,pW,pb,oo,nu,mo,lM,lr,kK,j4,jH,jm,iM,iL,iK,iS,Tryz.f21,bp,aS,À];go_wp2_with (go_at_call 31;refine aG.e.mono ?_;rintro e w1 ⟨rfl,hp⟩;have HP:=ψ hp;clear hp)
 exact⟨⟨rfl,rfl,(by repeat first|exact jF|refine eY rfl ?_)⟩,HP.e⟩
def an8{W:Option Addr->Nat->Nat->Ψ->Prop}(hs:Sl [(0,.bool χ),(1,π (φ ⟨gE,0,ν⟩)),(2,ζ (φ ⟨gc,0,ν⟩) 3 3),(3,ζ (φ ⟨g3,0,ν⟩) 3 3),(5,ξ κ 0),(7,ξ κ 0),(9,ξ κ 0),(20,ξ κ 1),(21,ξ κ 0),(22,.slice dF n22 c22),(23,ζ ν 0 0),(24,ξ κ 8)] a)(hc:Bk w gE 26 #[ξ κ 1,ζ (φ ⟨gp,0,ν⟩) 3 3,ζ (φ ⟨gb,0,ν⟩) 2 2,ζ (φ ⟨gt,0,ν⟩) 1 1])
 (aG:ύ prog 33 #[η #[ξ κ 1,ζ (φ ⟨gp,0,ν⟩) 3 3,ζ (φ ⟨gb,0,ν⟩) 2 2,ζ (φ ⟨gt,0,ν⟩) 1 1]] w λe w'=>∃cu n25 cw,e=Ω (μ #[.slice cu n25 cw,ξ κ 2,.bool θ,ξ κ 0])/\W cu n25 cw w'):tL.wp prog (dK λa w=>∃cu n25 cw,Sl [(0,.bool χ),(1,π (φ ⟨gE,0,ν⟩)),(2,ζ (φ ⟨gc,0,ν⟩) 3 3),(3,ζ (φ ⟨g3,0,ν⟩) 3 3),(5,ξ κ 0),(7,ξ κ 0),(9,ξ κ 0),(11,ξ κ 0),(20,ξ κ 1),(21,ξ κ 0),(22,.slice dF n22 c22),(23,ζ ν 0 0),(24,ξ κ 8),(25,.slice cu n25 cw),(26,ξ κ 2),(27,.bool θ)] a/\W cu n25 cw w) a w:=by
 obtain⟨x,rfl,hx⟩:=hs.lit;simp only[Al] at hx;have q0:=hc.cell 0;have q1:=hc.cell 1;have q2:=hc.cell 2;have q3:=hc.cell 3;have aG:=ψ aG;clear hc;unfold lit;simp only[hx];simp only[tL,uA,su,qV,pW,pb,oo,nu,mo,lM,lr,kK,j4,jH,jm,iM,iL,iK,iS,Tryz.f21,bp,aS,À];go_wp2_with (go_at_call 33;refine aG.e.mono ?_;rintro e w1 ⟨cu,n25,cw,rfl,hp⟩;have HP:=ψ hp;clear hp)
 exact⟨cu,n25,cw,⟨rfl,rfl,(by repeat first|exact jF|refine eY rfl ?_)⟩,HP.e⟩
def an9{W:Option Addr->Nat->Nat->Ψ->Prop}(hs:Sl [(0,.bool χ),(1,π (φ ⟨gE,0,ν⟩)),(2,ζ (φ ⟨gc,0,ν⟩) 3 3),(3,ζ (φ ⟨g3,0,ν⟩) 3 3),(5,ξ κ 0),(7,ξ κ 0),(9,ξ κ 0),(11,ξ κ 0),(20,ξ κ 1),(21,ξ κ 0),(22,.slice dF n22 c22),(23,ζ ν 0 0),(24,ξ κ 8),(25,.slice cu n25 cw),(26,ξ κ 2),(27,.bool θ)] a)(hc:Bk w gE 26 #[ξ κ 1,ζ (φ ⟨gp,0,ν⟩) 3 3,ζ (φ ⟨gb,0,ν⟩) 2 2,ζ (φ ⟨gt,0,ν⟩) 1 1])
 (aG:ύ prog 36 #[η #[ξ κ 1,ζ (φ ⟨gp,0,ν⟩) 3 3,ζ (φ ⟨gb,0,ν⟩) 2 2,ζ (φ ⟨gt,0,ν⟩) 1 1]] w λe w'=>∃eG n28 eI,e=Ω (μ #[.slice eG n28 eI,ξ κ 14,.bool θ,ξ κ 0])/\W eG n28 eI w'):tM.wp prog (dK λa w=>∃eG n28 eI,Sl [(0,.bool χ),(1,π (φ ⟨gE,0,ν⟩)),(2,ζ (φ ⟨gc,0,ν⟩) 3 3),(3,ζ (φ ⟨g3,0,ν⟩) 3 3),(5,ξ κ 0),(7,ξ κ 0),(9,ξ κ 0),(11,ξ κ 0),(13,ξ κ 0),(20,ξ κ 1),(21,ξ κ 0),(22,.slice dF n22 c22),(23,ζ ν 0 0),(24,ξ κ 8),(25,.slice cu n25 cw),(26,ξ κ 2),(27,.bool θ),(28,.slice eG n28 eI),(29,ξ κ 14),(30,.bool θ)] a/\W eG n28 eI w) a w:=by
 obtain⟨x,rfl,hx⟩:=hs.lit;simp only[Al] at hx;have q0:=hc.cell 0;have q1:=hc.cell 1;have q2:=hc.cell 2;have q3:=hc.cell 3;have aG:=ψ aG;clear hc;unfold lit;simp only[hx];simp only[tM,vZ,uA,su,qV,pW,pb,oo,nu,mo,lM,lr,kK,j4,jH,jm,iM,iL,iK,iS,Tryz.f21,bp,aS,À];go_wp2_with (go_at_call 36;refine aG.e.mono ?_;rintro e w1 ⟨eG,n28,eI,rfl,hp⟩;have HP:=ψ hp;clear hp)
 exact⟨eG,n28,eI,⟨rfl,rfl,(by repeat first|exact jF|refine eY rfl ?_)⟩,HP.e⟩
def aoa{jI:Option Addr}{W:Ψ->Prop}(hs:Sl [(0,.bool χ),(1,π (φ ⟨gE,0,ν⟩)),(2,ζ (φ ⟨gc,0,ν⟩) 3 3),(3,ζ (φ ⟨g3,0,ν⟩) 3 3),(5,ξ κ 0),(7,ξ κ 0),(9,ξ κ 0),(11,ξ κ 0),(13,ξ κ 0),(15,ξ κ 0),(20,ξ κ 1),(21,ξ κ 0),(22,.slice dF n22 c22),(23,ζ ν 0 0),(24,ξ κ 8),(25,.slice cu n25 cw),(26,ξ κ 2),(27,.bool θ),(28,.slice eG n28 eI),(29,ξ κ 14),(30,.bool θ),(31,.slice jI n31 jN)] a)(hc:Bk w gE 26 #[ξ κ 1,ζ (φ ⟨gp,0,ν⟩) 3 3,ζ (φ ⟨gb,0,ν⟩) 2 2,ζ (φ ⟨gt,0,ν⟩) 1 1])
 (aG:ύ prog 61 #[η #[ξ κ 1,ζ (φ ⟨gp,0,ν⟩) 3 3,ζ (φ ⟨gb,0,ν⟩) 2 2,ζ (φ ⟨gt,0,ν⟩) 1 1]] w λe w'=>e=Ω (μ #[ξ κ 0,ξ κ 1,ξ κ 0])/\W w'):yB.wp prog (dK λa w=>Sl [(0,.bool χ),(1,π (φ ⟨gE,0,ν⟩)),(2,ζ (φ ⟨gc,0,ν⟩) 3 3),(3,ζ (φ ⟨g3,0,ν⟩) 3 3),(5,ξ κ 0),(7,ξ κ 0),(9,ξ κ 0),(11,ξ κ 0),(13,ξ κ 0),(15,ξ κ 0),(17,ξ κ 0),(20,ξ κ 1),(21,ξ κ 0),(22,.slice dF n22 c22),(23,ζ ν 0 0),(24,ξ κ 8),(25,.slice cu n25 cw),(26,ξ κ 2),(27,.bool θ),(28,.slice eG n28 eI),(29,ξ κ 14),(30,.bool θ),(31,.slice jI n31 jN),(32,ξ κ 0),(33,ξ κ 1)] a/\W w) a w:=by
 obtain⟨x,rfl,hx⟩:=hs.lit;simp only[Al] at hx;have q0:=hc.cell 0;have q1:=hc.cell 1;have q2:=hc.cell 2;have q3:=hc.cell 3;have aG:=ψ aG;clear hc;unfold lit;simp only[hx];simp only[yB,yI,yH,vZ,uA,su,qV,pW,pb,oo,nu,mo,lM,lr,kK,j4,jH,jm,iM,iL,iK,iS,Tryz.f21,bp,aS,À];go_wp2_with (go_at_call 61;refine aG.e.mono ?_;rintro e w1 ⟨rfl,hp⟩;have HP:=ψ hp;clear hp)
 exact⟨⟨rfl,rfl,(by repeat first|exact jF|refine eY rfl ?_)⟩,HP.e⟩
end
end Go.Jn
namespace Go.Jn
open Go
section
variable {P:Program}{md:Region.Mode}{ops:Array Oper}{Q:Exit->Act->Ψ->Prop}
def gL(n i:Nat):Array Bool:=Array.ofFn λk:Fin n=>decide (k.val<i)
def PF(h:k<n):(gL n i)[k]?=φ (decide (k<i)):=by
 unfold gL;rw[Aj5,dif_pos h]
def FN(d:Bool)(h:k<n):(gL n i).getD k d=decide (k<i):=by
 rw[Õ,PF h];rfl
def akC(n:Nat):Θ n χ=gL n 0:=by
 apply Array.ext
 ·simp[gL]
 ·intro k h1 h2
  simp[gL]
def PG(n i:Nat):(gL n i).size=n:=by simp[gL]
def AG(h:i<n):(gL n i).setIfInBounds i θ=gL n (i+1):=by
 apply Array.ext_getElem?;intro k;rw[Ö,PG]
 by_cases hk:k<n
 ·rw[PF hk,PF hk]
  split
  ·subst_vars;simp[hk]
  ·rename_i aw
   simp only[ó,decide_eq_decide];omega
 ·have h1:(gL n i)[k]?=ν:=by rw[Akv,PG];omega
  have h2:(gL n (i+1))[k]?=ν:=by rw[Akv,PG];omega
  rw[h1,h2,if_neg (by omega)]
def Xo(hj:j=i+1)(h:j<n):((gL n i).setIfInBounds i θ).setIfInBounds j θ=gL n (j+1):=by
 subst hj;rw[AG (by omega),AG h]
def akB(hj:j=i+1)(h:j<n):((gL n i).setIfInBounds j θ).setIfInBounds i θ=gL n (j+1):=by
 rw[Array.setIfInBounds_comm _ _ (by omega)]
 exact Xo hj h
def MQ(o:Oper)(j:Nat):Bool:=o.after.toList.all λe=>decide (e.on<j)
def ND(md:Region.Mode)(o:Oper)(k:Nat):Bool:=o.after.toList.any λe=>Region.binds md e && decide (k<=e.on)
def seqB(md:Region.Mode)(n s e:Nat):List Oper->Nat->Bool
 | [],_=>θ
 |o::l,j=>(decide (e<=j) ||MQ o j) && (decide (j<=s) ||ND md o (min (j - 1) (e - 1))) && (o.after.toList.all λx=>decide (x.on<n)) && seqB md n s e l (j+1)
def Yz{n s e:Nat}:∀(l:List Oper) (j:Nat),seqB md n s e l j=θ->∀(k:Nat) (o:Oper),l[k]?=φ o->(j+k<e->MQ o (j+k)=θ)/\(s<j+k->ND md o (min (j+k - 1) (e - 1))=θ)/\∀x∈o.after.toList,x.on<n
 | [],_,_,k,o,h=>by simp at h
 |p::l,j,hs,k,o,h=>by
  simp only[seqB,Bool.and_eq_true,Bool.or_eq_true,decide_eq_true_eq,ħ] at hs;obtain⟨⟨⟨h1,h2⟩,h3⟩,h4⟩:=hs;cases k with
  |zero=>
   simp only[List.getElem?_cons_zero,ó] at h
   subst h;refine⟨λhj=>h1.resolve_left (by omega),λhj=>h2.resolve_left (by omega),h3⟩
  |succ k=>
   simp only[List.getElem?_cons_succ] at h
   have:=Yz l (j+1) h4 k o h;rw[show j+1+k=j+(k+1) by omega] at this
   exact this
def filter_one{p:Nat->Bool}(hi:i<n)(h1:p i=θ)(h2:∀j,j<n->j≠i->p j=χ):(ϸ n).filter p=[i]:=by
 have e:(ϸ n).filter p=(ϸ n).filter (λj=>j==i):=by
  apply List.filter_congr;intro j hj;have hj:=ű.1 hj;by_cases e:j=i
  ·subst e;simp[h1]
  ·rw[h2 j hj e];simp[e]
 rw[e];have hn:(ϸ n).Nodup:=List.nodup_range;have hm:i∈ϸ n:=by simpa using hi
 have:∀l:List Nat,l.Nodup->i∈l->l.filter (λj=>j==i)=[i]:=by
  intro l;induction l with
  |nil=>intro _ h;cases h
  |cons a l ih=>
   intro oN ma;rw[List.nodup_cons] at oN;by_cases e:a=i
   ·subst e
    rw[List.filter_cons_of_pos (by simp)]
    have:l.filter (λj=>j==a)=[]:=by
     rw[List.filter_eq_nil_iff];intro b hb;simp only[beq_iff_eq];rintro rfl;exact oN.1 hb
    rw[this]
   ·rw[List.filter_cons_of_neg (by simpa using e)]
    exact ih oN.2 ((ϥ.1 ma).resolve_left (Ã e))
 exact this _ hn hm
def aoT{s:Nat}(h:seqB md ops.size s e ops.toList 0=θ)(hs:s<=i)(he:i<e)(hi:i<ops.size):É md ops (gL ops.size i)=[i]:=by
 have mN:∀k (hk:k<ops.size),_:=λk hk=>Yz ops.toList 0 h k ops[k] (by simp[hk])
 simp only[Nat.zero_add] at mN;refine filter_one hi ?_ λj hj aw=>?_
 ·rw[FN _ hi,è hi]
  simp only[Nat.lt_irrefl,decide_false,Bool.not_false,î,À,Bool.true_and];rw[<-Array.all_toList,ħ];intro x hx;obtain⟨h1,_,h3⟩:=mN i hi;have h1:=h1 he;unfold MQ at h1;rw[ħ] at h1;have O6:x.on<i:=by simpa using h1 x hx
  rw[FN _ (h3 x hx)];simp[O6]
 ·by_cases ao:j<i
  ·rw[FN _ hj];simp[ao]
  ·have vk:i<j:=by omega
   rw[FN _ hj,è hj]
   simp only[ao,decide_false,Bool.not_false,î,À,Bool.true_and];rw[<-Array.all_toList];obtain⟨_,h2,h3⟩:=mN j hj;have h2:=h2 (by omega)
   unfold ND at h2;rw[List.any_eq_true] at h2;obtain⟨x,hx,Cw⟩:=h2;simp only[Bool.and_eq_true,decide_eq_true_eq] at Cw;rw[List.all_eq_false];refine⟨x,hx,?_⟩
   rw[FN _ (h3 x hx),Cw.1];have:¬x.on<i:=by have:=Cw.2;omega
   simp[this]
def XT{K K':Act->Ψ->Prop}(h:o.wp P a w K' (Exit.then K Q)):o.wp P a w K' Q:=by
 unfold Oper.wp at *;generalize (execOp a.eval o).run P w=r at *;cases r with
 |ok n w'=>
  cases n<;>simp only[Oper.upon] at h |- <;>
   first
    |exact h
    |exact Calls.mono h (λe bz he=>by cases e<;>exact he)
 |halt x w'=>cases x<;>simp only[Oper.upon] at h |- <;>exact h
def ZG(hi:ops[i]?=φ o){K:Act->Ψ->Prop}{l:List Oper}{R:Exit->Act->Ψ->Prop}(hR:∀a w,ü P ops R l a w->K a w)(hp:∀ {o:Oper} {K':Act->Ψ->Prop} {a:Act} {w:Ψ},o.wp P a w K' R->o.wp P a w K' Q)(hl:LetsOut R->LetsOut Q)
 (h:ü P ops R (o::l) a w):wpOp P ops Q i K a w:=by
 unfold wpOp;simp only[hi];unfold ü at h;split
 ·rename_i hw
  rw[if_pos hw] at h;exact h.imp (λh=>Oper.wp_mono hR (hp h)) (λh=>⟨h.1,hl h.2⟩)
 ·rename_i hw
  rw[if_neg hw] at h;exact hR _ _ h
def wJ{fuel s e N:Nat}(hN:ops.size=N)(h:seqB md N s e ops.toList 0=θ)(he:e<=N):∀(n i:Nat) {a:Act} {w:Ψ},s<=i->i+n=e->
 ü P ops (Exit.then (æ P md ops Q fuel (gL N e)) Q) ((ops.toList.drop i).take n) a w->æ P md ops Q (fuel+n) (gL N i) a w
 |0,i,a,w,_,hie,h2=>by
  obtain rfl:i=e:=by omega
  have h2:Exit.then (æ P md ops Q fuel (gL N i)) Q .normal a w:=by simpa [ü] using h2
  exact h2
 |n+1,i,a,w,hs,hie,h2=>by
  rw[show fuel+(n+1)=(fuel+n)+1 by omega]
  have hi:i<ops.size:=by omega
  subst hN;refine wpAny_all (aoT h hs (by omega) hi) (by simp) λj hj=>?_
  obtain rfl:j=i:=by simpa using hj
  have hl:(ops.toList.drop j).take (n+1)=ops[j]::(ops.toList.drop (j+1)).take n:=by
   rw[List.drop_eq_getElem_cons (by simpa using hi),õ]
   simp
  rw[hl] at h2;rw[AG hi];exact ZG (è hi) (λa w h2=>wJ rfl h he n (j+1) (by omega) (by omega) h2) XT (λh=>h) h2
def aci{id N:Nat}(hm:P.follows .mixedOrders=θ)(hN:ops.size=N)(h:æ P .any ops Q N (gL N 0) a w.drew):(Code.region id ops θ).wp P Q a w:=by
 refine wp_region_any hm ?_
 rw[akC,hN];exact h
def Bv{l':Array Bool}(h:l=l')(hh:æ P md ops Q fuel l' a w):æ P md ops Q fuel l a w:=h▸hh
def L6{listed:Array Bool}(rs:List Nat)(hr:É md ops listed=rs)(aw:rs≠ [])(h:∀i∈rs,wpOp P ops Q i (æ P md ops Q fuel (listed.setIfInBounds i θ)) a w):æ P md ops Q (fuel+1) listed a w:=
 wpAny_all hr aw h
def JE{listed:Array Bool}(o:Oper)(hi:ops[i]?=φ o)(h:ü P ops (Exit.then (æ P md ops Q fuel (listed.setIfInBounds i θ)) Q) [o] a w):wpOp P ops Q i (æ P md ops Q fuel (listed.setIfInBounds i θ)) a w:=
 ZG (l:=[]) (R:=Exit.then (æ P md ops Q fuel (listed.setIfInBounds i θ)) Q) hi (λ_ _ h=>h) XT (λh=>h) h
def Hb{is:List Nat}{K:Nat->Prop}(h1:K i)(h2:∀k∈is,K k):∀k∈i::is,K k:=by
 intro k hk;rcases ϥ.1 hk with rfl|hk
 ·exact h1
 ·exact h2 k hk
def Ml{K:Nat->Prop}:∀k∈([]:List Nat),K k:=λ_ h=>absurd h Λ
def nj{rest:List Oper}{og:Oper}{b:Bool}(ig:o.guard=φ (g,b))(V2:ops.toList[g]?=φ og)(hd:og.dst=φ d)(ht:a.tmps[d]?=φ (.bool b))
 (h:∀K:Act->Ψ->Prop,(∀a w,ü P ops Q rest a w->K a w)->o.wp P a w K Q):ü P ops Q (o::rest) a w:=by
 refine wpList_step λK hK=>?_
 have hw:ε o (yielded ops a.tmps)=θ:=by
  unfold ε;rw[ig];rw[Array.getElem?_toList] at V2
  simp only[yielded,V2,Option.bind_some,hd,ht,beq_self_eq_true]
 rw[if_pos hw];exact h K hK
end
end Go.Jn
namespace Go.Jn
open Go Go.Proofs Go.Sim Go.Conc Go.Tw Go.RowKit
section
variable [Go.Tw.aK]
def za{sz:Nat}{R:α->List υ->Prop}{f:α->List υ}{xs:List α}(hb:Bk w g e cs)(hx:xs.length<=1000)(hf:∀x,(f x).length=sz)(hR:∀x∈xs,R x (f x))(hc:cs=(xs.flatMap f).toArray):
 Row w w.heap.size sz R (ζ (φ ⟨g,0,ν⟩) xs.length xs.length) xs:=by
 have sT:∀l:List α,(l.flatMap f).length=l.length * sz:=by
  intro l;induction l with
  |nil=>simp
  |cons a l ih=>simp only[List.flatMap_cons,List.length_append,ih,hf,List.length_cons,Nat.succ_mul];omega
 refine mZ (f:=f) ?_ hf hR (e:=e) (base:=g)
 refine⟨sT xs,.inr ⟨g,xs.length,cs,rfl,ϊ _,hb,ϊ _,by unfold maxLen;omega,by rw[hc,List.size_toArray,sT],?_⟩⟩
 rw[hc];simp only[List.toList_toArray];rw[List.take_of_length_le (by rw[sT];omega)]
def sJ(xs:List Int)(hx:xs.length<=1000)(h:Bk w g 3 cs)(hc:cs=(xs.flatMap λx=> [ξ κ x]).toArray):Row w w.heap.size 1 bI (ζ (φ ⟨g,0,ν⟩) xs.length xs.length) xs:=
 za h hx (λ_=>rfl) (λ_ _=>rfl) hc
def Mm(xs:List Span)(hx:xs.length<=1000)(h:Bk w g 37 cs)(hc:cs=(xs.flatMap Span.vs).toArray):Row w w.heap.size 2 Span.R (ζ (φ ⟨g,0,ν⟩) xs.length xs.length) xs:=
 za h hx (λ_=>rfl) (λ_ _=>rfl) hc
def SP(xs:List Cut)(hx:xs.length<=1000)(h:Bk w g 56 cs)(hc:cs=(xs.flatMap Cut.vs).toArray):Row w w.heap.size 2 Cut.R (ζ (φ ⟨g,0,ν⟩) xs.length xs.length) xs:=
 za h hx (λ_=>rfl) (λ_ _=>rfl) hc
def fP{sz:Nat}{R:α->List υ->Prop}{xs:List α}(h:Row w w.heap.size sz R v xs)(hb:Γ w.heap.size w w'):Row w' w'.heap.size sz R v xs:=
 (h.still (Δ.aJ hb (ϊ _)) λ_ _ h=>h).more hb.size
def rz6{W:Ψ->Prop}(hs:Sl [(0,.bool χ),(1,π (φ ⟨gE,0,ν⟩)),(2,ζ (φ ⟨gc,0,ν⟩) 3 3),(3,ζ (φ ⟨g3,0,ν⟩) 3 3),(4,.slice A4 n4 c4),(5,ξ κ 0),(6,ξ κ 4),(7,ξ κ 0),(8,ξ κ 8),(9,ξ κ 0)] a)(hc:Bk w gE 26 #[ξ κ 1,ζ (φ ⟨gp,0,ν⟩) 3 3,ζ (φ ⟨gb,0,ν⟩) 2 2,ζ (φ ⟨gt,0,ν⟩) 1 1])
 (aG:ύ prog 43 #[η #[ξ κ 1,ζ (φ ⟨gp,0,ν⟩) 3 3,ζ (φ ⟨gb,0,ν⟩) 2 2,ζ (φ ⟨gt,0,ν⟩) 1 1],ζ (φ ⟨w.heap.size,0,ν⟩) 3 3,ζ (φ ⟨gc,0,ν⟩) 3 3] (w.alloc (Ξ #[ξ κ 4,ξ κ 3,ξ κ 3] 3)) λe w'=>e=Ω (μ #[.bool θ,ξ κ 0])/\W w'):tR.wp prog (dK λa w=>Sl [(0,.bool χ),(1,π (φ ⟨gE,0,ν⟩)),(2,ζ (φ ⟨gc,0,ν⟩) 3 3),(3,ζ (φ ⟨g3,0,ν⟩) 3 3),(4,.slice A4 n4 c4),(5,ξ κ 0),(6,ξ κ 4),(7,ξ κ 0),(8,ξ κ 8),(9,ξ κ 0),(10,.bool θ),(11,ξ κ 0)] a/\W w) a w:=by
 obtain⟨x,rfl,hx⟩:=hs.lit;simp only[Al] at hx;have q0:=hc.cell 0;have q1:=hc.cell 1;have q2:=hc.cell 2;have q3:=hc.cell 3;have aG:=ψ aG;clear hc;unfold lit;simp only[hx];simp only[tR,kK,j4,jH,jm,iM,iL,iK,iS,Tryz.f21,bp,aS,À];go_wp2_with (go_at_call 43;refine aG.e.mono ?_;rintro e w1 ⟨rfl,hp⟩;have HP:=ψ hp;clear hp)
 exact⟨⟨rfl,rfl,(by repeat first|exact jF|refine eY rfl ?_)⟩,HP.e⟩
def rz7{W:Ψ->Prop}(hs:Sl [(0,.bool χ),(1,π (φ ⟨gE,0,ν⟩)),(2,ζ (φ ⟨gc,0,ν⟩) 3 3),(3,ζ (φ ⟨g3,0,ν⟩) 3 3),(4,.slice A4 n4 c4),(5,ξ κ 0),(6,ξ κ 4),(7,ξ κ 0),(8,ξ κ 8),(9,ξ κ 0),(10,.bool θ),(11,ξ κ 0)] a)(hc:Bk w gE 26 #[ξ κ 1,ζ (φ ⟨gp,0,ν⟩) 3 3,ζ (φ ⟨gb,0,ν⟩) 2 2,ζ (φ ⟨gt,0,ν⟩) 1 1])
 (aG:ύ prog 43 #[η #[ξ κ 1,ζ (φ ⟨gp,0,ν⟩) 3 3,ζ (φ ⟨gb,0,ν⟩) 2 2,ζ (φ ⟨gt,0,ν⟩) 1 1],ζ (φ ⟨w.heap.size,0,ν⟩) 3 3,ζ (φ ⟨g3,0,ν⟩) 3 3] (w.alloc (Ξ #[ξ κ 4,ξ κ 3,ξ κ 3] 3)) λe w'=>e=Ω (μ #[.bool χ,ξ κ 0])/\W w'):tS.wp prog (dK λa w=>Sl [(0,.bool χ),(1,π (φ ⟨gE,0,ν⟩)),(2,ζ (φ ⟨gc,0,ν⟩) 3 3),(3,ζ (φ ⟨g3,0,ν⟩) 3 3),(4,.slice A4 n4 c4),(5,ξ κ 0),(6,ξ κ 4),(7,ξ κ 0),(8,ξ κ 8),(9,ξ κ 0),(10,.bool θ),(11,ξ κ 0),(12,.bool χ),(13,ξ κ 0)] a/\W w) a w:=by
 obtain⟨x,rfl,hx⟩:=hs.lit;simp only[Al] at hx;have q0:=hc.cell 0;have q1:=hc.cell 1;have q2:=hc.cell 2;have q3:=hc.cell 3;have aG:=ψ aG;clear hc;unfold lit;simp only[hx];simp only[tS,lr,kK,j4,jH,jm,iM,iL,iK,iS,Tryz.f21,bp,aS,À];go_wp2_with (go_at_call 43;refine aG.e.mono ?_;rintro e w1 ⟨rfl,hp⟩;have HP:=ψ hp;clear hp)
 exact⟨⟨rfl,rfl,(by repeat first|exact jF|refine eY rfl ?_)⟩,HP.e⟩
def an2{lN:Option Addr}{W:Ψ->Prop}(hs:Sl [(0,.bool χ),(1,π (φ ⟨gE,0,ν⟩)),(2,ζ (φ ⟨gc,0,ν⟩) 3 3),(3,ζ (φ ⟨g3,0,ν⟩) 3 3),(4,.slice A4 n4 c4),(5,ξ κ 0),(6,ξ κ 4),(7,ξ κ 0),(8,ξ κ 8),(9,ξ κ 0),(10,.bool θ),(11,ξ κ 0),(12,.bool χ),(13,ξ κ 0),(14,ξ κ 2),(15,ξ κ 0),(16,.slice lN n16 c16),(17,ξ κ 0)] a)(hc:Bk w gE 26 #[ξ κ 1,ζ (φ ⟨gp,0,ν⟩) 3 3,ζ (φ ⟨gb,0,ν⟩) 2 2,ζ (φ ⟨gt,0,ν⟩) 1 1])
 (aG:ύ prog 26 #[η #[ξ κ 1,ζ (φ ⟨gp,0,ν⟩) 3 3,ζ (φ ⟨gb,0,ν⟩) 2 2,ζ (φ ⟨gt,0,ν⟩) 1 1]] w λe w'=>e=Ω (μ #[η #[ξ κ 10,ξ κ 10],ξ κ 0])/\W w'):
 tF.wp prog (dK λa w=>∃w1,W w1/\(∃g8,g8=w1.heap.size/\Sl [(0,.bool χ),(1,π (φ ⟨gE,0,ν⟩)),(2,ζ (φ ⟨gc,0,ν⟩) 3 3),(3,ζ (φ ⟨g3,0,ν⟩) 3 3),(4,.slice A4 n4 c4),(5,ξ κ 0),(6,ξ κ 4),(7,ξ κ 0),(8,ξ κ 8),(9,ξ κ 0),(10,.bool θ),(11,ξ κ 0),(12,.bool χ),(13,ξ κ 0),(14,ξ κ 2),(15,ξ κ 0),(16,.slice lN n16 c16),(17,ξ κ 0),(18,π (φ ⟨g8,0,ν⟩)),(19,ξ κ 0)] a)/\w=w1.alloc (Ξ #[ξ κ 10,ξ κ 10] 37)) a w:=by
 obtain⟨x,rfl,hx⟩:=hs.lit;simp only[Al] at hx;have q0:=hc.cell 0;have q1:=hc.cell 1;have q2:=hc.cell 2;have q3:=hc.cell 3;have aG:=ψ aG;clear hc;unfold lit;simp only[hx];simp only[tF,nu,mo,lM,lr,kK,j4,jH,jm,iM,iL,iK,iS,Tryz.f21,bp,aS,À];go_wp2_with (go_at_call 26;refine aG.e.mono ?_;rintro e w1 ⟨rfl,hp⟩;have HP:=ψ hp;clear hp)
 exact⟨_,HP.e,⟨_,rfl,⟨rfl,rfl,(by repeat first|exact jF|refine eY rfl ?_)⟩⟩,rfl⟩
def S4{t:TypeId}(h:Bk w g t cs):Bk w.drew g t cs:=h
def an3{gp gb gt g8:Nat}{lN:Option Addr}(hs:Sl [(0,.bool χ),(1,π (φ ⟨gE,0,ν⟩)),(2,ζ (φ ⟨gc,0,ν⟩) 3 3),(3,ζ (φ ⟨g3,0,ν⟩) 3 3),(4,.slice A4 n4 c4),(5,ξ κ 0),(6,ξ κ 4),(7,ξ κ 0),(8,ξ κ 8),(9,ξ κ 0),(10,.bool θ),(11,ξ κ 0),(12,.bool χ),(13,ξ κ 0),(14,ξ κ 2),(15,ξ κ 0),(16,.slice lN n16 c16),(17,ξ κ 0),(18,π (φ ⟨g8,0,ν⟩)),(19,ξ κ 0)] a)(h8:Bk w g8 37 #[ξ κ 10,ξ κ 10])
 (de:Row w w.heap.size 2 Span.R (.slice A4 n4 c4) [⟨0,2⟩,⟨4,7⟩])(Co:Row w w.heap.size 1 bI (.slice lN n16 c16) [4,5]):
 tG.wp prog (dK λa w'=>Sl [(0,.bool χ),(1,π (φ ⟨gE,0,ν⟩)),(2,ζ (φ ⟨gc,0,ν⟩) 3 3),(3,ζ (φ ⟨g3,0,ν⟩) 3 3)] a/\Γ w.heap.size w w') a w:=by
 obtain⟨x,rfl,hx⟩:=hs.lit;simp only[Al] at hx;have q0:=h8.cell 0;have q1:=h8.cell 1;have lt8:g8<w.heap.size:=h8.lt;have le8:g8<=w.heap.size:=Nat.le_of_lt lt8;have Rw:Hid (∀W,Γ w.heap.size w W->∀g,Bk W g 37 #[ξ κ 0,ξ κ 2,ξ κ 4,ξ κ 7]->ύ prog 75 #[.slice A4 n4 c4,ζ (φ ⟨g,0,ν⟩) 2 2] W λe w'=>e=Ω (.bool θ)/\Γ W.heap.size W w'):=ψ λW hb g hg=>by
  have:=T1 (fP de hb) (Mm [⟨0,2⟩,⟨4,7⟩] (by decide) hg rfl) (ϊ _)
  exact this
 have Ru:Hid (∀W,Γ w.heap.size w W->∀g,Bk W g 3 #[ξ κ 4,ξ κ 5]->ύ prog 30 #[.slice lN n16 c16,ζ (φ ⟨g,0,ν⟩) 2 2] W λe w'=>e=Ω (.bool θ)/\Γ W.heap.size W w'):=ψ λW hb g hg=>by
  have:=D4 (fP Co hb) (sJ [4,5] (by decide) hg rfl) (ϊ _)
  exact this
 clear h8 de Co;unfold lit;simp only[hx];simp only[tG,oo,nu,mo,lM,lr,kK,j4,jH,jm,iM,iL,iK,iS,Tryz.f21,bp,aS,À];refine wp_seq (aci (N:=68) (by kernel_rfl) rfl ?_)
 refine wJ (N:=68) (s:=0) (e:=50) (fuel:=18) rfl (by kernel_rfl) (by omega) 50 0 (by omega) rfl ?_
 generalize hQ:Exit.then _ _=Q';simp only[ø];repeat(first| (refine nj rfl rfl rfl (by kernel_rfl) (λ_ _=>?_)) |go_step)
 subst hQ;show æ _ _ _ _ _ _ _ _;have hcut:∀x:Act,x=x:=λ_=>rfl
 refine L6 (fuel:=17) [50,51] (by kernel_rfl) (by simp) (Hb (JE _ rfl ?_) (Hb (JE _ rfl ?_) Ml))
 ·generalize hQ:Exit.then _ _=Q'
  repeat(first
   | (refine nj rfl rfl rfl (by kernel_rfl) (λ_ _=>?_))
   |go_step
   | (go_at_call 50;refine(CQ _ _).mono ?_;rintro e w1 ⟨rfl,rfl⟩)
   | (dsimp only)
   |go_upon
   |go_back
   |go_values)
  subst hQ;show æ _ _ _ _ _ _ _ _;refine L6 (fuel:=16) [51] (by kernel_rfl) (by simp) (Hb (JE _ rfl ?_) Ml)
  generalize hQ:Exit.then _ _=Q';repeat(first
   | (refine nj rfl rfl rfl (by kernel_rfl) (λ_ _=>?_))
   |go_step
   | (go_at_call 50;refine(CQ _ _).mono ?_;rintro e w1 ⟨rfl,rfl⟩)
   | (dsimp only)
   |go_upon
   |go_back
   |go_values)
  subst hQ;show æ _ _ _ _ _ _ _ _;refine Bv (l':=gL 68 52) (Xo (n:=68) (i:=50) (j:=51) rfl (by omega)) ?_
  refine wJ (N:=68) (s:=52) (e:=55) (fuel:=13) rfl (by kernel_rfl) (by omega) 3 52 (by omega) rfl ?_
  generalize hQ:Exit.then _ _=Q';simp only[û,ø,õ,ö];repeat(first
   | (refine nj rfl rfl rfl (by kernel_rfl) (λ_ _=>?_))
   |go_step
   | (dsimp only)
   |go_upon
   |go_back
   |go_values)
  subst hQ;show æ _ _ _ _ _ _ _ _;refine Aky (fuel:=12) (i:=55) (v:=.slice A4 n4 c4) rfl (by kernel_rfl) (by kernel_rfl) (by kernel_rfl) (λ_ _ _ h=>h) (Or.inl ⟨by kernel_rfl,λw=>by kernel_rfl⟩) ?_
  refine Bv (l':=gL 68 (55+1)) (AG (by omega)) ?_
  simp only[Ϧ,ϫ,Ϭ,ϧ];refine wJ (N:=68) (s:=56) (e:=63) (fuel:=5) rfl (by kernel_rfl) (by omega) 7 56 (by omega) rfl ?_
  generalize hQ:Exit.then _ _=Q';simp only[û,ø,õ,ö];repeat(first
   | (refine nj rfl rfl rfl (by kernel_rfl) (λ_ _=>?_))
   |go_step
   | (go_at_call 67;refine(QP _ _ _).mono ?_;rintro e w1 ⟨rfl,rfl⟩)
   | (go_at_call 75;refine(Rw.e _ (by repeat first|exact à _ _|refine dT ?_|refine Ak1 ?_ (by simp<;>omega) _) _ (by first|exact S4 (Bk.bZ (by simp) _ _) |exact Bk.bZ (by simp) _ _)).mono ?_;rintro e w5 ⟨rfl,dB⟩;have H5:Hid (Γ w.heap.size w w5):=ψ (Ak2 (B:=w.heap.size) (by repeat first|exact à _ _|refine dT ?_|refine Ak1 ?_ (by simp<;>omega) _) (dB.mono (by simp<;>omega)));clear dB)
   | (dsimp only)
   |go_upon
   |go_back
   |go_values)
  subst hQ;show æ _ _ _ _ _ _ _ _;refine Aky (fuel:=4) (i:=63) (v:=.slice lN n16 c16) rfl (by kernel_rfl) (by kernel_rfl) (by kernel_rfl) (λ_ _ _ h=>h) (Or.inl ⟨by kernel_rfl,λw=>by kernel_rfl⟩) ?_
  refine Bv (l':=gL 68 (63+1)) (AG (by omega)) ?_
  simp only[Ϧ,ϫ,Ϭ,ϧ];refine wJ (N:=68) (s:=64) (e:=68) (fuel:=0) rfl (by kernel_rfl) (by omega) 4 64 (by omega) rfl ?_
  generalize hQ:Exit.then _ _=Q';simp only[û,ø,õ,ö];repeat(first
   | (refine nj rfl rfl rfl (by kernel_rfl) (λ_ _=>?_))
   |go_step
   | (go_at_call 30;have rM:=Ru.e (w5.alloc (Obj.cells #[ϛ Ϙ 4,ϛ Ϙ 5] 3)) (H5.e.alloc H5.e.size _) w5.heap.size (Bk.new _ _ _);refine rM.mono ?_;rintro e w6 ⟨rfl,eC⟩;have H6:=ψ ((H5.e.alloc H5.e.size _).trans (eC.mono (by have:=H5.e.size;simp;omega)));clear eC)
   | (dsimp only)
   |go_upon
   |go_back
   |go_values)
  subst hQ;show æ _ _ _ _ _ _ _ _;refine wpAny_done (by kernel_rfl) ?_ _
  go_wp2;exact⟨⟨rfl,rfl,eY rfl (eY rfl (eY rfl (eY rfl (jF))))⟩,H6.e⟩
 ·generalize hQ:Exit.then _ _=Q'
  repeat(first
   | (refine nj rfl rfl rfl (by kernel_rfl) (λ_ _=>?_))
   |go_step
   | (go_at_call 50;refine(CQ _ _).mono ?_;rintro e w1 ⟨rfl,rfl⟩)
   | (dsimp only)
   |go_upon
   |go_back
   |go_values)
  subst hQ;show æ _ _ _ _ _ _ _ _;refine L6 (fuel:=16) [50] (by kernel_rfl) (by simp) (Hb (JE _ rfl ?_) Ml)
  generalize hQ:Exit.then _ _=Q';repeat(first
   | (refine nj rfl rfl rfl (by kernel_rfl) (λ_ _=>?_))
   |go_step
   | (go_at_call 50;refine(CQ _ _).mono ?_;rintro e w1 ⟨rfl,rfl⟩)
   | (dsimp only)
   |go_upon
   |go_back
   |go_values)
  subst hQ;show æ _ _ _ _ _ _ _ _;refine Bv (l':=gL 68 52) (akB (n:=68) (i:=50) (j:=51) rfl (by omega)) ?_
  refine wJ (N:=68) (s:=52) (e:=55) (fuel:=13) rfl (by kernel_rfl) (by omega) 3 52 (by omega) rfl ?_
  generalize hQ:Exit.then _ _=Q';simp only[û,ø,õ,ö];repeat(first
   | (refine nj rfl rfl rfl (by kernel_rfl) (λ_ _=>?_))
   |go_step
   | (dsimp only)
   |go_upon
   |go_back
   |go_values)
  subst hQ;show æ _ _ _ _ _ _ _ _;refine Aky (fuel:=12) (i:=55) (v:=.slice A4 n4 c4) rfl (by kernel_rfl) (by kernel_rfl) (by kernel_rfl) (λ_ _ _ h=>h) (Or.inl ⟨by kernel_rfl,λw=>by kernel_rfl⟩) ?_
  refine Bv (l':=gL 68 (55+1)) (AG (by omega)) ?_
  simp only[Ϧ,ϫ,Ϭ,ϧ];refine wJ (N:=68) (s:=56) (e:=63) (fuel:=5) rfl (by kernel_rfl) (by omega) 7 56 (by omega) rfl ?_
  generalize hQ:Exit.then _ _=Q';simp only[û,ø,õ,ö];repeat(first
   | (refine nj rfl rfl rfl (by kernel_rfl) (λ_ _=>?_))
   |go_step
   | (go_at_call 67;refine(QP _ _ _).mono ?_;rintro e w1 ⟨rfl,rfl⟩)
   | (go_at_call 75;refine(Rw.e _ (by repeat first|exact à _ _|refine dT ?_|refine Ak1 ?_ (by simp<;>omega) _) _ (by first|exact S4 (Bk.bZ (by simp) _ _) |exact Bk.bZ (by simp) _ _)).mono ?_;rintro e w5 ⟨rfl,dB⟩;have H5:Hid (Γ w.heap.size w w5):=ψ (Ak2 (B:=w.heap.size) (by repeat first|exact à _ _|refine dT ?_|refine Ak1 ?_ (by simp<;>omega) _) (dB.mono (by simp<;>omega)));clear dB)
   | (dsimp only)
   |go_upon
   |go_back
   |go_values)
  subst hQ;show æ _ _ _ _ _ _ _ _;refine Aky (fuel:=4) (i:=63) (v:=.slice lN n16 c16) rfl (by kernel_rfl) (by kernel_rfl) (by kernel_rfl) (λ_ _ _ h=>h) (Or.inl ⟨by kernel_rfl,λw=>by kernel_rfl⟩) ?_
  refine Bv (l':=gL 68 (63+1)) (AG (by omega)) ?_
  simp only[Ϧ,ϫ,Ϭ,ϧ];refine wJ (N:=68) (s:=64) (e:=68) (fuel:=0) rfl (by kernel_rfl) (by omega) 4 64 (by omega) rfl ?_
  generalize hQ:Exit.then _ _=Q';simp only[û,ø,õ,ö];repeat(first
   | (refine nj rfl rfl rfl (by kernel_rfl) (λ_ _=>?_))
   |go_step
   | (go_at_call 30;have rM:=Ru.e (w5.alloc (Obj.cells #[ϛ Ϙ 4,ϛ Ϙ 5] 3)) (H5.e.alloc H5.e.size _) w5.heap.size (Bk.new _ _ _);refine rM.mono ?_;rintro e w6 ⟨rfl,eC⟩;have H6:=ψ ((H5.e.alloc H5.e.size _).trans (eC.mono (by have:=H5.e.size;simp;omega)));clear eC)
   | (dsimp only)
   |go_upon
   |go_back
   |go_values)
  subst hQ;show æ _ _ _ _ _ _ _ _;refine wpAny_done (by kernel_rfl) ?_ _
  go_wp2;exact⟨⟨rfl,rfl,eY rfl (eY rfl (eY rfl (eY rfl (jF))))⟩,H6.e⟩
def FB(w0:Ψ)(a:Act)(w:Ψ):Prop:=∃gE gp gb gk gt gl gc g3,Sl [(0,.bool χ),(1,π (φ ⟨gE,0,ν⟩)),(2,ζ (φ ⟨gc,0,ν⟩) 3 3),(3,ζ (φ ⟨g3,0,ν⟩) 3 3)] a/\j6 w0 w gE gp gb gk gt gl gc g3
def FA.fb(h:FA w0 a w):FB w0 a w:=by
 obtain⟨hd,aN,h0,gE,gp,gb,gk,gt,gl,gc,g3,h1,h2,h3,hx⟩:=h;exact⟨gE,gp,gb,gk,gt,gl,gc,g3,⟨hd,aN,eY h0 (eY h1 (eY h2 (eY h3 jF)))⟩,hx⟩
def j6.lC(h:j6 w0 w gE gp gb gk gt gl gc g3):Row w w.heap.size 2 Cut.R (ζ (φ ⟨gc,0,ν⟩) 3 3) ea:=aej h.bc
def j6.MI(h:j6 w0 w gE gp gb gk gt gl gc g3):Row w w.heap.size 2 Cut.R (ζ (φ ⟨g3,0,ν⟩) 3 3) wV:=SP wV (by decide) h.b3 rfl
def aow(hf:FB w0 a w):fu prog [tO,tP,tQ,tR,tS,tT,tU,tF,tG] (dK (FB w0)) a w:=by
 obtain⟨gE,gp,gb,gk,gt,gl,gc,g3,hs,hx⟩:=hf;refine jZ (rz3 (W:=λA n c w'=>Row w' w'.heap.size 2 Span.R (.slice A n c) [⟨0,2⟩,⟨4,7⟩]/\Γ w.heap.size w w') hs hx.bE ?c3) ?_
 case c3=>
  refine(adH (ϊ _) (l8 hx.ex) zi (x:=uS) (k:=0) rfl).mono ?_
  rintro e w' ⟨v,rfl,ho,hb⟩;obtain⟨A,n,c,rfl⟩:=iI ho;rw[afb] at ho;exact⟨A,n,c,rfl,mZ ho (λ_=>rfl) (λ_ _=>rfl),hb⟩
 rintro a w1 ⟨A4,n4,c4,hs,de,hb⟩;replace hx:=hx.grown hb;clear hb;refine jZ (rz4 (W:=λw'=>Γ w1.heap.size w1 w') hs hx.bE ?c4) ?_
 case c4=>
  refine(Xn (ϊ _) (l8 hx.ex) zi (x:=uS) (k:=0) (bears:=0) rfl rfl).mono ?_
  rintro e w' ⟨rfl,hb⟩;exact⟨by rw[afj],hb⟩
 rintro a w2 ⟨hs,hb⟩;replace hx:=hx.grown hb;replace de:=fP de hb;clear hb;refine jZ (rz5 (W:=λw'=>Γ w2.heap.size w2 w') hs hx.bE ?c5) ?_
 case c5=>
  refine(Xn (ϊ _) (l8 hx.ex) zi (x:=uS) (k:=0) (bears:=1) rfl rfl).mono ?_
  rintro e w' ⟨rfl,hb⟩;exact⟨by rw[afk],hb⟩
 rintro a w3 ⟨hs,hb⟩;replace hx:=hx.grown hb;replace de:=fP de hb;clear hb;have pG:Γ w3.heap.size w3 (w3.alloc (Ξ #[ξ κ 4,ξ κ 3,ξ κ 3] 3)):=(à _ _).alloc (ϊ _) _;have Av:=hx.grown pG;refine jZ (rz6 (W:=λw'=>Γ w3.heap.size w3 w') hs hx.bE ?c6) ?_
 case c6=>
  refine(Ue (l:=[4,3,3]) (lC:=ea) (ϊ _) (l8 Av.ex) (sJ [4,3,3] (by decide) (Bk.new _ _ _) rfl) Av.lC zi afo).mono ?_
  rintro e w' ⟨rfl,hb⟩;exact⟨by rw[afg],pG.trans (hb.mono (by simp))⟩
 rintro a w4 ⟨hs,hb⟩;replace hx:=hx.grown hb;replace de:=fP de hb;clear hb pG Av;have pG:Γ w4.heap.size w4 (w4.alloc (Ξ #[ξ κ 4,ξ κ 3,ξ κ 3] 3)):=(à _ _).alloc (ϊ _) _;have Av:=hx.grown pG;refine jZ (rz7 (W:=λw'=>Γ w4.heap.size w4 w') hs hx.bE ?c7) ?_
 case c7=>
  refine(Ue (l:=[4,3,3]) (lC:=wV) (ϊ _) (l8 Av.ex) (sJ [4,3,3] (by decide) (Bk.new _ _ _) rfl) Av.MI zi afp).mono ?_
  rintro e w' ⟨rfl,hb⟩;exact⟨by rw[afh],pG.trans (hb.mono (by simp))⟩
 rintro a w5 ⟨hs,hb⟩;replace hx:=hx.grown hb;replace de:=fP de hb;clear hb pG Av;refine jZ (rz8 (W:=λw'=>Γ w5.heap.size w5 w') hs hx.bE ?c8) ?_
 case c8=>
  refine(Mh (ϊ _) (l8 hx.ex)).mono ?_
  rintro e w' ⟨rfl,hb⟩;exact⟨by rw[ae9,zi],hb⟩
 rintro a w6 ⟨hs,hb⟩;replace hx:=hx.grown hb;replace de:=fP de hb;clear hb;refine jZ (rz9 (W:=λA n c w'=>Row w' w'.heap.size 1 bI (.slice A n c) [4,5]/\Γ w6.heap.size w6 w') hs hx.bE ?c9) ?_
 case c9=>
  refine(PD (k:=0) (ϊ _) (l8 hx.ex) afm).mono ?_
  rintro e w' ⟨v,rfl,ho,hb⟩;obtain⟨A,n,c,rfl⟩:=iI ho;rw[afi] at ho;exact⟨A,n,c,rfl,CF ho,hb⟩
 rintro a w7 ⟨lN,n16,c16,hs,Co,hb⟩;replace hx:=hx.grown hb;replace de:=fP de hb;clear hb;refine jZ (an2 (W:=λw'=>Γ w7.heap.size w7 w') hs hx.bE ?c10) ?_
 case c10=>
  refine(ap1 (ϊ _) (l8 hx.ex) D5).mono ?_
  rintro e w' ⟨rfl,hb⟩;exact⟨by rw[afv],hb⟩
 rintro a w8 ⟨ss,hb,⟨g8,Oc,hs⟩,rfl⟩;have an:Γ w7.heap.size w7 (ss.alloc (Ξ #[ξ κ 10,ξ κ 10] 37)):=hb.alloc hb.size _;replace hx:=hx.grown an;replace de:=fP de an;replace Co:=fP Co an;clear hb an;refine jZ (an3 (gp:=0) (gb:=0) (gt:=0) hs (by rw[Oc];exact Bk.new _ _ _) de Co) ?_
 rintro a w9 ⟨hs,hb⟩;exact⟨gE,gp,gb,gk,gt,gl,gc,g3,hs,hx.grown hb⟩
def FC(w0:Ψ)(a:Act)(w:Ψ):Prop:=∃gE gp gb gk gt gl gc g3 dF n22 c22 cu n25 cw eG n28 eI,
 Sl [(0,.bool χ),(1,π (φ ⟨gE,0,ν⟩)),(2,ζ (φ ⟨gc,0,ν⟩) 3 3),(3,ζ (φ ⟨g3,0,ν⟩) 3 3),(5,ξ κ 0),(7,ξ κ 0),(9,ξ κ 0),(11,ξ κ 0),(13,ξ κ 0),(20,ξ κ 1),(21,ξ κ 0),(22,.slice dF n22 c22),(23,ζ ν 0 0),(24,ξ κ 8),(25,.slice cu n25 cw),(26,ξ κ 2),(27,.bool θ),(28,.slice eG n28 eI),(29,ξ κ 14),(30,.bool θ)] a/\
 j6 w0 w gE gp gb gk gt gl gc g3/\Row w w.heap.size 1 bI (.slice dF n22 c22) [1,1]/\Row w w.heap.size 2 Cut.R (.slice cu n25 cw) ea/\Row w w.heap.size 2 Cut.R (.slice eG n28 eI) ea
def aal(hm:gF w0)(h:j6 w0 w gE gp gb gk gt gl gc g3):gF w:=hm.below h.below hm.lt
def Ua{mI:List Cut->Int}{n:Int}{e:Ending}(hb:iR bg mI=φ (ea,n))(h:GI w bg mI e w'):
 ∃A k c,e=Ω (μ #[.slice A k c,ξ κ n,.bool θ,ξ κ 0])/\Row w' w'.heap.size 2 Cut.R (.slice A k c) ea/\Γ w.heap.size w w':=by
 obtain⟨cv,mv,fv,rfl,eW,gU⟩:=h;rw[hb] at eW;obtain⟨ho,rfl,rfl⟩:=eW;obtain⟨A,k,c,rfl⟩:=iI ho;exact⟨A,k,c,by rw[D5],mZ (l:=ea) ho (λ_=>rfl) (λ_ _=>rfl),gU⟩
def aox(hm:gF w0)(hf:FB w0 a w):fu prog [tH,tI,tJ,tK,tL,tM] (dK (FC w0)) a w:=by
 obtain⟨gE,gp,gb,gk,gt,gl,gc,g3,hs,hx⟩:=hf;refine jZ (an4 (W:=λw'=>Γ w.heap.size w w') hs hx.bE ?c12) ?_
 case c12=>
  refine(Ho (ϊ _) (l8 hx.ex) hx.lC T5).mono ?_
  rintro e w' ⟨rfl,hb⟩;exact⟨by rw[afd],hb⟩
 rintro a w1 ⟨hs,hb⟩;replace hx:=hx.grown hb;clear hb;refine jZ (an5 (W:=λw'=>Γ w1.heap.size w1 w') hs hx.bE ?c13) ?_
 case c13=>
  refine(Ho (ϊ _) (l8 hx.ex) hx.MI T6).mono ?_
  rintro e w' ⟨rfl,hb⟩;exact⟨by rw[afe],hb⟩
 rintro a w2 ⟨hs,hb⟩;replace hx:=hx.grown hb;clear hb;refine jZ (an6 (W:=λA n c w'=>Row w' w'.heap.size 1 bI (.slice A n c) [1,1]/\Γ w2.heap.size w2 w') hs hx.bE ?c14) ?_
 case c14=>
  refine(ape (ϊ _) (l8 hx.ex) hx.lC T5 afs).mono ?_
  rintro e w' ⟨v,rfl,ho,hb⟩;obtain⟨A,n,c,rfl⟩:=iI ho;rw[afr] at ho;exact⟨A,n,c,rfl,CF ho,hb⟩
 rintro a w3 ⟨dF,n22,c22,hs,kZ,hb⟩;replace hx:=hx.grown hb;clear hb;refine jZ (an7 (W:=λw'=>Γ w3.heap.size w3 w') hs hx.bE ?c15) ?_
 case c15=>
  refine(apd (ϊ _) (l8 hx.ex) hx.MI T6 aft).mono ?_
  rintro e w' ⟨rfl,hb⟩;exact⟨rfl,hb⟩
 rintro a w4 ⟨hs,hb⟩;replace hx:=hx.grown hb;replace kZ:=fP kZ hb;clear hb;refine jZ (an8 (W:=λA n c w'=>Row w' w'.heap.size 2 Cut.R (.slice A n c) ea/\Γ w4.heap.size w4 w') hs hx.bE ?c16) ?_
 case c16=>
  refine(Hq (ϊ _) (l8 hx.ex) (aal hm hx)).mono ?_
  rintro e w' h;exact Ua aff h
 rintro a w5 ⟨cu,n25,cw,hs,iC,hb⟩;replace hx:=hx.grown hb;replace kZ:=fP kZ hb;clear hb;refine jZ (an9 (W:=λA n c w'=>Row w' w'.heap.size 2 Cut.R (.slice A n c) ea/\Γ w5.heap.size w5 w') hs hx.bE ?c17) ?_
 case c17=>
  refine(ao1 (ϊ _) (l8 hx.ex) (aal hm hx)).mono ?_
  rintro e w' h;exact Ua afq h
 rintro a w6 ⟨eG,n28,eI,hs,nO,hb⟩;exact⟨gE,gp,gb,gk,gt,gl,gc,g3,dF,n22,c22,cu,n25,cw,eG,n28,eI,hs,hx.grown hb,fP kZ hb,fP iC hb,nO⟩
def aov(hm:gF w0)(h:fu prog [vV,vW,vX] (dK (FA w0)) a w0):fu prog [vV,vW,vX,tO,tP,tQ,tR,tS,tT,tU,tF,tG,tH,tI,tJ,tK,tL,tM] (dK (FC w0)) a w0:=by
 refine Gq (ju:=[tO,tP,tQ,tR,tS,tT,tU,tF,tG,tH,tI,tJ,tK,tL,tM]) (λa w hf=>?_) [vV,vW,vX] h
 exact Gq (ju:=[tH,tI,tJ,tK,tL,tM]) (λa w hf=>aox hm hf) [tO,tP,tQ,tR,tS,tT,tU,tF,tG] (aow hf.fb)
def aob{jI:Option Addr}(hs:Sl [(0,.bool χ),(1,π (φ ⟨gE,0,ν⟩)),(2,ζ (φ ⟨gc,0,ν⟩) 3 3),(3,ζ (φ ⟨g3,0,ν⟩) 3 3),(5,ξ κ 0),(7,ξ κ 0),(9,ξ κ 0),(11,ξ κ 0),(13,ξ κ 0),(15,ξ κ 0),(17,ξ κ 0),(20,ξ κ 1),(21,ξ κ 0),(22,.slice dF n22 c22),(23,ζ ν 0 0),(24,ξ κ 8),(25,.slice cu n25 cw),(26,ξ κ 2),(27,.bool θ),(28,.slice eG n28 eI),(29,ξ κ 14),(30,.bool θ),(31,.slice jI n31 jN),(32,ξ κ 0),(33,ξ κ 1)] a)
 (hc:Row w w.heap.size 2 Cut.R (ζ (φ ⟨gc,0,ν⟩) 3 3) ea)(kZ:Row w w.heap.size 1 bI (.slice dF n22 c22) [1,1])(iC:Row w w.heap.size 2 Cut.R (.slice cu n25 cw) ea)(nO:Row w w.heap.size 2 Cut.R (.slice eG n28 eI) ea)(Ak:Row w w.heap.size 1 bI (.slice jI n31 jN) [0,1]):
 yC.wp prog (dK λa w'=>Sl [(1,π (φ ⟨gE,0,ν⟩))] a/\Γ w.heap.size w w') a w:=by
 obtain⟨x,rfl,hx⟩:=hs.lit;simp only[Al] at hx;have CA:Hid (∀W,Γ w.heap.size w W->ύ prog 35 #[.slice cu n25 cw,ζ (φ ⟨gc,0,ν⟩) 3 3] W λe w'=>e=Ω (.bool θ)/\Γ W.heap.size W w'):=ψ λW hb=>by
  have:=Qo (fP iC hb) (fP hc hb) (ϊ _);exact this
 have CB:Hid (∀W,Γ w.heap.size w W->ύ prog 35 #[.slice eG n28 eI,ζ (φ ⟨gc,0,ν⟩) 3 3] W λe w'=>e=Ω (.bool θ)/\Γ W.heap.size W w'):=ψ λW hb=>by
  have:=Qo (fP nO hb) (fP hc hb) (ϊ _);exact this
 have CC:Hid (∀W,Γ w.heap.size w W->∀g,Bk W g 3 #[ξ κ 1,ξ κ 1]->ύ prog 30 #[.slice dF n22 c22,ζ (φ ⟨g,0,ν⟩) 2 2] W λe w'=>e=Ω (.bool θ)/\Γ W.heap.size W w'):=ψ λW hb g hg=>by
  have:=D4 (fP kZ hb) (sJ [1,1] (by decide) hg rfl) (ϊ _)
  exact this
 have CD:Hid (∀W,Γ w.heap.size w W->∀g,Bk W g 3 #[ξ κ 0,ξ κ 1]->ύ prog 30 #[.slice jI n31 jN,ζ (φ ⟨g,0,ν⟩) 2 2] W λe w'=>e=Ω (.bool θ)/\Γ W.heap.size W w'):=ψ λW hb g hg=>by
  have:=D4 (fP Ak hb) (sJ [0,1] (by decide) hg rfl) (ϊ _)
  exact this
 clear hc kZ iC nO Ak;unfold lit;simp only[hx];simp only[yC,Ba,yI,yH,vZ,uA,su,qV,pW,pb,oo,nu,mo,lM,lr,kK,j4,jH,jm,iM,iL,iK,iS,Tryz.f21,bp,aS,À];refine wp_seq (wp_region_lit ?_)
 generalize hQ:Exit.then _ _=Q';repeat(first
  | (refine nj rfl rfl rfl (by kernel_rfl) (λ_ _=>?_))
  |go_step
  | (dsimp only)
  |go_upon
  |go_back
  |go_values)
 go_at_call 35
 refine(CA.e _ (à _ _)).mono ?_
 rintro e w1 ⟨rfl,ai⟩;have H1:=ψ ai;clear ai CA;repeat(first
  | (refine nj rfl rfl rfl (by kernel_rfl) (λ_ _=>?_))
  |go_step
  | (dsimp only)
  |go_upon
  |go_back
  |go_values)
 go_at_call 35
 refine(CB.e _ H1.e).mono ?_
 rintro e w2 ⟨rfl,an⟩;have H2:=ψ (H1.e.trans (an.mono H1.e.size));clear an CB H1;repeat(first
  | (refine nj rfl rfl rfl (by kernel_rfl) (λ_ _=>?_))
  |go_step
  | (dsimp only)
  |go_upon
  |go_back
  |go_values)
 go_at_call 30
 have rM:=CC.e (w2.alloc (Obj.cells #[ϛ Ϙ 1,ϛ Ϙ 1] 3)) (H2.e.alloc H2.e.size _) w2.heap.size (Bk.new _ _ _);refine rM.mono ?_
 rintro e w3 ⟨rfl,bK⟩;have H3:=ψ ((H2.e.alloc H2.e.size _).trans (bK.mono (by have:=H2.e.size;simp;omega)))
 clear bK rM H2 CC;repeat(first
  | (refine nj rfl rfl rfl (by kernel_rfl) (λ_ _=>?_))
  |go_step
  | (dsimp only)
  |go_upon
  |go_back
  |go_values)
 go_at_call 30
 have rM:=CD.e (w3.alloc (Obj.cells #[ϛ Ϙ 0,ϛ Ϙ 1] 3)) (H3.e.alloc H3.e.size _) w3.heap.size (Bk.new _ _ _);refine rM.mono ?_
 rintro e w4 ⟨rfl,cU⟩;have H4:=ψ ((H3.e.alloc H3.e.size _).trans (cU.mono (by have:=H3.e.size;simp;omega)))
 clear cU rM H3 CD;repeat(first
  | (refine nj rfl rfl rfl (by kernel_rfl) (λ_ _=>?_))
  |go_step
  | (dsimp only)
  |go_upon
  |go_back
  |go_values)
 subst hQ;go_wp2;exact⟨⟨rfl,rfl,eY rfl (jF)⟩,H4.e⟩
def aoc{W:Option Addr->Nat->Nat->Option Addr->Nat->Nat->Option Addr->Nat->Nat->Ψ->Prop}(hs:Sl [(1,π (φ ⟨gE,0,ν⟩))] a)(hc:Bk w gE 26 #[ξ κ 1,ζ (φ ⟨gp,0,ν⟩) 3 3,ζ (φ ⟨gb,0,ν⟩) 2 2,ζ (φ ⟨gt,0,ν⟩) 1 1])
 (aG:ύ prog 53 #[η #[ξ κ 1,ζ (φ ⟨gp,0,ν⟩) 3 3,ζ (φ ⟨gb,0,ν⟩) 2 2,ζ (φ ⟨gt,0,ν⟩) 1 1],η #[.string PT,ξ κ 13,ζ ν 0 0]] w λe w'=>∃Ap np cp Ab nb cb At nt ct,e=Ω (μ #[η #[ξ κ 1,.slice Ap np cp,.slice Ab nb cb,.slice At nt ct],ξ κ 0])/\W Ap np cp Ab nb cb At nt ct w'):
 yD.wp prog (dK λa w=>∃Ap np cp Ab nb cb At nt ct w1,W Ap np cp Ab nb cb At nt ct w1/\Sl [(1,π (φ ⟨gE,0,ν⟩)),(5,ξ κ 0),(34,π (φ ⟨w1.heap.size,0,ν⟩))] a/\w=w1.alloc (Ξ #[ξ κ 1,.slice Ap np cp,.slice Ab nb cb,.slice At nt ct] 26)) a w:=by
 obtain⟨x,rfl,hx⟩:=hs.lit;simp only[Al] at hx;have q0:=hc.cell 0;have q1:=hc.cell 1;have q2:=hc.cell 2;have q3:=hc.cell 3;have aG:=ψ aG;clear hc;unfold lit;simp only[hx];simp only[yD,Di,Ba,yI,yH,vZ,uA,su,qV,pW,pb,oo,nu,mo,lM,lr,kK,j4,jH,jm,iM,iL,iK,iS,Tryz.f21,bp,aS,À];go_wp2_with (go_at_call 53;refine aG.e.mono ?_;rintro e w1 ⟨Ap,np,cp,Ab,nb,cb,At,nt,ct,rfl,hp⟩;have HP:=ψ hp;clear hp)
 exact⟨_,_,_,_,_,_,_,_,_,_,HP.e,⟨rfl,rfl,eY rfl (eY rfl (eY rfl jF))⟩,rfl⟩
def aod{Uv:Nat}{Ap Ab At:Option Addr}{W:Option Addr->Nat->Nat->Ψ->Prop}(hs:Sl [(1,π (φ ⟨gE,0,ν⟩)),(5,ξ κ 0),(34,π (φ ⟨Uv,0,ν⟩))] a)(hc:Bk w Uv 26 #[ξ κ 1,.slice Ap np cp,.slice Ab nb cb,.slice At nt ct])
 (aG:ύ prog 33 #[η #[ξ κ 1,.slice Ap np cp,.slice Ab nb cb,.slice At nt ct]] w λe w'=>∃cu n25 cw,e=Ω (μ #[.slice cu n25 cw,ξ κ 1,.bool θ,ξ κ 0])/\W cu n25 cw w'):yE.wp prog (dK λa w=>∃cu n25 cw,Sl [(1,π (φ ⟨gE,0,ν⟩)),(5,ξ κ 0),(7,ξ κ 0),(25,.slice cu n25 cw),(26,ξ κ 1)] a/\W cu n25 cw w) a w:=by
 obtain⟨x,rfl,hx⟩:=hs.lit;simp only[Al] at hx;have q0:=hc.cell 0;have q1:=hc.cell 1;have q2:=hc.cell 2;have q3:=hc.cell 3;have aG:=ψ aG;clear hc;unfold lit;simp only[hx];simp only[yE,Gz,Di,Ba,yI,yH,vZ,uA,su,qV,pW,pb,oo,nu,mo,lM,lr,kK,j4,jH,jm,iM,iL,iK,iS,Tryz.f21,bp,aS,À];go_wp2_with (go_at_call 33;refine aG.e.mono ?_;rintro e w1 ⟨cu,n25,cw,rfl,hp⟩;have HP:=ψ hp;clear hp)
 exact⟨cu,n25,cw,⟨rfl,rfl,(by repeat first|exact jF|refine eY rfl ?_)⟩,HP.e⟩
def aof{Ap Ab At:Option Addr}{W:Option Addr->Nat->Nat->Ψ->Prop}(hs:Sl [(1,π (φ ⟨gE,0,ν⟩)),(5,ξ κ 0),(7,ξ κ 0),(25,.slice cu n25 cw),(26,ξ κ 1)] a)(hc:Bk w gE 26 #[ξ κ 1,.slice Ap np cp,.slice Ab nb cb,.slice At nt ct])
 (aG:ύ prog 56 #[η #[ξ κ 1,.slice Ap np cp,.slice Ab nb cb,.slice At nt ct]] w λe w'=>∃qO n35 jO,e=Ω (μ #[.slice qO n35 jO,ξ κ 0])/\W qO n35 jO w'):yF.wp prog (dK λa w=>∃qO n35 jO,Sl [(5,ξ κ 0),(7,ξ κ 0),(9,ξ κ 0),(25,.slice cu n25 cw),(26,ξ κ 1),(35,.slice qO n35 jO)] a/\W qO n35 jO w) a w:=by
 obtain⟨x,rfl,hx⟩:=hs.lit;simp only[Al] at hx;have q0:=hc.cell 0;have q1:=hc.cell 1;have q2:=hc.cell 2;have q3:=hc.cell 3;have aG:=ψ aG;clear hc;unfold lit;simp only[hx];simp only[yF,Kw,Kv,Gz,Di,Ba,yI,yH,vZ,uA,su,qV,pW,pb,oo,nu,mo,lM,lr,kK,j4,jH,jm,iM,iL,iK,iS,Tryz.f21,bp,aS,À];go_wp2_with (go_at_call 56;refine aG.e.mono ?_;rintro e w1 ⟨qO,n35,jO,rfl,hp⟩;have HP:=ψ hp;clear hp)
 exact⟨qO,n35,jO,⟨rfl,rfl,(by repeat first|exact jF|refine eY rfl ?_)⟩,HP.e⟩
def aog{qO:Option Addr}{n35 jO:Nat}(hs:Sl [(5,ξ κ 0),(7,ξ κ 0),(9,ξ κ 0),(25,.slice cu n25 cw),(26,ξ κ 1),(35,.slice qO n35 jO)] a)
 (iC:Row w w.heap.size 2 Cut.R (.slice cu n25 cw) nE)(IY:Row w w.heap.size 1 bI (.slice qO n35 jO) [0,1,2]):
 yJ.wp prog (λe a w'=>e=.ret/\a.defers=[cQ]/\a.tmps.size=349/\a.tmps[0]?=φ (.bool θ)/\Γ w.heap.size w w') a w:=by
 obtain⟨x,rfl,hx⟩:=hs.lit;simp only[Al] at hx;have CA:Hid (∀W,Γ w.heap.size w W->∀g,Bk W g 56 #[ξ κ 2,ξ κ 0,ξ κ 2,ξ κ 6,ξ κ 2,ξ κ 10]->ύ prog 35 #[.slice cu n25 cw,ζ (φ ⟨g,0,ν⟩) 3 3] W λe w'=>e=Ω (.bool θ)/\Γ W.heap.size W w'):=ψ λW hb g hg=>by
  have:=Qo (fP iC hb) (SP nE (by decide) hg rfl) (ϊ _)
  exact this
 have CB:Hid (∀W,Γ w.heap.size w W->∀g,Bk W g 3 #[ξ κ 0,ξ κ 1,ξ κ 2]->ύ prog 30 #[.slice qO n35 jO,ζ (φ ⟨g,0,ν⟩) 3 3] W λe w'=>e=Ω (.bool θ)/\Γ W.heap.size W w'):=ψ λW hb g hg=>by
  have:=D4 (fP IY hb) (sJ [0,1,2] (by decide) hg rfl) (ϊ _)
  exact this
 clear iC IY;unfold lit;simp only[hx];simp only[yJ,Kw,Kv,Gz,Di,Ba,yI,yH,vZ,uA,su,qV,pW,pb,oo,nu,mo,lM,lr,kK,j4,jH,jm,iM,iL,iK,iS,Tryz.f21,bp,aS,À];go_wp2_with (first
  | (go_at_call 66;refine(dt _ _ _).mono ?_;rintro e w1 ⟨rfl,rfl⟩)
  | (go_at_call 35;refine(CA.e _ (by repeat first|exact à _ _|refine Ak1 ?_ (by simp<;>omega) _) _ (Bk.bZ (by simp) _ _)).mono ?_;rintro e w5 ⟨rfl,dB⟩;have H5:Hid (Γ w.heap.size w w5):=ψ (Ak2 (B:=w.heap.size) (by repeat first|exact à _ _|refine Ak1 ?_ (by simp<;>omega) _) (dB.mono (by simp<;>omega)));clear dB)
  | (go_at_call 30;have rM:=CB.e (w5.alloc (Obj.cells #[ϛ Ϙ 0,ϛ Ϙ 1,ϛ Ϙ 2] 3)) (H5.e.alloc H5.e.size _) w5.heap.size (Bk.new _ _ _);refine rM.mono ?_;rintro e w6 ⟨rfl,eC⟩;have H6:=ψ ((H5.e.alloc H5.e.size _).trans (eC.mono (by have:=H5.e.size;simp;omega)));clear eC))
 exact H6.e
end
end Go.Jn
namespace Go.Jn
open Go Go.Proofs Go.Sim Go.Conc Go.Tw Go.RowKit
def anR{No:Nat->Prop}{sz:Nat}{R:α->List υ->Prop}{xs:List α}(h:cV w No sz R v xs){p:Addr}(hp:No p.block)(u:υ):cV (w.setCell p u) No sz R v xs:=by
 obtain⟨A,c,hv,h1,h2,h3⟩:=h;refine⟨A,c,hv,h1,h2,λhx=>?_⟩
 obtain⟨ad,ha,hb,hn,hc⟩:=h3 hx;refine⟨ad,ha,by simpa [World.setCell] using hb,hn,λi x hi=>?_⟩
 obtain⟨cs,r,hl,aq⟩:=hc i x hi;refine⟨cs,r,hl,λj u hu=>?_⟩
 have aw:(ad.add (i * sz+j)).block≠p.block:=by rw[b9];intro e;rw[e] at hn;exact hn hp
 exact(World.cell?_of_block (Below.heap_setCell w p _ _ aw)).trans (aq j u hu)
section
variable [Go.Tw.aK]
def BM(gk:Nat):List (bN×υ):=[(uS,ζ (φ ⟨gk,0,ν⟩) 1 1),(⟨FU,6,[]⟩,ζ ν 0 0)]
def D6(gl g1 g2:Nat):List (Tw.Tape×υ):=[(⟨[0,2],⟨7,7⟩⟩,ζ (φ ⟨gl,0,ν⟩) 2 2),(⟨[0],⟨4,4⟩⟩,ζ (φ ⟨g1,0,ν⟩) 1 1),(⟨[2],⟨2,2⟩⟩,ζ (φ ⟨g2,0,ν⟩) 1 1)]
def apS{base:Nat}(hp:Bk W gp 72 #[.string Js,ξ κ 4,ξ κ 5,ξ κ 0,.string Jt,ξ κ 3,ξ κ 3,ξ κ 1,.string Jr,ξ κ 2,ξ κ 3,ξ κ 0])
 (hb:Bk W gb 59 #[.string SY,ξ κ 8,ζ (φ ⟨gk,0,ν⟩) 1 1,.string FU,ξ κ 6,ζ ν 0 0])(hk:Bk W gk 37 #[ξ κ 3,ξ κ 3])(hl:Bk W gl 3 #[ξ κ 0,ξ κ 2])
 (h1:Bk W g1 3 #[ξ κ 0])(h2:Bk W g2 3 #[ξ κ 2])(ho:W.ownsRow base 95 3 tv 3 ((D6 gl g1 g2).flatMap cE)):
 aQ W W.heap.size BN (ζ (φ ⟨gp,0,ν⟩) 3 3) (ζ (φ ⟨gb,0,ν⟩) 2 2) tv:=by
 refine⟨?_,?_,?_⟩
 ·exact za (xs:=bg.pieces) (f:=fX) hp (by decide) (λ_=>rfl) (λx hx=>by
   refine⟨rfl,?_⟩
   simp only[bg,ϥ,Λ,or_false] at hx;rcases hx with rfl|rfl|rfl<;>decide) rfl
 ·have:=za (xs:=BM gk) (sz:=3) (f:=fc) (R:=λp cs=>cs=fc p) hb (by show 2<=1000;decide) (λ_=>rfl) (λ_ _=>rfl) rfl
  exact tD (ps:=BM gk) this (λp hm cs hc=>by
   simp only[BM,ϥ,Λ,or_false] at hm;rcases hm with rfl|rfl
   ·exact⟨_,hc,(by show uS.name.size<=maxLen;decide),Mm [⟨3,3⟩] (by decide) hk rfl⟩
   ·exact⟨_,hc,by decide,Row.nil⟩)
 ·have:=mZ (l:=D6 gl g1 g2) (f:=cE) (R:=λp cs=>cs=cE p) ho (λ_=>rfl) (λ_ _=>rfl)
  exact tD (ps:=D6 gl g1 g2) this (λp hm cs hc=>by
   simp only[D6,ϥ,Λ,or_false] at hm;rcases hm with rfl|rfl|rfl
   ·exact⟨_,hc,sJ [0,2] (by decide) hl rfl⟩
   ·exact⟨_,hc,sJ [0] (by decide) h1 rfl⟩
   ·exact⟨_,hc,sJ [2] (by decide) h2 rfl⟩)
def lS{g':Nat}{t t':TypeId}{bu:Array υ}(h:Bk w g t cs)(h':Bk w g' t' bu)(ht:t≠t'):g≠g':=by
 rintro rfl;have h:w.heap[g]?=_:=h;have h':w.heap[g]?=_:=h';rw[h] at h';simp only[ó,Obj.cells.injEq] at h';exact ht h'.2.1
def amU{base sz:Nat}{e t:TypeId}{xs:List υ}(h:w.ownsRow base e sz v n xs)(hb:Bk w g t cs)(ht:e≠t):∀k,v.ownBlock=φ k->g≠k:=by
 rcases h.2 with⟨rfl,_⟩ | ⟨k,cap,cur,rfl,ky,hk,_⟩
 ·intro k hk;simp[Value.ownBlock] at hk
 ·intro k' kU
  simp[Value.ownBlock] at kU;subst kU
  exactλe=>lS (show Bk w k _ cur from hk) hb ht e.symm
def apT{W4 w6:Ψ}(hx:j6 w0 w gE gp gb gk gt gl gc g3)(h4:Γ w.heap.size w W4)(b1:Bk W4 g1 3 #[ξ κ 0])(b2:Bk W4 g2 3 #[ξ κ 2])
 (aH:w6.ownsRow w0.heap.size 95 3 v' 3 ((D6 gl g1 g2).flatMap cE))(hg:W4.grownBy w6 (φ gt)):
 Bk w6 gE 26 #[ξ κ 1,ζ (φ ⟨gp,0,ν⟩) 3 3,ζ (φ ⟨gb,0,ν⟩) 2 2,ζ (φ ⟨gt,0,ν⟩) 1 1]/\
 Bk (w6.setCell ⟨gE,3,ν⟩ v') gE 26 #[ξ κ 1,ζ (φ ⟨gp,0,ν⟩) 3 3,ζ (φ ⟨gb,0,ν⟩) 2 2,v']/\
 aQ (w6.setCell ⟨gE,3,ν⟩ v') (w6.setCell ⟨gE,3,ν⟩ v').heap.size BN (ζ (φ ⟨gp,0,ν⟩) 3 3) (ζ (φ ⟨gb,0,ν⟩) 2 2) v'/\
 ∀ {A:Option Addr} {n c:Nat},cV w (λk=>k=gE\/k=gt) 2 Cut.R (.slice A n c) nE->cV (w6.setCell ⟨gE,3,ν⟩ v') (λk=>k=gE\/k=gt) 2 Cut.R (.slice A n c) nE:=by
 have up:∀ {g t cs},Bk w g t cs->g≠gt->Bk w6 g t cs:=λh aw=>Bk.grown (W:=W4) (h.below h4 h.lt) hg (by simpa using aw)
 have ht:=hx.ex.t;have hE:=up hx.bE (lS hx.bE ht (by decide))
 have hp:=up hx.ex.p (lS hx.ex.p ht (by decide))
 have hb:=up hx.ex.b (lS hx.ex.b ht (by decide))
 have hk:=up hx.ex.k (lS hx.ex.k ht (by decide))
 have hl:=up hx.ex.l (lS hx.ex.l ht (by decide))
 have Wq:=ht.below h4 ht.lt;have h1:Bk w6 g1 3 #[ξ κ 0]:=Bk.grown (W:=W4) b1 hg (by simpa using lS b1 Wq (by decide))
 have h2:Bk w6 g2 3 #[ξ κ 2]:=Bk.grown (W:=W4) b2 hg (by simpa using lS b2 Wq (by decide))
 have ho:=mh (u:=v') (p:=⟨gE,3,ν⟩) aH (amU aH hE (by decide))
 refine⟨hE,hE.set 3 v',apS (hp.dV (lS hp hE (by decide)) _) (hb.dV (lS hb hE (by decide)) _) (hk.dV (lS hk hE (by decide)) _) (hl.dV (lS hl hE (by decide)) _) (h1.dV (lS h1 hE (by decide)) _) (h2.dV (lS h2 hE (by decide)) _) ho,λhr=>?_⟩
 have de:cV W4 (λk=>k=gE\/k=gt) 2 Cut.R _ nE:=hr.below h4 (λk hk=>.inl hk)
 exact anR (de.grown hg (λk hk=>.inr (by simpa using hk.symm))) (.inl rfl) _
end
def aqU{md:Region.Mode}{Q:Exit->Act->Ψ->Prop}(I:Nat->Array Bool->Act->Ψ->Prop)
 (dH:∀n l a w i (K:Act->Ψ->Prop),I n l a w->i∈É md ops l->(∀a' w',I (n+1) (l.setIfInBounds i θ) a' w'->K a' w')->wpOp P ops Q i K a w)
 (rP:∀n l a w,I n l a w->É md ops l=[]->Q .normal a w)(Cc:∀l a w,I ops.size l a w->É md ops l=[]):
 ∀fuel n l a w,n+fuel=ops.size->I n l a w->æ P md ops Q fuel l a w:=by
 intro fuel;induction fuel with
 |zero=>
  intro n l a w hn h;have hn:n=ops.size:=hn;subst hn;exact⟨Cc l a w h,rP _ l a w h (Cc l a w h)⟩
 |succ k ih=>exactλn l a w hn h=>⟨rP n l a w h,λi hi=>dH n l a w i _ h hi λa' w' h'=>ih (n+1) _ a' w' (by omega) h'⟩
def waits(ops:Array Oper)(i:Nat):List Nat:=((ops[i]?).map λo=>(o.after.toList.filter (Region.binds .any ·)).map (·.on)).getD []
def JM:i∈É .any ops l↔i<ops.size/\l.getD i θ=χ/\∀d∈waits ops i,l.getD d χ=θ:=by
 rw[mem_ready];unfold waits;constructor
 ·rintro⟨h,o,ho,ha⟩
  refine⟨(Ϝ.1 ho).1,h,λd hd=>?_⟩
  rw[ho] at hd;simp only[î,À,List.mem_map,List.mem_filter] at hd;obtain⟨e,⟨he,hb⟩,rfl⟩:=hd;exact ha e (by simpa using he) hb
 ·rintro⟨hi,h,ha⟩
  refine⟨h,ops[i],Ϝ.2 ⟨hi,rfl⟩,λe he hb=>ha _ ?_⟩
  rw[Ϝ.2 ⟨hi,rfl⟩]
  simp only[î,À,List.mem_map,List.mem_filter];exact⟨e,⟨by simpa using he,hb⟩,rfl⟩
def dI:Array Oper:=opsOf tN
def aja:Nat:=match tN with| .region i _ _=>i|_=>0
def apK:tN=.region aja dI θ:=by kernel_rfl
def C5:dI.size=12:=by kernel_rfl
def aeA:∃o,dI[0]?=φ o/\o.op=.fieldAddr 26 (.tmp 1) 3/\o.dst=φ 306/\o.guard=ν:=⟨_,rfl,rfl,rfl,rfl⟩
def aeB:∃o,dI[1]?=φ o/\o.op=.load 24 (.tmp 306)/\o.dst=φ 307/\o.guard=ν:=⟨_,rfl,rfl,rfl,rfl⟩
def aeE:∃o,dI[2]?=φ o/\o.op=.buildSlice 33 1 #[(0,.const (ξ κ 0))]/\o.dst=φ 308/\o.guard=ν:=⟨_,rfl,rfl,rfl,rfl⟩
def aeF:∃o,dI[3]?=φ o/\o.op=.call {callee:=.value (.func 50),args:=#[.const (ξ κ 4)],argTypes:=#[3]}/\o.dst=φ 309/\o.guard=ν:=⟨_,rfl,rfl,rfl,rfl⟩
def aeG:∃o,dI[4]?=φ o/\o.op=.build 95 #[(0,.tmp 308),(1,.tmp 309)]/\o.dst=φ 310/\o.guard=ν:=⟨_,rfl,rfl,rfl,rfl⟩
def aeH:∃o,dI[5]?=φ o/\o.op=.buildSlice 33 1 #[(0,.const (ξ κ 2))]/\o.dst=φ 311/\o.guard=ν:=⟨_,rfl,rfl,rfl,rfl⟩
def aeI:∃o,dI[6]?=φ o/\o.op=.call {callee:=.value (.func 50),args:=#[.const (ξ κ 2)],argTypes:=#[3]}/\o.dst=φ 312/\o.guard=ν:=⟨_,rfl,rfl,rfl,rfl⟩
def aeJ:∃o,dI[7]?=φ o/\o.op=.build 95 #[(0,.tmp 311),(1,.tmp 312)]/\o.dst=φ 313/\o.guard=ν:=⟨_,rfl,rfl,rfl,rfl⟩
def aeK:∃o,dI[8]?=φ o/\o.op=.buildSlice 24 2 #[(0,.tmp 310),(1,.tmp 313)]/\o.dst=φ 314/\o.guard=ν:=⟨_,rfl,rfl,rfl,rfl⟩
def aeL:∃o,dI[9]?=φ o/\o.op=.call {callee:=.builtin .append,args:=#[.tmp 307,.tmp 314],argTypes:=#[24,24]}/\o.dst=φ 315/\o.guard=ν:=⟨_,rfl,rfl,rfl,rfl⟩
def aeC:∃o,dI[10]?=φ o/\o.op=.fieldAddr 26 (.tmp 1) 3/\o.dst=φ 316/\o.guard=ν:=⟨_,rfl,rfl,rfl,rfl⟩
def aeD:∃o,dI[11]?=φ o/\o.op=.store 24 (.tmp 316) (.tmp 315)/\o.dst=ν/\o.guard=ν:=⟨_,rfl,rfl,rfl,rfl⟩
def ZH:waits dI 1=[0]:=by kernel_rfl
def Km:waits dI 4=[2,3]:=by kernel_rfl
def Rc:waits dI 7=[5,6]:=by kernel_rfl
def Re:waits dI 8=[4,7]:=by kernel_rfl
def Rf:waits dI 9=[1,8,6]:=by kernel_rfl
def Gs:waits dI 10=[0,1,2,3,4,5,6,7,8,9]:=by kernel_rfl
def Kl:10∈waits dI 11:=List.contains_iff_mem.1 (by kernel_rfl)
def wlt:(ϸ 12).all (λi=>(waits dI i).all λd=>decide (d<i))=θ:=by kernel_rfl
def L5(h:É .any dI l=[]):∀i,i<12->l.getD i θ=θ:=by
 intro i;induction i using Nat.strongRecOn with
 |_ i ih=>
  intro hi;cases hb:l.getD i θ with
  |true=>rfl
  |false=>
   have:i∈É .any dI l:=JM.2 ⟨by rw[C5];exact hi,hb,λd hd=>by
    have ao:d<i:=by
     have:=ħ.1 (ħ.1 wlt i (ű.2 hi)) d hd;simpa using this
    have:=ih d ao (by omega)
    have hs:i<l.size:=by
     apply Classical.byContradiction;intro hn;rw[Õ,ý (by omega)] at hb
     cases hb
    rw[Õ,Ϝ.2 ⟨by omega,rfl⟩] at this |-
    exact this⟩
   rw[h] at this;cases this
def Hw(h:i<l.size)(d e:Bool):l.getD i d=l.getD i e:=by
 rw[Õ,Õ,Ϝ.2 ⟨h,rfl⟩];rfl
def M9(h:i<l.size)(d:Bool):(l.setIfInBounds i θ).getD i d=θ:=by
 rw[Õ,Ö,if_pos rfl,if_pos h];rfl
def ad0(hc:l.toList.countP id=n)(hi:i<l.size)(hb:l.getD i θ=χ):(l.setIfInBounds i θ).toList.countP id=n+1:=by
 rw[Array.toList_setIfInBounds,List.countP_set (by simpa using hi)]
 have e:l.toList[i]'(by simpa using hi)=χ:=by
  rw[Õ,Ϝ.2 ⟨hi,rfl⟩] at hb
  simpa using hb
 rw[e,hc];simp
def adZ(h:l.toList.countP id=12)(hs:l.size=12):É .any dI l=[]:=by
 rw[List.eq_nil_iff_forall_not_mem];intro i hi;obtain⟨h1,h2,-⟩:=JM.1 hi;rw[C5] at h1;have:=List.countP_eq_length.1 (h.trans (by simpa using hs.symm:12=l.toList.length)) (l[i]'(by omega)) (by simp)
 rw[Õ,Ϝ.2 ⟨by omega,rfl⟩] at h2
 simp only[id,À] at this h2;rw[this] at h2;cases h2
end Go.Jn
namespace Go.Jn
open Go Go.Proofs Go.Sim Go.Conc Go.Tw Go.RowKit
section
variable [Go.Tw.aK]
def FV(gE gt k:Nat)(W:Ψ)(v:υ):Prop:=match k with
 |0=>v=π (φ ⟨gE,3,ν⟩)
 |1=>v=ζ (φ ⟨gt,0,ν⟩) 1 1
 |2=>∃b,v=ζ (φ ⟨b,0,ν⟩) 1 1/\Bk W b 3 #[ξ κ 0]
 |3=>v=η #[ξ κ 4,ξ κ 4]
 |4=>∃b,v=η #[ζ (φ ⟨b,0,ν⟩) 1 1,ξ κ 4,ξ κ 4]/\Bk W b 3 #[ξ κ 0]
 |5=>∃b,v=ζ (φ ⟨b,0,ν⟩) 1 1/\Bk W b 3 #[ξ κ 2]
 |6=>v=η #[ξ κ 2,ξ κ 2]
 |7=>∃b,v=η #[ζ (φ ⟨b,0,ν⟩) 1 1,ξ κ 2,ξ κ 2]/\Bk W b 3 #[ξ κ 2]
 |_=>∃d b c,v=ζ (φ ⟨d,0,ν⟩) 2 2/\Bk W d 95 #[ζ (φ ⟨b,0,ν⟩) 1 1,ξ κ 4,ξ κ 4,ζ (φ ⟨c,0,ν⟩) 1 1,ξ κ 2,ξ κ 2]/\Bk W b 3 #[ξ κ 0]/\Bk W c 3 #[ξ κ 2]
def FV.below{gE gt k:Nat}{W W':Ψ}{v:υ}(h:FV gE gt k W v)(hb:Γ W.heap.size W W'):FV gE gt k W' v:=by
 have up:∀ {g t cs},Bk W g t cs->Bk W' g t cs:=λh=>h.below hb h.lt
 unfold FV at *;split at h<;>first
  |exact h
  | (obtain⟨b,e,h⟩:=h;exact⟨b,e,up h⟩)
  | (obtain⟨d,b,c,e,h1,h2,h3⟩:=h;exact⟨d,b,c,e,up h1,up h2,up h3⟩)
def BK(W:Ψ)(gE gp gb:Nat)(v:υ):Prop:=Bk W gE 26 #[ξ κ 1,ζ (φ ⟨gp,0,ν⟩) 3 3,ζ (φ ⟨gb,0,ν⟩) 2 2,v]
def RG(gE gp gb:Nat)(v25:υ)(W:Ψ)(v:υ):Prop:=∃A n c,v=.slice A n c/\BK W gE gp gb (.slice A n c)/\aQ W W.heap.size BN (ζ (φ ⟨gp,0,ν⟩) 3 3) (ζ (φ ⟨gb,0,ν⟩) 2 2) (.slice A n c)/\Row W W.heap.size 2 Cut.R v25 nE
def LJ(gE gp gb gt:Nat)(v25:υ)(W:Ψ)(v:υ):Prop:=BK W gE gp gb (ζ (φ ⟨gt,0,ν⟩) 1 1)/\RG gE gp gb v25 (W.setCell ⟨gE,3,ν⟩ v) v
structure Bl(m:List (Nat×υ))(w:Ψ)(gE gp gb gt:Nat)(v25:υ)(n:Nat)(l:Array Bool)(a:Act)(W:Ψ):Prop where
 sz:l.size=12
 cnt:l.toList.countP id=n
 cl:∀k,l.getD k χ=θ->∀d∈waits dI k,l.getD d χ=θ
 sl:Sl m a
 ph:(l.getD 9 χ=χ/\Γ w.heap.size w W/\∀k,k<9->l.getD k χ=θ->∃v,a.tmps[306+k]?=φ v/\FV gE gt k W v)\/
  (l.getD 9 χ=θ/\l.getD 10 χ=χ/\∃v,a.tmps[315]?=φ v/\LJ gE gp gb gt v25 W v)\/
  (l.getD 10 χ=θ/\l.getD 11 χ=χ/\∃v,a.tmps[315]?=φ v/\a.tmps[316]?=φ (π (φ ⟨gE,3,ν⟩))/\LJ gE gp gb gt v25 W v)\/
  (l.getD 11 χ=θ/\∃v,RG gE gp gb v25 W v)
def QA{m:List (Nat×υ)}(h:Sl m a)(hm:∀p∈m,p.1<306)(hd:306<=d)(v:υ):Sl m (a.put (φ d) v):=by
 refine⟨h.1,by simpa [Ϧ] using h.2.1,λp hp=>?_⟩
 have:=h.2.2 p hp;have:=hm p hp;simp only[Ϧ];rw[Ö,if_neg (by omega)]
 exact h.2.2 p hp
section
variable {m:List (Nat×υ)}{w:Ψ}{gE gp gb gt:Nat}{v25:υ}{n:Nat}{l:Array Bool}{a:Act}{W:Ψ}
def Bl.next(h:Bl m w gE gp gb gt v25 n l a W)(hi:i∈É .any dI l):
 (l.setIfInBounds i θ).size=12/\(l.setIfInBounds i θ).toList.countP id=n+1/\(∀k,(l.setIfInBounds i θ).getD k χ=θ->∀d∈waits dI k,(l.setIfInBounds i θ).getD d χ=θ):=by
 obtain⟨h1,h2,h3⟩:=JM.1 hi;rw[C5] at h1;have hs:=h.sz;refine⟨by simpa using hs,ad0 h.cnt (by omega) h2,λk hk d hd=>?_⟩
 by_cases rS:i=k
 ·subst rS
  exact getD_set_true (h3 d hd)
 ·rw[Akz χ rS] at hk
  exact getD_set_true (h.cl k hk d hd)
def Bl.one(h:Bl m w gE gp gb gt v25 n l a W)(hm:∀p∈m,p.1<306)(h9:l.getD 9 χ=χ)(hb:Γ w.heap.size w W)(hf:∀k,k<9->l.getD k χ=θ->∃v,a.tmps[306+k]?=φ v/\FV gE gt k W v)
 (hi:i∈É .any dI l)(xD:i<9){W':Ψ}(hW:Γ W.heap.size W W')(hv:FV gE gt i W' v):
 Bl m w gE gp gb gt v25 (n+1) (l.setIfInBounds i θ) (a.put (φ (306+i)) v) W':=by
 obtain⟨n1,n2,n3⟩:=h.next hi;refine⟨n1,n2,n3,QA h.sl hm (by omega) v,.inl ⟨by rw[Akz χ (by omega)];exact h9,hb.trans (hW.mono hb.size),λk hk hl=>?_⟩⟩
 simp only[Ϧ];by_cases rS:i=k
 ·subst rS
  have hs:=h.sl.2.1;exact⟨v,by rw[Ö,if_pos rfl,if_pos (by omega)],hv⟩
 ·rw[Akz χ rS] at hl
  obtain⟨u,hu,hfu⟩:=hf k hk hl;exact⟨u,by rw[Ö,if_neg (by omega)];exact hu,hfu.below hW⟩
def AU{K:Act->Ψ->Prop}{Q:Exit->Act->Ψ->Prop}(ho:dI[i]?=φ o)(hg:o.guard=ν)(h:Oper.wp prog o a W K Q):wpOp prog dI Q i K a W:=by
 unfold wpOp;rw[ho];simp only[cx hg,if_true];exact .inl h
def ev(h:a.tmps[k]?=φ v):a.eval (.tmp k)=v:=by
 unfold Act.eval;simp[h]
def Zt{K:Act->Ψ->Prop}{Q:Exit->Act->Ψ->Prop}(ho:dI[i]?=φ o)(ag:o.op=.fieldAddr 26 (.tmp 1) 3)(hd:o.dst=φ d)(hg:o.guard=ν)(h1:a.tmps[1]?=φ (π (φ ⟨gE,0,ν⟩)))(h:K (a.put (φ d) (π (φ ⟨gE,3,ν⟩))) W):wpOp prog dI Q i K a W:=by
 refine AU ho hg ?_
 have e:=ev h1;obtain⟨d,op,ty,ps,af,gu⟩:=o;simp only at ag hd hg;subst ag hd hg;clear ho;go_simp;exact h
def aqx{K:Act->Ψ->Prop}{Q:Exit->Act->Ψ->Prop}(h1:a.tmps[306]?=φ (π (φ ⟨gE,3,ν⟩)))(hc: W.cell? ⟨gE,3,ν⟩=φ (ζ (φ ⟨gt,0,ν⟩) 1 1))(h:K (a.put (φ 307) (ζ (φ ⟨gt,0,ν⟩) 1 1)) W):wpOp prog dI Q 1 K a W:=by
 obtain⟨o,ho,ag,hd,hg⟩:=aeB;refine AU ho hg ?_
 have e:=ev h1;obtain⟨d,op,ty,ps,af,gu⟩:=o;simp only at ag hd hg;subst ag hd hg;clear ho;go_simp;exact h
def Zu{K:Act->Ψ->Prop}{Q:Exit->Act->Ψ->Prop}(ho:dI[i]?=φ o)(ag:o.op=.buildSlice 33 1 #[(0,.const (ξ κ z))])(hd:o.dst=φ d)(hg:o.guard=ν)(h:K (a.put (φ d) (ζ (φ ⟨W.heap.size,0,ν⟩) 1 1)) (W.alloc (Ξ #[ξ κ z] 3))):wpOp prog dI Q i K a W:=by
 refine AU ho hg ?_
 obtain⟨d,op,ty,ps,af,gu⟩:=o;simp only at ag hd hg;subst ag hd hg;clear ho;go_simp;exact h
def Zv{d:Nat}{z:Int}{K:Act->Ψ->Prop}{Q:Exit->Act->Ψ->Prop}(ho:dI[i]?=φ o)(ag:o.op=.call {callee:=.value (.func 50),args:=#[.const (ξ κ z)],argTypes:=#[3]})(hd:o.dst=φ d)(hg:o.guard=ν)(h:K (a.put (φ d) (η #[ξ κ z,ξ κ z])) (W.alloc (Ξ #[ξ κ z,ξ κ z] 37))):wpOp prog dI Q i K a W:=by
 refine AU ho hg ?_
 obtain⟨d,op,ty,ps,af,gu⟩:=o;simp only at ag hd hg;subst ag hd hg;clear ho;go_simp
 go_at_call 50
 refine(CQ _ _).mono ?_
 rintro e w1 ⟨rfl,rfl⟩;exact h
def Zw{s1 s2:Nat}{b:Nat}{K:Act->Ψ->Prop}{Q:Exit->Act->Ψ->Prop}(ho:dI[i]?=φ o)(ag:o.op=.build 95 #[(0,.tmp s1),(1,.tmp s2)])(hd:o.dst=φ d)(hg:o.guard=ν)(h1:a.tmps[s1]?=φ (ζ (φ ⟨b,0,ν⟩) 1 1))(h2:a.tmps[s2]?=φ (η #[ξ κ z,ξ κ z]))(h:K (a.put (φ d) (η #[ζ (φ ⟨b,0,ν⟩) 1 1,ξ κ z,ξ κ z])) W):wpOp prog dI Q i K a W:=by
 refine AU ho hg ?_
 have e:=ev h1;have e':=ev h2;obtain⟨d,op,ty,ps,af,gu⟩:=o;simp only at ag hd hg;subst ag hd hg;clear ho;go_simp;exact h
def aqz{b:Nat}{K:Act->Ψ->Prop}{Q:Exit->Act->Ψ->Prop}(h1:a.tmps[310]?=φ (η #[ζ (φ ⟨b,0,ν⟩) 1 1,ξ κ 4,ξ κ 4]))(h2:a.tmps[313]?=φ (η #[ζ (φ ⟨c,0,ν⟩) 1 1,ξ κ 2,ξ κ 2]))
 (h:K (a.put (φ 314) (ζ (φ ⟨W.heap.size,0,ν⟩) 2 2)) (W.alloc (Ξ #[ζ (φ ⟨b,0,ν⟩) 1 1,ξ κ 4,ξ κ 4,ζ (φ ⟨c,0,ν⟩) 1 1,ξ κ 2,ξ κ 2] 95))):wpOp prog dI Q 8 K a W:=by
 obtain⟨o,ho,ag,hd,hg⟩:=aeK;refine AU ho hg ?_
 have e:=ev h1;have e':=ev h2;obtain⟨d,op,ty,ps,af,gu⟩:=o;simp only at ag hd hg;subst ag hd hg;clear ho;go_simp;exact h
def aqy{A:Option Addr}{u:υ}{K:Act->Ψ->Prop}{Q:Exit->Act->Ψ->Prop}(h1:a.tmps[316]?=φ (π (φ ⟨gE,3,ν⟩)))(h2:a.tmps[315]?=φ (.slice A k c))(hc: W.cell? ⟨gE,3,ν⟩=φ u)(hf: W.frozen? ⟨gE,3,ν⟩=χ)(h:K a (W.setCell ⟨gE,3,ν⟩ (.slice A k c))):wpOp prog dI Q 11 K a W:=by
 obtain⟨o,ho,ag,hd,hg⟩:=aeD;refine AU ho hg ?_
 have e:=ev h1;have e':=ev h2;obtain⟨d,op,ty,ps,af,gu⟩:=o;simp only at ag hd hg;subst ag hd hg;clear ho;go_simp;exact h
def aqw{b:Nat}{K:Act->Ψ->Prop}{Q:Exit->Act->Ψ->Prop}(hx:j6 w0 w gE gp gb gk gt gl gc g3)(iC:cV w (λk=>k=gE\/k=gt) 2 Cut.R (.slice cu n25 cw) nE)
 (hb:Γ w.heap.size w W)(h1:a.tmps[307]?=φ (ζ (φ ⟨gt,0,ν⟩) 1 1))(h2:a.tmps[314]?=φ (ζ (φ ⟨b,0,ν⟩) 2 2))
 (hn:Bk W b 95 #[ζ (φ ⟨g1,0,ν⟩) 1 1,ξ κ 4,ξ κ 4,ζ (φ ⟨g2,0,ν⟩) 1 1,ξ κ 2,ξ κ 2])(b1:Bk W g1 3 #[ξ κ 0])(b2:Bk W g2 3 #[ξ κ 2])
 (h:∀v w',LJ gE gp gb gt (.slice cu n25 cw) w' v->K (a.put (φ 315) v) w'):wpOp prog dI Q 9 K a W:=by
 obtain⟨o,ho,ag,hd,hg⟩:=aeL;obtain⟨i0,cJ,cK,aO,aZ⟩:=info_parts Fz;have ate:w.ownsRow w0.heap.size 95 3 (ζ (φ ⟨gt,0,ν⟩) 1 1) 1 [ζ (φ ⟨gl,0,ν⟩) 2 2,ξ κ 7,ξ κ 7]:=
  ⟨rfl,.inr ⟨gt,1,_,rfl,hx.ex.ht,hx.ex.t,ϊ _,by unfold maxLen;omega,rfl,rfl⟩⟩
 have amT:W.ownsRow w0.heap.size 95 3 (ζ (φ ⟨gt,0,ν⟩) 1 1) 1 [ζ (φ ⟨gl,0,ν⟩) 2 2,ξ κ 7,ξ κ 7]:=
  ⟨rfl,.inr ⟨gt,1,_,rfl,hx.ex.ht,hx.ex.t.below hb hx.ex.t.lt,ϊ _,by unfold maxLen;omega,rfl,rfl⟩⟩
 have lw:w0.heap.size<=W.heap.size:=ϡ hx.below.size hb.size;refine wpOp_step ho λK' hK=>?_
 refine oe (Q:=Q) hg (.tmp 307) (.tmp 314) 24 ag w0.heap.size 95 i0 (η #[ζ ν 0 0,ξ κ 0,ξ κ 0]) 3 40 (U Tryz.underlying24) cJ cK aO aZ rfl (by decide) (ζ (φ ⟨gt,0,ν⟩) 1 1) 1 _ (ev h1) amT ⟨b,0,ν⟩ 2 2
  [ζ (φ ⟨g1,0,ν⟩) 1 1,ξ κ 4,ξ κ 4,ζ (φ ⟨g2,0,ν⟩) 1 1,ξ κ 2,ξ κ 2] (ev h2) rfl (λj u hu=>by
    rw[kP];have:=hn.cell j;exact(by simpa using this.trans (by simpa using hu))) (by simp[Value.oneCell']) (by simp only[maxLen];omega) (by omega) lw ?_
 intro v' w6 aH gK;rw[hd];refine hK _ _ (h _ _ ?_)
 obtain⟨hE,xe,hB,hR⟩:=apT hx hb b1 b2 aH gK;obtain⟨A',n',c',rfl⟩:=ld aH;exact⟨hE,A',n',c',rfl,xe,hB,(hR iC).row⟩
end
set_option maxRecDepth 4000 in
def aoe(hs:Sl [(1,π (φ ⟨gE,0,ν⟩)),(5,ξ κ 0),(7,ξ κ 0),(25,.slice cu n25 cw),(26,ξ κ 1)] a)
 (hx:j6 w0 w gE gp gb gk gt gl gc g3)(iC:cV w (λk=>k=gE\/k=gt) 2 Cut.R (.slice cu n25 cw) nE):
 tN.wp prog (dK λa W=>∃A n c,Sl [(1,π (φ ⟨gE,0,ν⟩)),(5,ξ κ 0),(7,ξ κ 0),(25,.slice cu n25 cw),(26,ξ κ 1)] a/\
  Bk W gE 26 #[ξ κ 1,ζ (φ ⟨gp,0,ν⟩) 3 3,ζ (φ ⟨gb,0,ν⟩) 2 2,.slice A n c]/\aQ W W.heap.size BN (ζ (φ ⟨gp,0,ν⟩) 3 3) (ζ (φ ⟨gb,0,ν⟩) 2 2) (.slice A n c)/\Row W W.heap.size 2 Cut.R (.slice cu n25 cw) nE) a w:=by
 rw[apK];refine wp_region_any (by kernel_rfl) ?_
 have hm:∀p∈([(1,π (φ ⟨gE,0,ν⟩)),(5,ξ κ 0),(7,ξ κ 0),(25,.slice cu n25 cw),(26,ξ κ 1)]:List (Nat×υ)),p.1<306:=by simp
 refine aqU (Bl [(1,π (φ ⟨gE,0,ν⟩)),(5,ξ κ 0),(7,ξ κ 0),(25,.slice cu n25 cw),(26,ξ κ 1)] w gE gp gb gt (.slice cu n25 cw)) ?step ?fin (λl a w h=>adZ (by rw[h.cnt,C5]) h.sz) dI.size 0 _ a _ (by omega) ?start
 case start=>
  rw[C5];exact⟨by simp,by simp,λk hk=>by simp[Akw] at hk;split at hk<;>simp at hk,hs,.inl ⟨by simp,dT (à _ _),λk _ hk=>by simp[Akw] at hk;split at hk<;>simp at hk⟩⟩
 case fin=>
  intro n l a W h hr;have xa:=Hw (l:=l) (i:=11) (by rw[h.sz];omega) θ χ
  have qm:=Hw (l:=l) (i:=10) (by rw[h.sz];omega) θ χ
  have h9:=Hw (l:=l) (i:=9) (by rw[h.sz];omega) θ χ
  rw[L5 hr 11 (by omega)] at xa
  rw[L5 hr 10 (by omega)] at qm
  rw[L5 hr 9 (by omega)] at h9
  rcases h.ph with h'|h'|h'| ⟨-,v,A,n,c,rfl,h1,h2,h3⟩
  ·rw[<-h9] at h';cases h'.1
  ·rw[<-qm] at h';cases h'.2.1
  ·rw[<-xa] at h';cases h'.2.1
  ·exact⟨A,n,c,h.sl,h1,h2,h3⟩
 case step=>
  intro n l a W i K h hi hK;obtain⟨EI,xC,fM⟩:=JM.1 hi;rw[C5] at EI;have e1:a.tmps[1]?=φ (π (φ ⟨gE,0,ν⟩)):=h.sl.get (by simp)
  have Ot:=h.sz;have eK:=h.sl.2.1;have eU:l.getD i χ=χ:=(Hw (by omega) _ _).trans xC
  rcases h.ph with⟨h9,hb,hf⟩ | ⟨h9,qm,v,hv,hM⟩ | ⟨qm,xa,v,hv,hp,hM⟩ | ⟨xa,v,hF⟩
  ·have one:=λ{v:υ} {W':Ψ} (xD:i<9) (hW:Γ W.heap.size W W') (hv:FV gE gt i W' v)=>hK _ _ (h.one hm h9 hb hf hi xD hW hv)
   match i,EI with
   |0,_=>obtain⟨o,ho,ag,hd,hg⟩:=aeA;exact Zt ho ag hd hg e1 (one (by omega) (à _ _) rfl)
   |1,_=>
    obtain⟨v,hv,Fi⟩:=hf 0 (by omega) (fM 0 (by rw[ZH];simp))
    exact aqx (hv.trans (congrArg φ Fi)) ((hx.bE.below hb hx.bE.lt).cell 3) (one (by omega) (à _ _) rfl)
   |2,_=>obtain⟨o,ho,ag,hd,hg⟩:=aeE;exact Zu ho ag hd hg (one (by omega) ((à _ _).alloc (ϊ _) _) ⟨_,rfl,Bk.new _ _ _⟩)
   |3,_=>obtain⟨o,ho,ag,hd,hg⟩:=aeF;exact Zv ho ag hd hg (one (by omega) ((à _ _).alloc (ϊ _) _) rfl)
   |4,_=>
    obtain⟨v,hv,b,rfl,h1⟩:=hf 2 (by omega) (fM 2 (by rw[Km];simp))
    obtain⟨u,hu,rfl⟩:=hf 3 (by omega) (fM 3 (by rw[Km];simp))
    obtain⟨o,ho,ag,hd,hg⟩:=aeG;exact Zw ho ag hd hg hv hu (one (by omega) (à _ _) ⟨b,rfl,h1⟩)
   |5,_=>obtain⟨o,ho,ag,hd,hg⟩:=aeH;exact Zu ho ag hd hg (one (by omega) ((à _ _).alloc (ϊ _) _) ⟨_,rfl,Bk.new _ _ _⟩)
   |6,_=>obtain⟨o,ho,ag,hd,hg⟩:=aeI;exact Zv ho ag hd hg (one (by omega) ((à _ _).alloc (ϊ _) _) rfl)
   |7,_=>
    obtain⟨v,hv,b,rfl,h1⟩:=hf 5 (by omega) (fM 5 (by rw[Rc];simp))
    obtain⟨u,hu,rfl⟩:=hf 6 (by omega) (fM 6 (by rw[Rc];simp))
    obtain⟨o,ho,ag,hd,hg⟩:=aeJ;exact Zw ho ag hd hg hv hu (one (by omega) (à _ _) ⟨b,rfl,h1⟩)
   |8,_=>
    obtain⟨v,hv,b,rfl,h1⟩:=hf 4 (by omega) (fM 4 (by rw[Re];simp))
    obtain⟨u,hu,c,rfl,h2⟩:=hf 7 (by omega) (fM 7 (by rw[Re];simp))
    have hB:Γ W.heap.size W (W.alloc (Ξ #[ζ (φ ⟨b,0,ν⟩) 1 1,ξ κ 4,ξ κ 4,ζ (φ ⟨c,0,ν⟩) 1 1,ξ κ 2,ξ κ 2] 95)):=(à _ _).alloc (ϊ _) _;exact aqz hv hu (one (by omega) hB ⟨_,b,c,rfl,Bk.new _ _ _,h1.below hB h1.lt,h2.below hB h2.lt⟩)
   |9,_=>
    obtain⟨v,hv,rfl⟩:=hf 1 (by omega) (fM 1 (by rw[Rf];simp))
    obtain⟨u,hu,d,b,c,rfl,h0,h1,h2⟩:=hf 8 (by omega) (fM 8 (by rw[Rf];simp))
    obtain⟨n1,n2,n3⟩:=h.next hi;refine aqw hx iC hb hv hu h0 h1 h2 λv w' hM=>hK _ _ ⟨n1,n2,n3,QA h.sl hm (by omega) v,.inr (.inl ⟨M9 (by omega) _,?_,v,?_,hM⟩)⟩
    ·rw[Akz χ (by omega)]
     cases qm:l.getD 10 χ with
     |false=>rfl
     |true=>rw[h.cl 10 qm 9 (by rw[Gs];simp)] at h9;cases h9
    ·simp only[Ϧ]
     rw[Ö,if_pos rfl,if_pos (by omega)]
   |10,_=>rw[fM 9 (by rw[Gs];simp)] at h9;cases h9
   |11,_=>rw[h.cl 10 (fM 10 Kl) 9 (by rw[Gs];simp)] at h9;cases h9
  ·have c8:=h.cl 9 h9
   rw[Rf] at c8;have f8:=c8 8 (by simp)
   have f1:=c8 1 (by simp)
   have f6:=c8 6 (by simp)
   have c4:=h.cl 8 f8;rw[Re] at c4;have f4:=c4 4 (by simp)
   have f7:=c4 7 (by simp)
   have f0:=h.cl 1 f1 0 (by rw[ZH];simp)
   have f2:=h.cl 4 f4 2 (by rw[Km];simp)
   have f3:=h.cl 4 f4 3 (by rw[Km];simp)
   have f5:=h.cl 7 f7 5 (by rw[Rc];simp)
   match i,EI with
   |0,_=>rw[f0] at eU;cases eU
   |1,_=>rw[f1] at eU;cases eU
   |2,_=>rw[f2] at eU;cases eU
   |3,_=>rw[f3] at eU;cases eU
   |4,_=>rw[f4] at eU;cases eU
   |5,_=>rw[f5] at eU;cases eU
   |6,_=>rw[f6] at eU;cases eU
   |7,_=>rw[f7] at eU;cases eU
   |8,_=>rw[f8] at eU;cases eU
   |9,_=>rw[h9] at eU;cases eU
   |10,_=>
    obtain⟨n1,n2,n3⟩:=h.next hi;obtain⟨o,ho,ag,hd,hg⟩:=aeC;refine Zt ho ag hd hg e1 (hK _ _ ⟨n1,n2,n3,QA h.sl hm (by omega) _,.inr (.inr (.inl ⟨M9 (by omega) _,?_,v,?_,?_,hM⟩))⟩)
    ·rw[Akz χ (by omega)]
     cases xa:l.getD 11 χ with
     |false=>rfl
     |true=>rw[h.cl 11 xa 10 Kl] at qm;cases qm
    ·simp only[Ϧ]
     rw[Ö,if_neg (by omega)];exact hv
    ·simp only[Ϧ]
     rw[Ö,if_pos rfl,if_pos (by omega)]
   |11,_=>rw[fM 10 Kl] at qm;cases qm
  ·have c10:=h.cl 10 qm
   rw[Gs] at c10;have agz:i=11:=by
    apply Classical.byContradiction;intro aw;rcases Nat.lt_or_ge i 10 with h'|h'
    ·have:=c10 i (by simp;omega)
     rw[this] at eU;cases eU
    ·have:i=10:=by omega
     subst this;rw[qm] at eU;cases eU
   subst agz;obtain⟨n1,n2,n3⟩:=h.next hi;obtain⟨hE,A,k,c,rfl,hF⟩:=hM;have xe:Bk W gE 26 _:=hE;exact aqy hp hv (xe.cell 3) (xe.frozen 3) (hK _ _ ⟨n1,n2,n3,h.sl,.inr (.inr (.inr ⟨M9 (by omega) _,_,A,k,c,rfl,hF⟩))⟩)
  ·have Th:=h.cl 11 xa 10 Kl
   have c10:=h.cl 10 Th;rw[Gs] at c10;exfalso;rcases Nat.lt_or_ge i 10 with h'|h'
   ·have:=c10 i (by simp;omega)
    rw[this] at eU;cases eU
   ·have:i=10\/i=11:=by omega
    rcases this with rfl|rfl
    ·rw[Th] at eU;cases eU
    ·rw[xa] at eU;cases eU
def aoA(w:Ψ)(x:Nat->υ):fu prog [vV,vW,vX] (dK (FA w)) ⟨(lit x).toArray,[cQ]⟩ w:=by
 unfold lit;unfold fu fu fu fu;simp only[vV,vW,vX,iM,iL,iK,iS,Tryz.f21,bp,aS,À];go_wp2_with (first
  | (go_at_call 94;refine(afx _).mono ?_;rintro e w1 ⟨gp,gb,gk,gt,gl,rfl,hex,ai⟩
     have HX:=ψ (And.intro hex ai);clear hex ai)
  | (go_at_call 95;refine(ael _).mono ?_;rintro e w2 ⟨gc,rfl,zT,eu,an⟩
     have Sb:=ψ (And.intro zT (And.intro eu an));clear zT eu an))
 have EH:Bk (w2.alloc (Ξ #[ξ κ 1,ζ (φ ⟨gp,0,ν⟩) 3 3,ζ (φ ⟨gb,0,ν⟩) 2 2,ζ (φ ⟨gt,0,ν⟩) 1 1] 26)) gc 56 #[ξ κ 1,ξ κ 0,ξ κ 0,ξ κ 0,ξ κ 0,ξ κ 4]:=Sb.e.2.1.alloc _;have Nn:Bk (w2.alloc (Ξ #[ξ κ 1,ζ (φ ⟨gp,0,ν⟩) 3 3,ζ (φ ⟨gb,0,ν⟩) 2 2,ζ (φ ⟨gt,0,ν⟩) 1 1] 26)) w2.heap.size 26 #[ξ κ 1,ζ (φ ⟨gp,0,ν⟩) 3 3,ζ (φ ⟨gb,0,ν⟩) 2 2,ζ (φ ⟨gt,0,ν⟩) 1 1]:=Bk.new _ _ _;have rN:Γ w2.heap.size w2 (w2.alloc (Ξ #[ξ κ 1,ζ (φ ⟨gp,0,ν⟩) 3 3,ζ (φ ⟨gb,0,ν⟩) 2 2,ζ (φ ⟨gt,0,ν⟩) 1 1] 26)):=(à _ _).alloc (ϊ _) _;generalize (w2.alloc (Ξ #[ξ κ 1,ζ (φ ⟨gp,0,ν⟩) 3 3,ζ (φ ⟨gb,0,ν⟩) 2 2,ζ (φ ⟨gt,0,ν⟩) 1 1] 26))=V at EH Nn rN |-
 have c0: V.cell? ⟨gc,0,ν⟩=φ (ξ κ 1):=EH.cell 0;have c1: V.cell? ⟨gc,1,ν⟩=φ (ξ κ 0):=EH.cell 1;have c2: V.cell? ⟨gc,2,ν⟩=φ (ξ κ 0):=EH.cell 2;have c3: V.cell? ⟨gc,3,ν⟩=φ (ξ κ 0):=EH.cell 3;have lc:gc<V.heap.size:=EH.lt;have lc':gc<=V.heap.size:=by omega
 have HV:=ψ (And.intro EH (And.intro Nn rN));clear EH Nn rN;go_region_with (go_at_call 66;refine(dt _ _ _).mono ?_;rintro e w3 ⟨rfl,rfl⟩)
 all_goals
  show FA w _ _;refine⟨rfl,rfl,rfl,_,gp,gb,gk,gt,gl,gc,_,rfl,rfl,rfl,?_⟩
  have eL:=Sb.e.2.2;have aO:=HX.e.2.size;have aZ:=eL.size;have h0:yQ V w.heap.size gp gb gk gt gl:=⟨(HX.e.1.p.below eL HX.e.1.p.lt).below HV.e.2.2 (HX.e.1.p.below eL HX.e.1.p.lt).lt,(HX.e.1.b.below eL HX.e.1.b.lt).below HV.e.2.2 (HX.e.1.b.below eL HX.e.1.b.lt).lt,(HX.e.1.k.below eL HX.e.1.k.lt).below HV.e.2.2 (HX.e.1.k.below eL HX.e.1.k.lt).lt,(HX.e.1.t.below eL HX.e.1.t.lt).below HV.e.2.2 (HX.e.1.t.below eL HX.e.1.t.lt).lt,(HX.e.1.l.below eL HX.e.1.l.lt).below HV.e.2.2 (HX.e.1.l.below eL HX.e.1.l.lt).lt,HX.e.1.hp,HX.e.1.hb,HX.e.1.hk,HX.e.1.ht,HX.e.1.hl⟩;have dk:Γ w.heap.size w V:=(HX.e.2.trans (eL.mono aO)).trans (HV.e.2.2.mono (by omega))
  exact afB h0 HV.e.2.1 HV.e.1 dk (by omega)
def FD(w0:Ψ)(a:Act)(w:Ψ):Prop:=∃gE gp gb gk gt gl gc g3 dF n22 c22 cu n25 cw eG n28 eI jI n31 jN,
 Sl [(0,.bool χ),(1,π (φ ⟨gE,0,ν⟩)),(2,ζ (φ ⟨gc,0,ν⟩) 3 3),(3,ζ (φ ⟨g3,0,ν⟩) 3 3),(5,ξ κ 0),(7,ξ κ 0),(9,ξ κ 0),(11,ξ κ 0),(13,ξ κ 0),(15,ξ κ 0),(20,ξ κ 1),(21,ξ κ 0),(22,.slice dF n22 c22),(23,ζ ν 0 0),(24,ξ κ 8),(25,.slice cu n25 cw),(26,ξ κ 2),(27,.bool θ),(28,.slice eG n28 eI),(29,ξ κ 14),(30,.bool θ),(31,.slice jI n31 jN)] a/\
 j6 w0 w gE gp gb gk gt gl gc g3/\Row w w.heap.size 1 bI (.slice dF n22 c22) [1,1]/\Row w w.heap.size 2 Cut.R (.slice cu n25 cw) ea/\Row w w.heap.size 2 Cut.R (.slice eG n28 eI) ea/\Row w w.heap.size 1 bI (.slice jI n31 jN) [0,1]
def FE(a:Act)(w:Ψ):Prop:=∃cu n25 cw qO n35 jO,Sl [(5,ξ κ 0),(7,ξ κ 0),(9,ξ κ 0),(25,.slice cu n25 cw),(26,ξ κ 1),(35,.slice qO n35 jO)] a/\
 Row w w.heap.size 2 Cut.R (.slice cu n25 cw) nE/\Row w w.heap.size 1 bI (.slice qO n35 jO) [0,1,2]
def afa:BH BN=[0,1,2]:=by decide+kernel
def JR{sz:Nat}{R:α->List υ->Prop}{xs:List α}(h:Row w B sz R v xs):∃A n c,v=.slice A n c:=by
 obtain⟨A,c,e,_⟩:=h;exact⟨A,_,c,e⟩
def aoz(hm:gF w0)(hf:FD w0 a w):fu prog [yB,yC,yD,yE,tN,yF] (dK FE) a w:=by
 obtain⟨gE,gp,gb,gk,gt,gl,gc,g3,dF,n22,c22,cu,n25,cw,eG,n28,eI,jI,n31,jN,hs,hx,kZ,iC,nO,Ak⟩:=hf;refine jZ (aoa (W:=λw'=>Γ w.heap.size w w') hs hx.bE ?c19) ?_
 case c19=>
  refine(acn (ϊ _) (l8 hx.ex) D5).mono ?_
  rintro e w' ⟨rfl,hb⟩;exact⟨by rw[ae8],hb⟩
 rintro a w1 ⟨hs,hb⟩;replace hx:=hx.grown hb;replace kZ:=fP kZ hb;replace iC:=fP iC hb;replace nO:=fP nO hb;replace Ak:=fP Ak hb;clear hb;refine jZ (aob hs hx.lC kZ iC nO Ak) ?_
 rintro a w2 ⟨hs,hb⟩;replace hx:=hx.grown hb;clear hb kZ iC nO Ak;refine jZ (aoc (W:=λAp np cp Ab nb cb At nt ct w'=>aQ w' w'.heap.size (fH bg hJ) (.slice Ap np cp) (.slice Ab nb cb) (.slice At nt ct)/\Γ w2.heap.size w2 w') hs hx.bE ?c21) ?_
 case c21=>
  refine(aid (x:=hJ) (kv:=ζ ν 0 0) (ϊ _) (l8 hx.ex) (by show PT.size<=maxLen;decide) Row.nil zi ae6).mono ?_
  rintro e w' ⟨fE,gH,ez,rfl,ah,hb⟩;obtain⟨Ap,np,cp,rfl⟩:=JR ah.pieces;obtain⟨Ab,nb,cb,rfl⟩:=JR ah.aC;obtain⟨At,nt,ct,rfl⟩:=JR ah.aI;exact⟨Ap,np,cp,Ab,nb,cb,At,nt,ct,rfl,ah,hb⟩
 rintro a w3 ⟨Ap,np,cp,Ab,nb,cb,At,nt,ct,ss,⟨ah,hb⟩,hs,rfl⟩;have an:Γ w2.heap.size w2 (ss.alloc (Ξ #[ξ κ 1,.slice Ap np cp,.slice Ab nb cb,.slice At nt ct] 26)):=hb.alloc hb.size _;replace hx:=hx.grown an;have pG:Γ ss.heap.size ss (ss.alloc (Ξ #[ξ κ 1,.slice Ap np cp,.slice Ab nb cb,.slice At nt ct] 26)):=(à _ _).alloc (ϊ _) _;have ahf:=ah.still (Δ.aJ pG (ϊ _));have hn:Bk (ss.alloc (Ξ #[ξ κ 1,.slice Ap np cp,.slice Ab nb cb,.slice At nt ct] 26)) ss.heap.size 26 #[ξ κ 1,.slice Ap np cp,.slice Ab nb cb,.slice At nt ct]:=Bk.new _ _ _;have aN:ss.heap.size<=(ss.alloc (Ξ #[ξ κ 1,.slice Ap np cp,.slice Ab nb cb,.slice At nt ct] 26)).heap.size:=pG.size;generalize (ss.alloc (Ξ #[ξ κ 1,.slice Ap np cp,.slice Ab nb cb,.slice At nt ct] 26))=w3 at *;refine jZ (aod (W:=λA n c w'=>cV w' (λk=>k=gE\/k=gt) 2 Cut.R (.slice A n c) nE/\Γ w3.heap.size w3 w') hs hn ?c22) ?_
 case c22=>
  refine(Hq aN ahf (aal hm hx)).mono ?_
  rintro e w' ⟨cv,mv,fv,rfl,eW,gU⟩;rw[ae7] at eW;obtain⟨ho,rfl,rfl⟩:=eW;obtain⟨A,k,c,rfl⟩:=iI ho;have h0:bT (fH bg hJ) 0=0:=by decide+kernel
  exact⟨A,k,c,by rw[h0],cV.tt (xs:=nE) ho (λ_=>rfl) (λ_ _=>rfl) (λk hk=>by
   rcases hk with rfl|rfl
   ·exact hx.bE.lt
   ·exact hx.ex.t.lt),gU⟩
 rintro a w4 ⟨aax,al3,ac3,hs,iC,hb⟩;replace hx:=hx.grown hb;clear hb;refine jZ (aoe hs hx iC) ?_
 rintro a w5 ⟨At',nt',ct',hs,hbE,ahg,hr⟩;refine jZ (aof (W:=λA n c w'=>Row w' w'.heap.size 1 bI (.slice A n c) [0,1,2]/\Γ w5.heap.size w5 w') hs hbE ?c24) ?_
 case c24=>
  refine(ady (ϊ _) ahg afu).mono ?_
  rintro e w' ⟨v,rfl,dE,hb⟩;rw[afa] at dE;obtain⟨A,n,c,rfl⟩:=JR dE;exact⟨A,n,c,rfl,dE,hb⟩
 rintro a w6 ⟨qO,n35,jO,hs,IY,hb⟩;exact⟨_,_,_,qO,n35,jO,hs,fP hr hb,IY⟩
end
end Go.Jn
namespace Go.Jn
open Go Go.Proofs Go.Sim Go.Conc Go.Tw
def nZ:Array Oper:=opsOf Kb
def apJ:∃id,Kb=.region id nZ χ:=⟨_,rfl⟩
def n18:nZ.size=7:=by decide+kernel
def amt:∃o,nZ[0]?=φ o/\o.op=.load 26 (.tmp 1)/\o.dst=φ 197/\o.guard=ν/\k8 ϋ G0 o=θ:=by
 have h:k8 ϋ G0 (nZ[0]'(by rw[n18];omega))=θ:=by decide+kernel
 exact⟨_,rfl,rfl,rfl,rfl,h⟩
def XI:∃o,nZ[1]?=φ o/\o.op=.call {callee:=.value (.func 38),args:=#[.tmp 197],argTypes:=#[26]}/\o.dst=φ 198/\o.guard=ν:=⟨_,rfl,rfl,rfl,rfl⟩
def amu:∃o,nZ[2]?=φ o/\o.op=.move (.tmp 198)/\o.dst=φ 196/\o.guard=ν:=⟨_,rfl,rfl,rfl,rfl⟩
def amv:∃o,nZ[3]?=φ o/\o.op=.extract (.tmp 196) 0/\o.dst=φ 199/\o.guard=ν:=⟨_,rfl,rfl,rfl,rfl⟩
def amw:∃o,nZ[4]?=φ o/\o.op=.extract (.tmp 196) 1/\o.dst=φ 200/\o.guard=ν:=⟨_,rfl,rfl,rfl,rfl⟩
def amx:∃o,nZ[5]?=φ o/\o.op=.assign (.tmp 199)/\o.dst=φ 31/\o.guard=ν:=⟨_,rfl,rfl,rfl,rfl⟩
def amy:∃o,nZ[6]?=φ o/\o.op=.assign (.tmp 200)/\o.dst=φ 15/\o.guard=ν:=⟨_,rfl,rfl,rfl,rfl⟩
def apt{fn:FuncId}{k:List Item}{D:List Deferred}{cs:List Frame}{rest:List Nat}{f:FuncId}{args:Array υ}
 (ho:ops[i]?=φ o)(hg:ε o (yielded ops t)=θ)(hr:(execOp (aX t) o).runT P aa #[]=(.ok (.enter f args) aa,#[])):
 stepG P main (rg fn t (.inRegion ops (i::rest)::k) D .normal cs) aa=.go (aT (Frame.enter P f args .normal) (⟨fn,t,.inRegion ops (i::rest)::k,D,.run,.normal,ν⟩::cs)) aa #[]:=by
 have e1:Frame.eval ⟨fn,t,.inRegion ops (i::rest)::k,D,.run,.normal,ν⟩=aX t:=uU;simp only[stepG,stepG.exec,ho,î,hg,À,if_true,stepG.oper,Frame.oper?,stepG.apply,e1,hr];simp[vR,GStep.after]
def call38{t:Array υ}(ag:o.op=.call {callee:=.value (.func 38),args:=#[.tmp 197],argTypes:=#[26]})(hv:t.getD 197 ω=v)(aa:Ψ):
 (execOp (aX t) o).runT ϋ aa #[]=(.ok (.enter 38 #[v]) aa,#[]):=by
 have h:=DU (P:=ϋ) Tryz.func38 SL al7 #[v] aa;unfold execOp;rw[ag];have e:(aX t) (.tmp 197)=v:=hv;have e0:(aX t) (.func 38)=.func (.func 38) #[] #[]:=rfl;simp only[resolve,List.map_toArray,List.map_cons,List.map_nil,e,e0,Deferred.ofValue,Array.append_empty];exact h
section
variable [Go.Tw.aK]
open Go.RowKit in
def akt{tl:Array υ}(ag:o.op=.load 26 (.tmp 1))(ht:tl.getD 1 ω=π (φ ⟨gE,0,ν⟩)){A1 A2 A3:Option Addr}{n1 c1 n2 c2 n3 c3:Nat}{s:Int}
 (hb:Bk w gE 26 #[ξ κ s,.slice A1 n1 c1,.slice A2 n2 c2,.slice A3 n3 c3]):
 (execOp (aX tl) o).run Tw.prog w=.ok (.value (η #[ξ κ s,.slice A1 n1 c1,.slice A2 n2 c2,.slice A3 n3 c3])) w:=by
 have q0:=hb.cell 0;have q1:=hb.cell 1;have q2:=hb.cell 2;have q3:=hb.cell 3;have e:(aX tl) (.tmp 1)=π (φ ⟨gE,0,ν⟩):=ht;unfold execOp;rw[ag];simp only[e];go_simp
end
def om(w:Ψ):Ψ:={w with heap:=#[.cells #[.func (.func 234) #[] #[],.func (.func 236) #[] #[]] 146 (0,2)]}
def r0:Ren:=λa b=>a=0/\b=0
def Uu(ρ:Ren)(f:FuncId):aj ρ (.func (.func f) #[] #[]) (.func (.func f) #[] #[]):=.func (.func f) rfl (λi hi _=>absurd hi (by simp)) rfl (λi hi _=>absurd hi (by simp))
def aqO{C:bX}(h:sD w):cg C r0 (om w) w:=by
 obtain⟨fr,h⟩:=h;refine⟨?_,?_,?_,?_,?_⟩
 ·rintro a b ⟨rfl,rfl⟩;simp[om]
 ·rintro a b ⟨rfl,rfl⟩;exact(Ϝ.1 h).1
 ·rintro a b b' ⟨rfl,rfl⟩ ⟨_,rfl⟩;rfl
 ·rintro a a' b ⟨rfl,rfl⟩ ⟨rfl,_⟩;rfl
 ·rintro a b o ⟨rfl,rfl⟩ ho
  have e:o=.cells #[.func (.func 234) #[] #[],.func (.func 236) #[] #[]] 146 (0,2):=by simpa [om] using ho.symm
  subst e;refine⟨_,h,.cells 146 ⟨rfl,λi h1 h2=>?_⟩ (.inr ⟨rfl,ϊ _⟩)⟩
  match i,h1,h2 with
  |0,_,_=>exact Uu _ _
  |1,_,_=>exact Uu _ _
  |i+2,h1,_=>exact absurd h1 (by simp)
def aqP:bO (om w).heap:=by
 intro o ho hb;have e:o=.cells #[.func (.func 234) #[] #[],.func (.func 236) #[] #[]] 146 (0,2):=by simpa [om] using ho
 subst e;exact hb
def Ra(T:Tape):gF (bq (om w) T):=⟨(0,2),rfl⟩
def Q9(b:Nat):ot r0 (om w) b:=by
 rintro a ⟨rfl,_⟩;exact⟨_,rfl,rfl,ϊ _⟩
def ans{u t7:Array υ}(h:aV ρ u t)(hs:t7.size=t.size)(J:Nat->Bool)(hk:∀i,J i=χ->t7[i]?=t[i]?):∃u7:Array υ,aV ρ u7 t7/\∀i,J i=χ->u7[i]?=u[i]?:=by
 have hu:u.size=t7.size:=h.1.trans hs.symm;refine⟨Array.ofFn λi:Fin t7.size=>if J i then Classical.choose (sN ρ t7[i.1]) else u[i.1]'(by rw[hu];exact i.2),⟨by simp,λi h1 h2=>?_⟩,λi hi=>?_⟩
 ·rw[Array.getElem_ofFn]
  by_cases hj:J i=θ
  ·simp only[hj,if_true];exact Classical.choose_spec (sN ρ t7[i])
  ·have hj:J i=χ:=by simpa using hj
   simp only[hj,Bool.false_eq_true,if_false];have e:=hk i hj;have ht:i<t.size:=by rw[<-hs];exact h2
   rw[è h2,è ht] at e
   rw[Ϡ e];exact h.2 i _ ht
 ·by_cases ao:i<t7.size
  ·rw[Aj5,dif_pos ao,è (by rw[hu];exact ao)]
   simp only[hi,Bool.false_eq_true,if_false]
  ·rw[ý (by simpa using ao),ý (by rw[hu];omega)]
def aqN{Stop:Sim.ay->ϐ->Ψ->Prop}{M:Sim.ay}{cs:List Frame}(hs:t.size=349){k:List Item}
 (h:∀t7:Array υ,t7.size=349->t7[31]?=φ ov->t7[15]?=φ (ξ κ 0)->(∀i,i≠198->i≠196->i≠199->i≠200->i≠31->i≠15->t7[i]?=t[i]?)->Walk ϋ main Stop M (rg 21 t7 k [] .normal cs) w):
 Walk ϋ main Stop M (rg 21 (aA t (φ 198) (μ #[ov,ξ κ 0])) (.inRegion nZ [2,3,4,5,6]::k) [] .normal cs) w:=by
 have ef:(aA t (φ 198) (μ #[ov,ξ κ 0])).size=349:=by simp[aA,hs]
 have e0:(aA t (φ 198) (μ #[ov,ξ κ 0])).getD 198 ω=μ #[ov,ξ κ 0]:=iT (by omega)
 have k0:∀i,i≠198->(aA t (φ 198) (μ #[ov,ξ κ 0]))[i]?=t[i]?:=λi h=>bP (Ã h)
 revert ef e0 k0
 generalize aA t (φ 198) (μ #[ov,ξ κ 0])=t1;intro di e1 k1;obtain⟨o,ho,ag,hd,ig⟩:=amu;refine dJ (v:=μ #[ov,ξ κ 0]) ho (cx ig) rfl (λaa _=>⟨_,(run_move t1 aa ag).trans (by rw[show(aX t1) (.tmp 198)=_ from e1]),eE⟩) ?_
 rw[hd];have dN:(aA t1 (φ 196) (μ #[ov,ξ κ 0])).size=349:=by simp[aA,di]
 have e2:(aA t1 (φ 196) (μ #[ov,ξ κ 0])).getD 196 ω=μ #[ov,ξ κ 0]:=iT (by omega)
 have k2:∀i,i≠198->i≠196->(aA t1 (φ 196) (μ #[ov,ξ κ 0]))[i]?=t[i]?:=λi h h'=>(bP (Ã h')).trans (k1 i h)
 revert dN e2 k2
 generalize aA t1 (φ 196) (μ #[ov,ξ κ 0])=t2;intro dN e2 k2;obtain⟨o,ho,ag,hd,ig⟩:=amv;refine dJ (v:=ov) ho (cx ig) rfl (λaa _=>⟨_,F9 t2 aa ag e2 rfl,eE⟩) ?_
 rw[hd];have iE:(aA t2 (φ 199) ov).size=349:=by simp[aA,dN]
 have e3:(aA t2 (φ 199) ov).getD 199 ω=ov:=iT (by omega)
 have f3:(aA t2 (φ 199) ov).getD 196 ω=μ #[ov,ξ κ 0]:=by
  rw[Õ,show(aA t2 (φ 199) ov)[196]?=t2[196]? from bP (by omega),<- Õ];exact e2
 have k3:∀i,i≠198->i≠196->i≠199->(aA t2 (φ 199) ov)[i]?=t[i]?:=λi h h' ed=>(bP (Ã ed)).trans (k2 i h h')
 revert iE e3 f3 k3
 generalize aA t2 (φ 199) ov=t3;intro iE e3 f3 k3;obtain⟨o,ho,ag,hd,ig⟩:=amw;refine dJ (v:=ξ κ 0) ho (cx ig) rfl (λaa _=>⟨_,F9 t3 aa ag f3 rfl,eE⟩) ?_
 rw[hd];have vz:(aA t3 (φ 200) (ξ κ 0)).size=349:=by simp[aA,iE]
 have e4:(aA t3 (φ 200) (ξ κ 0)).getD 200 ω=ξ κ 0:=iT (by omega)
 have f4:(aA t3 (φ 200) (ξ κ 0)).getD 199 ω=ov:=by
  rw[Õ,show(aA t3 (φ 200) (ξ κ 0))[199]?=t3[199]? from bP (by omega),<- Õ];exact e3
 have k4:∀i,i≠198->i≠196->i≠199->i≠200->(aA t3 (φ 200) (ξ κ 0))[i]?=t[i]?:=λi h h' ed h3=>(bP (Ã h3)).trans (k3 i h h' ed)
 revert vz e4 f4 k4
 generalize aA t3 (φ 200) (ξ κ 0)=t4;intro vz e4 f4 k4;obtain⟨o,ho,ag,hd,ig⟩:=amx;refine dJ (v:=ov) ho (cx ig) rfl (λaa _=>⟨_,(run_assign t4 aa ag).trans (by rw[show(aX t4) (.tmp 199)=_ from f4]),eE⟩) ?_
 rw[hd];have Cr:(aA t4 (φ 31) ov).size=349:=by simp[aA,vz]
 have e5:(aA t4 (φ 31) ov)[31]?=φ ov:=eX (by omega)
 have f5:(aA t4 (φ 31) ov).getD 200 ω=ξ κ 0:=by
  rw[Õ,show(aA t4 (φ 31) ov)[200]?=t4[200]? from bP (by omega),<- Õ];exact e4
 have k5:∀i,i≠198->i≠196->i≠199->i≠200->i≠31->(aA t4 (φ 31) ov)[i]?=t[i]?:=λi h h' ed h3 h4=>(bP (Ã h4)).trans (k4 i h h' ed h3)
 revert Cr e5 f5 k5
 generalize aA t4 (φ 31) ov=t5;intro Cr e5 f5 k5;obtain⟨o,ho,ag,hd,ig⟩:=amy;refine dJ (v:=ξ κ 0) ho (cx ig) rfl (λaa _=>⟨_,(run_assign t5 aa ag).trans (by rw[show(aX t5) (.tmp 200)=_ from f5]),eE⟩) ?_
 rw[hd];refine jl (h _ (by simp[aA,Cr]) ((bP (by omega)).trans e5) (eX (by omega)) λi a1 a2 a3 a4 a5 a6=>(bP (Ã a6)).trans (k5 i a1 a2 a3 a4 a5))
def afw{S:Nat->Prop}{base:Nat}(h:yQ W base gp gb gk gt gl):GF S W W.heap.size bg (ζ (φ ⟨gp,0,ν⟩) 3 3) (ζ (φ ⟨gb,0,ν⟩) 2 2) (ζ (φ ⟨gt,0,ν⟩) 1 1):=by
 letI:=jC
 have sv:∀(g n c:Nat),n≠0->Sv S (ζ (φ ⟨g,0,ν⟩) n c):=λg n c hn A n' c' e h0=>by
  injection e with _ e2 _;omega
 refine⟨(l8 h).pieces,?_,?_,sv _ _ _ (by omega),sv _ _ _ (by omega),sv _ _ _ (by omega)⟩
 ·have:=za (xs:=BM gk) (sz:=3) (f:=fc) (R:=λp cs=>cs=fc p) h.b (by show 2<=1000;decide) (λ_=>rfl) (λ_ _=>rfl) rfl
  refine tD (ps:=BM gk) this (λp hm cs hc=>?_)
  subst hc;simp only[BM,ϥ,Λ,or_false] at hm;rcases hm with rfl|rfl
  ·refine⟨⟨_,rfl,(by show uS.name.size<=maxLen;decide),Mm [⟨3,3⟩] (by decide) h.k rfl⟩,λu hu=>?_⟩
   simp only[fc,ϥ,Λ,or_false] at hu;rcases hu with rfl|rfl|rfl
   ·intro A n c e;cases e
   ·intro A n c e;cases e
   ·exact sv _ _ _ (by omega)
  ·refine⟨⟨_,rfl,by decide,Row.nil⟩,λu hu=>?_⟩
   simp only[fc,ϥ,Λ,or_false] at hu;rcases hu with rfl|rfl|rfl<;>(intro A n c e;cases e)
 ·have:=za (xs:=[((⟨[0,2],⟨7,7⟩⟩:Tw.Tape),Value.slice (φ ⟨gl,0,ν⟩) 2 2)]) (sz:=3) (f:=cE) (R:=λp cs=>cs=cE p) h.t (by show 1<=1000;decide) (λ_=>rfl) (λ_ _=>rfl) rfl
  refine tD this (λp hm cs hc=>?_)
  subst hc;simp only[ϥ,Λ,or_false] at hm;subst hm;refine⟨⟨_,rfl,sJ [0,2] (by decide) h.l rfl⟩,λu hu=>?_⟩
  simp only[cE,ϥ,Λ,or_false] at hu;rcases hu with rfl|rfl|rfl
  ·exact sv _ _ _ (by omega)
  ·intro A n c e;cases e
  ·intro A n c e;cases e
def agl(h:ρ 0 0):∀g,G0 g=θ->ρ g g:=λg hg=>by
 have:g=0:=by simpa [G0] using hg
 subst this;exact h
abbrev Ri:ϕ:=chain [yB,yC,yD,yE,tN,yF] yJ
abbrev MU(gp gb gt:Nat):υ:=η #[ξ κ 1,ζ (φ ⟨gp,0,ν⟩) 3 3,ζ (φ ⟨gb,0,ν⟩) 2 2,ζ (φ ⟨gt,0,ν⟩) 1 1]
def StN(w0:Ψ)(cs:List Frame)(_:Sim.ay)(g:ϐ)(w:Ψ):Prop:=
 ∃(t:Array υ) (arg:υ) (a:Act) (wl:Ψ) (ρ:Ren) (T:Tape),∃gE gp gb gk gt gl gc g3 dF n22 c22 cu n25 cw eG n28 eI,
  g=aT (Frame.enter ϋ 38 #[arg] .normal) (⟨21,t,.inRegion nZ [1,2,3,4,5,6]:: [.code Ri],[],.run,.normal,ν⟩::cs)/\t.size=349/\
  Sl [(0,.bool χ),(1,π (φ ⟨gE,0,ν⟩)),(2,ζ (φ ⟨gc,0,ν⟩) 3 3),(3,ζ (φ ⟨g3,0,ν⟩) 3 3),(5,ξ κ 0),(7,ξ κ 0),(9,ξ κ 0),(11,ξ κ 0),(13,ξ κ 0),(20,ξ κ 1),(21,ξ κ 0),(22,.slice dF n22 c22),(23,ζ ν 0 0),(24,ξ κ 8),(25,.slice cu n25 cw),(26,ξ κ 2),(27,.bool θ),(28,.slice eG n28 eI),(29,ξ κ 14),(30,.bool θ)] a/\
  j6 (bq (om w0) T) wl gE gp gb gk gt gl gc g3/\Row wl wl.heap.size 1 bI (.slice dF n22 c22) [1,1]/\Row wl wl.heap.size 2 Cut.R (.slice cu n25 cw) ea/\Row wl wl.heap.size 2 Cut.R (.slice eG n28 eI) ea/\
  (∃t0,aV ρ a.tmps t0/\∀i,i≠197->t[i]?=t0[i]?)/\aj ρ (MU gp gb gt) arg/\cg C0 ρ wl w/\ρ 0 0/\bO wl.heap/\(∀b,b<w0.heap.size->ot ρ wl b)/\∀b,b<w0.heap.size->w.heap[b]?=w0.heap[b]?
def aoL(hM:sD w){x:Array υ}(hx:x.size<=1)(cs:List Frame):Walk ϋ θ (StN w cs) (allM w) (aT (Frame.enter ϋ 21 x .normal) cs) w:=by
 letI:=jC
 rw[BL Tryz.func21 acs x .normal];have hs:(x++Θ (Tryz.f21.ntmps - x.size) ω).size=349:=by
  rw[Array.size_append,Array.size_replicate,show Tryz.f21.ntmps=349 from rfl];omega
 generalize (x++Θ (Tryz.f21.ntmps - x.size) ω)=t' at hs |-
 obtain⟨u,hu⟩:=MV r0 t';obtain⟨y,rfl,_⟩:=Xj u (hu.1.trans hs);have hW:cg C0 r0 (om w) w:=aqO hM;refine pieces (S:=⟨.seq Kb Ri,[],[],cs,.normal⟩) (cs:=[vV,vW,vX,tO,tP,tQ,tR,tS,tT,tU,tF,tG,tH,tI,tJ,tK,tL,tM]) adB (a:=⟨(lit y).toArray,[cQ]⟩) rfl rfl
  (QL:=λe bJ aa=>e=.normal/\∃T,FC (bq (om w) T) bJ aa) (λe a w h=>.inl h.1) (λT=>?_) hW ⟨rfl,rfl⟩ (Bu hW) (λb hb=>ly.1 hb) aqP hu ?_
 ·exact Gq (ju:=[]) (Q:=λe bJ aa=>e=.normal/\∃T,FC (bq (om w) T) bJ aa) (λa w hf=>⟨rfl,T,hf⟩) _ (aov (Ra T) (aoA _ y))
 ·rintro e bJ aa b6 aM fq aF D' ⟨rfl,T,hF⟩ cr NY hf iU hg hn ht hD
  refine⟨λ_=>?_,λh=>by cases h⟩
  obtain⟨gE,gp,gb,gk,gt,gl,gc,g3,dF,n22,c22,cu,n25,cw,eG,n28,eI,xR,hex,kZ,iC,nO⟩:=hF;have hd:=xR.1;rw[hd] at hD;have hD:=zh hD;subst hD;have eK:fq.size=349:=ht.1.symm.trans xR.2.1;obtain⟨id,e18⟩:=apJ;refine fZ ?_
  rw[e18];refine iu ?_
  rw[n18];obtain⟨o,ho,ag,ahz,ig,jy⟩:=amt;have h1:bJ.tmps.getD 1 ω=π (φ ⟨gE,0,ν⟩):=cT (xR.2.2 (1,_) (by simp))
  refine ZB Hp (rest:=[1,2,3,4,5,6]) ho (cx ig) rfl jy ht NY (agl hg) hf iU (QL:=λv au=>v=MU gp gb gt/\∃T,au=bq aa T) (λT=>⟨_,_,(by rw[QU];exact akt ag h1 (w:=bq aa T) hex.bE),rfl,T,rfl⟩) ?_
  rintro v v' att bM ry eF ⟨rfl,T2,rfl⟩ hv ahp th oJ aia;rw[ahz];obtain⟨o1,IQ,aio,ar5,ahO⟩:=XI;have IC:(aA fq (φ 197) v').getD 197 ω=v':=iT (by omega)
  refine lL rfl (λll=>apt IQ (cx ahO) (call38 aio IC ll)) (.stop λll hk=>?_)
  refine⟨aA fq (φ 197) v',v',bJ,bq aa T2,bM,T2,gE,gp,gb,gk,gt,gl,gc,g3,dF,n22,c22,cu,n25,cw,eG,n28,eI,rfl,by simp[aA,eK],xR,?_,kZ,iC,nO,⟨fq,ht.mono th.le,λi hi=>bP (Ã hi)⟩,hv,ahp.keep oJ hk,th.le _ _ hg,hn,λb hb=>?_,λb hb=>?_⟩
  ·exact⟨⟨hex.ex.p,hex.ex.b,hex.ex.k,hex.ex.t,hex.ex.l,hex.ex.hp,hex.ex.hb,hex.ex.hk,hex.ex.ht,hex.ex.hl⟩,hex.bE,hex.bc,hex.b3,⟨hex.below.os,rfl,hex.below.output,hex.below.size,hex.below.block⟩,hex.lE⟩
  ·exact Ea th (Ϟ hb cr.gO) (Ea cr hb (Q9 b))
  ·have m1:b6.has b:=ay.vb cr.R cr.O (ly.2 hb)
   exact((hk.kept b (ay.vb th.R th.O m1)).trans (th.jd b m1 (Ea cr hb (Q9 b)))).trans (cr.jd b (ly.2 hb) (Q9 b))
def adC:∀c∈ [yB,yC,yD,yE,tN,yF],C0.clean c:=by
 have h: [yB,yC,yD,yE,tN,yF].all (cC ϋ G0)=θ:=by decide+kernel
 intro c hc;exact ħ.1 h c hc
def adD:C0.clean yJ:=by
 have h:cC ϋ G0 yJ=θ:=by decide+kernel
 exact h
def anE:Tryz.f21.results=#[.tmp 0]:=rfl
def afl:KU bg=[0,1]:=by decide+kernel
def afP(t:Array υ)(v:υ)(k:List Item):Frame.finish ⟨21,t,.inRegion nZ [1,2,3,4,5,6]::k,[],.run,.normal,ν⟩ v=⟨21,aA t (φ 198) v,.inRegion nZ [2,3,4,5,6]::k,[],.run,.normal,ν⟩:=by
 obtain⟨o,ho,_,hd,_⟩:=XI;simp[Frame.finish,ho,hd,aA]
def akg(hW:cg C0 σ wl w)(hr:∀a q,σ a q->q<NR)(hn:bO wl.heap)(ho:w.ownsRow NR 3 1 ov n (zs.map (ϛ .i64))):
 ∃(bQ:Ren) (gQ:Ψ) (ol:υ),cg C0 bQ gQ w/\σ.le bQ/\(∀a p,bQ a p->σ a p\/(wl.heap.size<=a/\NR<=p))/\aj bQ ol ov/\gQ.ownsRow wl.heap.size 3 1 ol n (zs.map (ϛ .i64))/\Γ wl.heap.size wl gQ/\bO gQ.heap:=by
 rcases ho.2 with⟨rfl,h0⟩ | ⟨g,cap,cur,rfl,vd,hg,ey,oI,fh,tj⟩
 ·exact⟨σ,wl,ζ ν 0 0,hW,σ.le_refl,λa p h=>.inl h,.sliceNone 0 0,⟨ho.1,.inl ⟨rfl,h0⟩⟩,à _ _,hn⟩
 ·obtain⟨u,hu,Fh⟩:=Qh (ext σ wl.heap.size g) cur n zs tj
  have ia:=wS (o:=.cells u 3) hW hg (λa ha=>by have:=hr a g ha;omega) (.cells 3 hu (.inl rfl))
  refine⟨_,_,ζ (φ ⟨wl.heap.size,0,ν⟩) n cap,ia,zk _ _ _,?_,.slice _ _ ⟨.inr ⟨rfl,rfl⟩,rfl,rfl⟩,⟨ho.1,.inr ⟨_,cap,u,rfl,ϊ _,kQ,ey,oI,hu.1.trans fh,Fh⟩⟩,
   (à _ _).alloc (ϊ _) _,bO.push hn (o:=.cells u 3) (λh=>h)⟩
  rintro a p (ha| ⟨rfl,rfl⟩)
  ·exact .inl ha
  ·exact .inr ⟨ϊ _,vd⟩
def afA(h:j6 w0 w gE gp gb gk gt gl gc g3)(T:Tape):j6 (bq w0 T) (bq w T) gE gp gb gk gt gl gc g3:=
 ⟨⟨h.ex.p,h.ex.b,h.ex.k,h.ex.t,h.ex.l,h.ex.hp,h.ex.hb,h.ex.hk,h.ex.ht,h.ex.hl⟩,h.bE,h.bc,h.b3,⟨h.below.os,rfl,h.below.output,h.below.size,h.below.block⟩,h.lE⟩
def afK(h:FD w0 a w)(T:Tape):FD (bq w0 T) a (bq w T):=by
 obtain⟨gE,gp,gb,gk,gt,gl,gc,g3,dF,n22,c22,cu,n25,cw,eG,n28,eI,jI,n31,jN,hs,hx,h1,h2,h3,h4⟩:=h;exact⟨gE,gp,gb,gk,gt,gl,gc,g3,dF,n22,c22,cu,n25,cw,eG,n28,eI,jI,n31,jN,hs,afA hx T,h1,h2,h3,h4⟩
def aoM{cs:List Frame}{T:Tape}(eK:t.size=349)
 (hs:Sl [(0,.bool χ),(1,π (φ ⟨gE,0,ν⟩)),(2,ζ (φ ⟨gc,0,ν⟩) 3 3),(3,ζ (φ ⟨g3,0,ν⟩) 3 3),(5,.int .i64 0),(7,.int .i64 0),(9,.int .i64 0),(11,.int .i64 0),(13,.int .i64 0),(20,.int .i64 1),(21,.int .i64 0),(22,.slice dF n22 c22),(23,ζ ν 0 0),(24,.int .i64 8),(25,.slice cu n25 cw),(26,.int .i64 2),(27,.bool θ),(28,.slice eG n28 eI),(29,.int .i64 14),(30,.bool θ)] a)
 (hx:j6 (bq (om w0) T) wl gE gp gb gk gt gl gc g3)(kZ:Row wl wl.heap.size 1 bI (.slice dF n22 c22) [1,1])(iC:Row wl wl.heap.size 2 Cut.R (.slice cu n25 cw) ea)(nO:Row wl wl.heap.size 2 Cut.R (.slice eG n28 eI) ea)
 (xS:aV ρ a.tmps t0)(B5:∀i,i≠197->t[i]?=t0[i]?)(hW:cg C0 ρ wl w2)(hg:ρ 0 0)(hn:bO wl.heap)(mP:∀b,b<w0.heap.size->ot ρ wl b)(IZ:∀a q,ρ a q->q<NR)(Ej:w0.heap.size<=NR)(hN2:NR<=w2.heap.size)
 (aH:w2.ownsRow NR 3 1 ov 2 (([0,1]:List Int).map (ϛ .i64))):
 Walk ϋ θ (λ_ g w=>g=aT (fr.finish (.bool θ)) cs/\∀b,b<w0.heap.size->w.heap[b]?=w2.heap[b]?) (allM w2) (rg 21 (aA t (φ 198) (μ #[ov,.int .i64 0])) (.inRegion nZ [2,3,4,5,6]:: [.code Ri]) [] .normal (fr::cs)) w2:=by
 letI:=jC
 refine aqN eK λt7 OT e31 e15 hk=>?_
 obtain⟨bQ,gQ,ol,ia,hle,hinv,hv,gv,rO,OC⟩:=akg hW IZ hn aH;obtain⟨jI,n31,jN,rfl⟩:=iI gv;have qI:t0.size=349:=xS.1.symm.trans hs.2.1;obtain⟨u7,Wt,hku⟩:=ans (xS.mono hle) (OT.trans qI.symm) (λi=> [197,198,196,199,200,31,15].contains i) (λi hi=>by
  have hi:¬i∈ [197,198,196,199,200,31,15]:=by simpa using hi
  simp only[ϥ,Λ,or_false,not_or] at hi;obtain⟨a1,a2,a3,a4,a5,a6,a7⟩:=hi;exact(hk i a2 a3 a4 a5 a6 a7).trans (B5 i a1))
 have I3:=F6 (F6 Wt hv e31) (.int .i64 0) e15;have OX:((u7.setIfInBounds 31 (.slice jI n31 jN)).setIfInBounds 15 (.int .i64 0)).size=349:=I3.1.trans OT;have asK:u7.size=349:=Wt.1.trans OT;have Az:((u7.setIfInBounds 31 (.slice jI n31 jN)).setIfInBounds 15 (.int .i64 0))[31]?=φ (.slice jI n31 jN):=(bP (by omega)).trans (eX (by omega))
 have Pl:((u7.setIfInBounds 31 (.slice jI n31 jN)).setIfInBounds 15 (.int .i64 0))[15]?=φ (.int .i64 0):=eX (by rw[ć];omega)
 have kk:∀i,[197,198,196,199,200,31,15].contains i=χ->((u7.setIfInBounds 31 (.slice jI n31 jN)).setIfInBounds 15 (.int .i64 0))[i]?=a.tmps[i]?:=λi hi=>by
  have hj:¬i∈ [197,198,196,199,200,31,15]:=by simpa using hi
  simp only[ϥ,Λ,or_false,not_or] at hj;exact((bP (Ã hj.2.2.2.2.2.2)).trans (bP (Ã hj.2.2.2.2.2.1))).trans (hku i hi)
 revert I3 OX Az Pl kk
 generalize ((u7.setIfInBounds 31 (.slice jI n31 jN)).setIfInBounds 15 (.int .i64 0))=u8;intro I3 OX Az Pl kk;have hFD:FD (bq (om w0) T) ⟨u8,[cQ]⟩ gQ:=by
  refine⟨gE,gp,gb,gk,gt,gl,gc,g3,dF,n22,c22,cu,n25,cw,eG,n28,eI,jI,n31,jN,⟨rfl,OX,λp hp=>?_⟩,hx.grown rO,fP kZ rO,fP iC rO,fP nO rO,CF (l:=[0,1]) gv⟩
  have old:∀(i:Nat) (v:υ),[197,198,196,199,200,31,15].contains i=χ->a.tmps[i]?=φ v->u8[i]?=φ v:=λi v hc h=>(kk i hc).trans h
  simp only[ϥ,Λ,or_false] at hp;rcases hp with rfl|rfl|rfl|rfl|rfl|rfl|rfl|rfl|rfl|rfl|rfl|rfl|rfl|rfl|rfl|rfl|rfl|rfl|rfl|rfl|rfl|rfl
  all_goals first
   |exact Az
   |exact Pl
   |exact old _ _ rfl (hs.2.2 (_,_) (by simp))
 have Vb:∀b,b<w0.heap.size->ot bQ gQ b:=λb hb c hc=>by
  rcases hinv c b hc with h| ⟨_,h⟩
  ·obtain⟨o,h1,h2⟩:=mP b hb c h
   exact⟨o,(rO.block c (Ϝ.1 h1).1).trans h1,h2⟩
  ·omega
 refine pieces (S:=⟨yJ,[],[],fr::cs,.normal⟩) (cs:=[yB,yC,yD,yE,tN,yF]) adC (a:=⟨u8,[cQ]⟩) rfl rfl
  (QL:=λe bJ aa=>e=.normal/\FE bJ aa) (λe a w h=>.inl h.1) (λT'=>?_) ia (hle _ _ hg) (Bu ia) (λb hb=>ly.1 hb) OC I3 ?_
 ·exact Gq (ju:=[]) (Q:=λe bJ aa=>e=.normal/\FE bJ aa) (λa w hf=>⟨rfl,hf⟩) _ (aoz (w0:=bq (om w0) T') (Ra T') (afK hFD T'))
 ·rintro e bJ aa b6 aM fq aF D' ⟨rfl,aax,al3,ac3,qO,n35,jO,xR,aiw,aiy⟩ cr NY hf iU fD qF Aq hD
  refine⟨λ_=>?_,λh=>by cases h⟩
  have hd:=xR.1;rw[hd] at hD;have hD:=zh hD;subst hD;refine piece (S:=⟨.skip,[],[],fr::cs,.normal⟩) (c:=yJ) adD (a:=bJ) rfl hd (QL:=λe a _=>e=.ret/\a.defers=[cQ]/\a.tmps[0]?=φ (.bool θ)) (λT'=>?_) NY fD hf iU qF Aq ?_
  ·exact Code.wp_mono (λe a w h=>⟨.inr h.1,h.1,h.2.1,h.2.2.2.1⟩) (aog xR (w:=bq aa T') aiw aiy)
  ·rintro e arj ll ry Dj Ki atu ⟨rfl,gh,h0⟩ th ar4 zS VM xx iW ht3
   refine⟨λh=>(by cases h),λ_ tW D' hD=>?_⟩
   rw[gh] at hD;have hD:=zh hD;subst hD;obtain⟨v',Fi,xU⟩:=JO ht3 h0;cases xU;have e0:Ki.getD 0 ω=.bool θ:=cT Fi;refine lL rfl (λRg=>?_) (.stop λRg hk=>⟨rfl,λb hb=>?_⟩)
   ·have e:unwind ϋ θ ⟨21,Ki,tW,[],.returning,.normal,ν⟩ (fr::cs) ν Rg=.go (aT (fr.finish (.bool θ)) cs) Rg #[]:=by
     unfold unwind;simp only[Tryz.func21,results1 anE,vR,GStep.after,doReturn,e0];rfl
    exact e
   ·have an:b<w2.heap.size:=by omega
    have m1:b6.has b:=ay.vb cr.R cr.O (ly.2 an);have m2:ry.has b:=ay.vb th.R th.O m1;have f1:=Ea cr an (Vb b hb);exact((hk.kept b m2).trans (th.jd b m1 f1)).trans (cr.jd b (ly.2 an) (Vb b hb))
def apj{base:Nat}(hm:gF wl)(hx:yQ wl base gp gb gk gt gl)(ha:aj ρ (MU gp gb gt) arg)(hW:cg C0 ρ wl w)(hg:ρ 0 0):
 KI bg (yl ρ (gY ρ wl w)) (rG ρ wl w) (ζ (φ ⟨gp,0,ν⟩) 3 3) (ζ (φ ⟨gb,0,ν⟩) 2 2) (ζ (φ ⟨gt,0,ν⟩) 1 1) wl.heap.size arg w:=by
 letI:=jC
 obtain⟨a',b',c',d',rfl,r1,r2,r3,r4⟩:=X6 ha;obtain⟨ah,p1,p2,p3⟩:=agd hW (afw (S:=gY ρ wl w) hx) ⟨_,r2⟩ ⟨_,r3⟩ ⟨_,r4⟩;have Ii:gY ρ wl w 0:=Yb hW (p:=⟨0,0,ν⟩) (hm.cell 0) hg;refine⟨agf hW,⟨hg,Ii⟩,agh,λa q h=>?_,Nat.le_of_eq Us.symm,ah,?_⟩
 ·obtain⟨o1,k1,b1,c,c',e,fr,ba,u,h1,h2,h3,h4,h5,h6,rfl⟩:=M7 h.2
  exact⟨_,k1,rfl,ϊ _⟩
 ·refine .agg rfl λi h1 h2=>?_
  match i,h1,h2 with
  |0,_,_=>exact Pv.rel r1 trivial
  |1,_,_=>exact Pv.rel r2 p1
  |2,_,_=>exact Pv.rel r3 p2
  |3,_,_=>exact Pv.rel r4 p3
  |i+4,h1,_=>exact absurd h1 (by simp)
def aoC:DC:=by
 letI:=jC
 intro gs w t q x fr cs sl hx hM hF;obtain⟨N1,UE,M1,g1,w1,Qx,t1,q1,r1,z1,⟨⟨tm,arg,a,wl,ρ,T,gE,gp,gb,gk,gt,gl,gc,g3,dF,n22,c22,cu,n25,cw,eG,n28,eI,rfl,eK,hs,hex,kZ,iC,nO,⟨t0,xS,B5⟩,hv,hW,hg,hn,mP,ahX⟩,pB⟩,mL⟩:=
  DK (Gp (aoL hM hx (fr::cs)) (G7 w)) gs sl t q hF (λb hb=>ly.1 hb)
 have hm:gF wl:=(Ra (w:=w) T).below hex.below (by simp[om,bq])
 obtain⟨N2,Hz,w2,Qy,t2,q2,g2,aD,M2,r2,Ic,⟨ov,rfl,aH,Vt,aN⟩,oN,ma,Nj⟩:=ame (apj hm hex.ex hv hW hg) D5 mL Qx;have cG:fQ (ints aD)=[0,1]:=by rw[ao7 oN ma,afl];rfl
 rw[cG] at aH;rw[afP] at Ic;have ia:=uQ hW aN λa b hab=>Vt b (hW.dq a b hab)
 obtain⟨N3,Nc,M3,g3',w3,Qz,t3,q3,r3,z3,⟨⟨rfl,ahY⟩,hB3⟩,Np⟩:=
  DK (Gp (aoM (w0:=w) (fr:=fr) (cs:=cs) eK hs hex kZ iC nO xS B5 ia hg hn mP hW.dq pB.size aN aH) Nj) Hz Qy t2 q2 Ic (λb hb=>ly.1 hb)
 exact⟨N1+(N2+N3),Nc,w3,Qz,t3,q3,vO _ _ _ r1 (vO _ _ _ r2 r3),Np,sG pB hB3,λb hb=>(ahY b hb).trans ((Vt b (Ϟ hb pB.size)).trans (ahX b hb))⟩
end Go.Jn
namespace Go.Jn
open Go Go.Proofs Go.Conc
open YtfifdjajcogccaaGreatDoor
def arx:joinedFacts ϋ 9 Tryz.f9 Rows.mouldEasierSpec Rows.mouldEasierRow=θ:=by
 unfold joinedFacts;exact fA (fA (fA (fA (fA (fA (fA (fA (fA (fA (fA (fA (fA (fA (fA (fA (fA (fA (fA (fA (fA (fA (fA (fA (fA (fA (fA (fA (fA (fA (fA arF alW) alX) asb) asl) asn) al0) aso) al1) asp) arG) arH) arI) arN) arO) arP) arQ) arR) arS) arT) arU) arV) arX) ar0) alY) alZ) ar1) ar6) (by kernel_rfl)) ar9) asd) asf
def aka(An:DC):Rows.MouldEasierSaid:=
 OpenClaim.holds_of_wide_leaving 9 Tryz.f9 rfl rfl rfl rfl rfl rfl rfl ⟨rfl,rfl,rfl,rfl,rfl⟩ rfl rfl rfl rfl rfl (by kernel_rfl) Tryz.func9 arx
  (of_decide_eq_true (by kernel_rfl)) (by unfold Func.isWrapper;first| (rw[if_pos (by decide+kernel)];kernel_rfl) | (rw[if_neg (by decide+kernel)];exact⟨rfl,rfl⟩))
  (λos started H enc _=>aj8 An os started H enc)
def arE:Rows.mouldEasierRow.wfByText (OpenSpec.ofChange Rows.mouldEasierSpec)=θ:=by kernel_rfl
def arB:θ=Rows.mouldEasierRow.goesBy Tryz.pinned.checked.prog:=by kernel_rfl
def arC:ϋ.funcNamed Rows.mouldEasierRow.func=φ 9:=by kernel_rfl
def arD:Tryz.f9.params=#[26,50,5,5,59]:=by kernel_rfl
def asH:([26,50,5,5,59].all λu=> !ϋ.wantsStandIn u)=θ:=by kernel_rfl
def atb:ϋ.laidByTextLater Rows.mouldEasierRow.laid [.funcs] θ:=aoH
def ajN(h:Rows.MouldEasierSaid):Rows.MouldEasierCardSaid:=
 apU .later [.funcs] θ (θ,"8b4c60804a89a2dc1775d2d899c432f4b3d9a7cd22d2b16114beb87ecc832d7f") χ h arE (OpenClaim.laidByTextAt_later rfl rfl atb amY) rfl ⟨rfl,rfl⟩ ak8 rfl
  (λf fn hf ED=>by
    obtain rfl:f=9:=(Ϡ (arC.symm.trans hf)).symm;obtain rfl:fn=Tryz.f9:=(Ϡ (Tryz.func9.symm.trans ED)).symm;refine⟨amq,λj t ht=>?_⟩
    rw[arD] at ht;have hm:t∈ [26,50,5,5,59]:=by
     have:= Array.mem_of_getElem? ht;simp at this;simp[this]
    have:=ħ.1 asH t hm;exact(show ϋ.wantsStandIn t=χ by simpa using this)) arB
end Go.Jn
namespace Go.Proofs.YtfifdjajcogccaaGreatDoor
theorem mouldEasier_holds:Rows.MouldEasierCardSaid:=Go.Jn.ajN (Go.Jn.aka Go.Jn.aoC)
end Go.Proofs.YtfifdjajcogccaaGreatDoor
end
