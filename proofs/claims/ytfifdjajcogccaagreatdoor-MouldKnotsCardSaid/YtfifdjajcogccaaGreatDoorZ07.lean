/- A span of Clear has no knot and ends at knots or at the board's ends, the longest is what Longest says, and a piece that long can be cut, a longer one cannot: MouldKnots returns true for every book, board and number. Conditions: the card's own (mould.measures is as the program's text lays it). Printed from longer texts by a program: names and blanks are cut. -/
import Derived.Test.YtfifdjajcogccaaGreatDoorZ06
import Derived.Test.YtfifdjajcogccaaGreatDoorZ05
import Derived.Test.YtfifdjajcogccaaGreatDoorCards
import Derived.SevenTiedAt
import Derived.LaidOnce
set_option linter.all false
set_option maxHeartbeats 64000000
set_option maxRecDepth 400000
open Array renaming replicate -> ϱ, getElem?_eq_some_iff -> Ϝ, size_setIfInBounds -> ü, getD_eq_getD_getElem? -> Ò, getElem?_ofFn -> Ajx, getElem?_setIfInBounds -> Ó, getElem?_eq_none_iff -> Akp, getElem?_eq_getElem -> â, getElem?_eq_none -> Ô, getElem?_replicate -> Akq
open Go renaming Code -> ϑ, maxLen -> ϕ, Calls -> ύ, Goroutine -> ϐ, wpList -> ó, wpAny -> è, wpAny_take -> Aks, getD_set_ne -> Akt
open Go.IntKind renaming i64 -> ϗ
open Go.IntWalk renaming i64_in -> Ĥ
open Go.Proofs.Tryz renaming prog -> ϋ
open Go.Region renaming ready -> Ñ, wanted -> Ê
open Go.RowKit renaming intOf -> ϙ
open Go.RowKit.Below renaming refl -> Ý, alloc -> ž, trans -> Akx
open Go.Value renaming int -> ϛ
open List renaming mem_of_getElem? -> ϡ, getElem?_eq_some_iff -> ϩ, range -> Ϯ, eq_nil_of_length_eq_zero -> ź, mem_range -> ť, all_eq_true -> ģ, mem_cons -> ϥ, not_mem_nil -> ϸ, take_succ_cons -> ù, drop_zero -> ĉ, drop_succ_cons -> ý, take_zero -> ú, setIfInBounds_toArray -> ë, set_cons_zero -> ì, set_cons_succ -> Û
open Nat renaming le_refl -> ϊ, lt_of_lt_of_le -> ϟ, le_trans -> ϣ
open Ne renaming symm -> Λ
open Option renaming getD_some -> ϭ, map_some -> ç
open Option.some renaming inj -> Ϟ, injEq -> ï
open Bool renaming true -> θ, false -> χ
open Go renaming Value -> υ, undef -> ω, World -> Ψ
open Go.Ending renaming returned -> Ω
open Go.IntKind renaming i64 -> κ
open Go.Lib renaming hid -> ψ
open Go.Obj renaming cells -> Ξ
open Go.RowKit renaming Below -> Γ, Below -> Γ
open Go.Value renaming slice -> ζ, pointer -> π, tuple -> μ, agg -> η, int -> ξ
open Option renaming some -> φ, none -> ν
variable{α:Type}{l:Array Bool}{ops:Array Go.Oper}{t cs t0:Array υ}{main:Bool}{a:Go.Act}{fr:Go.Frame}{fn:Go.Func}{o:Go.Oper}{P:Go.Program}{ρ σ:Go.Sim.Ren}{x:Go.Tw.aP}{b:Go.Tw.an}{k zr z:Int}{zs:List Int}{aB:List Nat}{gE g3 gp gb gt gc i gk gl g n n4 c4 n25 b9 B n22 c22 d N NR g9 ll lc n28 im fuel g1 g2 NB cN cL n31 pn j e n16 c16 np cp nb cb nt ct c:Nat}{A4 b7 fq LA ik:Option Go.Addr}{w w0 wl w' W wB w2 aa:Ψ}{v tv ov v0 v1 v2 v7 v11 ku jD pv bv arg:υ}
noncomputable section
namespace Go.Jn
open Go Go.Proofs Go.Sim Go.Conc Go.Tw Go.RowKit
def Pb(v0 v1 v2 v7 v11 ku jD:υ)(g3 g9 g ll lc N:Nat)(LA:Option Addr)(k n zr:Int)(t19 t20:Int)(fB fC ni iD cT cU cV cW cX cY cZ da dN dO dP dQ dR dS dT dU dV dW dX dY dZ ea ed ee ef eh ei en eo ep er eu ew ey ez eA eB eC eD eE eF eG eH eI eJ eK eL eM eN eO eP eQ eR eS eT eU eV eW eX eY eZ fa fc fe ff fg fh dA dB dC dD dE dF dG dH dI dJ dK dL dM fX fY fZ ga gd gh gv gw gx gy gC gD gF gG gH gI gJ gK gL gM gN gO gP gQ gR gS iF iG iH iI iJ iK iL iM iN iO iP iQ iR iS iT iU iV iW iX iY iZ jd je jf jg jh jj jl jm jo jq jr ju jv jw kz jE jF jG jH jI jJ jK jL jM jN jO jP jQ jR jS jT jU jV jW jX jY jZ k7 kA kB kC kD kE kF kG kH kI kJ kK kL kM kN kO kP mN lu lx ly lz lA lB lC lD lF lG lH lI lJ lK lL lM lN lO lP lQ lR lS lT lU lV lX lY lZ l8 ma me mf mg mh mi ml mm mn mo mq mr mw my mz mA mB:υ):Array υ:=#[v0,v1,v2,π (φ ⟨g3,0,ν⟩),ω,ω,.bool χ,v7,ξ κ k,π (φ ⟨g9,0,ν⟩),.slice LA ll lc,v11,ξ κ n,ku,ξ κ zr,jD,ζ (φ ⟨g,0,ν⟩) N N,fB,fC,ξ κ t19,ξ κ t20,ni,iD,ω,ω,ω,ω,ω,ω,ω,ω,ω,ω,cT,cU,cV,cW,cX,cY,cZ,da,dN,dO,dP,dQ,dR,dS,dT,dU,dV,dW,dX,dY,dZ,ea,ed,ee,ef,eh,ei,en,eo,ep,er,eu,ew,ey,ez,eA,eB,eC,eD,eE,eF,eG,eH,eI,eJ,eK,eL,eM,eN,eO,eP,eQ,eR,eS,eT,eU,eV,eW,eX,eY,eZ,fa,fc,fe,ff,fg,fh,dA,dB,dC,dD,dE,dF,dG,dH,dI,dJ,dK,dL,dM,fX,fY,fZ,ga,gd,gh,gv,gw,gx,gy,gC,gD,gF,gG,gH,gI,gJ,gK,gL,gM,gN,gO,gP,gQ,gR,gS,iF,iG,iH,iI,iJ,iK,iL,iM,iN,iO,iP,iQ,iR,iS,iT,iU,iV,iW,iX,iY,iZ,jd,je,jf,jg,jh,jj,jl,jm,jo,jq,jr,ju,jv,jw,kz,jE,jF,jG,jH,jI,jJ,jK,jL,jM,jN,jO,jP,jQ,jR,jS,jT,jU,jV,jW,jX,jY,jZ,k7,kA,kB,kC,kD,kE,kF,kG,kH,kI,kJ,kK,kL,kM,kN,kO,kP,mN,lu,lx,ly,lz,lA,lB,lC,lD,lF,lG,lH,lI,lJ,lK,lL,lM,lN,lO,lP,lQ,lR,lS,lT,lU,lV,lX,lY,lZ,l8,ma,me,mf,mg,mh,mi,ml,mm,mn,mo,mq,mr,mw,my,mz,mA,mB,ω,ω,ω,ω,ω,ω,ω,ω,ω,ω,ω,ω,ω,ω,ω,ω,ω,ω,ω,ω,ω,ω,ω,ω,ω,ω,ω,ω,ω,ω,ω,ω,ω,ω,ω,ω,ω,ω,ω,ω,ω,ω,ω,ω,ω,ω,ω,ω,ω,ω,ω,ω,ω,ω,ω,ω,ω,ω,ω,ω,ω,ω,ω,ω,ω,ω,ω,ω,ω]
def Pc(v0 v1 v2 v7 v11 ku jD:υ)(g3 g9 g ll lc N:Nat)(LA:Option Addr)(k n zr:Int)(t19 t20:Int)(fB fC ni iD qK cT cU cV cW cX cY cZ da dN dO dP dQ dR dS dT dU dV dW dX dY dZ ea ed ee ef eh ei en eo ep er eu ew ey ez eA eB eC eD eE eF eG eH eI eJ eK eL eM eN eO eP eQ eR eS eT eU eV eW eX eY eZ fa fc fe ff fg fh dA dB dC dD dE dF dG dH dI dJ dK dL dM fX fY fZ ga gd gh gv gw gx gy gC gD gF gG gH gI gJ gK gL gM gN gO gP gQ gR gS iF iG iH iI iJ iK iL iM iN iO iP iQ iR iS iT iU iV iW iX iY iZ jd je jf jg jh jj jl jm jo jq jr ju jv jw kz jE jF jG jH jI jJ jK jL jM jN jO jP jQ jR jS jT jU jV jW jX jY jZ k7 kA kB kC kD kE kF kG kH kI kJ kK kL kM kN kO kP mN lu lx ly lz lA lB lC lD lF lG lH lI lJ lK lL lM lN lO lP lQ lR lS lT lU lV lX lY lZ l8 ma me mf mg mh mi ml mm mn mo mq mr mw my mz mA mB uc ud ue uf ug uh ui uj uk um uo uq:υ):Array υ:=#[v0,v1,v2,π (φ ⟨g3,0,ν⟩),ω,ω,.bool χ,v7,ξ κ k,π (φ ⟨g9,0,ν⟩),.slice LA ll lc,v11,ξ κ n,ku,ξ κ zr,jD,ζ (φ ⟨g,0,ν⟩) N N,fB,fC,ξ κ t19,ξ κ t20,ni,iD,qK,ω,ω,ω,ω,ω,ω,ω,ω,ω,cT,cU,cV,cW,cX,cY,cZ,da,dN,dO,dP,dQ,dR,dS,dT,dU,dV,dW,dX,dY,dZ,ea,ed,ee,ef,eh,ei,en,eo,ep,er,eu,ew,ey,ez,eA,eB,eC,eD,eE,eF,eG,eH,eI,eJ,eK,eL,eM,eN,eO,eP,eQ,eR,eS,eT,eU,eV,eW,eX,eY,eZ,fa,fc,fe,ff,fg,fh,dA,dB,dC,dD,dE,dF,dG,dH,dI,dJ,dK,dL,dM,fX,fY,fZ,ga,gd,gh,gv,gw,gx,gy,gC,gD,gF,gG,gH,gI,gJ,gK,gL,gM,gN,gO,gP,gQ,gR,gS,iF,iG,iH,iI,iJ,iK,iL,iM,iN,iO,iP,iQ,iR,iS,iT,iU,iV,iW,iX,iY,iZ,jd,je,jf,jg,jh,jj,jl,jm,jo,jq,jr,ju,jv,jw,kz,jE,jF,jG,jH,jI,jJ,jK,jL,jM,jN,jO,jP,jQ,jR,jS,jT,jU,jV,jW,jX,jY,jZ,k7,kA,kB,kC,kD,kE,kF,kG,kH,kI,kJ,kK,kL,kM,kN,kO,kP,mN,lu,lx,ly,lz,lA,lB,lC,lD,lF,lG,lH,lI,lJ,lK,lL,lM,lN,lO,lP,lQ,lR,lS,lT,lU,lV,lX,lY,lZ,l8,ma,me,mf,mg,mh,mi,ml,mm,mn,mo,mq,mr,mw,my,mz,mA,mB,uc,ud,ue,uf,ug,uh,ui,uj,uk,um,uo,uq,ω,ω,ω,ω,ω,ω,ω,ω,ω,ω,ω,ω,ω,ω,ω,ω,ω,ω,ω,ω,ω,ω,ω,ω,ω,ω,ω,ω,ω,ω,ω,ω,ω,ω,ω,ω,ω,ω,ω,ω,ω,ω,ω,ω,ω,ω,ω,ω,ω,ω,ω,ω,ω,ω,ω,ω,ω]
def amn{n:Int}{kv:υ}{V:Ψ}(h9:Bk V g9 59 #[.string x.name,ξ κ x.aw,kv])(hN:x.aw=(N:Int))(Mr:1<=N)(yj:N<=40)(kX:Row V g 2 Span.R (.slice LA ll lc) (ia x))(Ej:Bk V g 4 (qH x.aU N))(yL:g9<g)(Z:ϑ)
 (hZ:∀W,Below V.heap.size V W->∀fB fC ni iD cT cU cV cW cX cY cZ da dN dO dP dQ dR dS dT dU dV dW dX dY dZ ea ed ee ef eh ei en eo ep er eu ew ey ez eA eB eC eD eE eF eG eH eI eJ eK eL eM eN eO eP eQ eR eS eT eU eV eW eX eY eZ fa fc fe ff fg fh dA dB dC dD dE dF dG dH dI dJ dK dL dM fX fY fZ ga gd gh gv gw gx gy gC gD gF gG gH gI gJ gK gL gM gN gO gP gQ gR gS iF iG iH iI iJ iK iL iM iN iO iP iQ iR iS iT iU iV iW iX iY iZ jd je jf jg jh jj jl jm jo jq jr ju jv jw kz jE jF jG jH jI jJ jK jL jM jN jO jP jQ jR jS jT jU jV jW jX jY jZ k7 kA kB kC kD kE kF kG kH kI kJ kK kL kM kN kO kP mN lu lx ly lz lA lB lC lD lF lG lH lI lJ lK lL lM lN lO lP lQ lR lS lT lU lV lX lY lZ l8 ma me mf mg mh mi ml mm mn mo mq mr mw my mz mA mB:υ,Z.wp lp (vr 6) ⟨Pb v0 v1 v2 v7 v11 ku jD g3 g9 g ll lc N LA k n zr (ve (ia x) ll) (yM (ia x) ll) fB fC ni iD cT cU cV cW cX cY cZ da dN dO dP dQ dR dS dT dU dV dW dX dY dZ ea ed ee ef eh ei en eo ep er eu ew ey ez eA eB eC eD eE eF eG eH eI eJ eK eL eM eN eO eP eQ eR eS eT eU eV eW eX eY eZ fa fc fe ff fg fh dA dB dC dD dE dF dG dH dI dJ dK dL dM fX fY fZ ga gd gh gv gw gx gy gC gD gF gG gH gI gJ gK gL gM gN gO gP gQ gR gS iF iG iH iI iJ iK iL iM iN iO iP iQ iR iS iT iU iV iW iX iY iZ jd je jf jg jh jj jl jm jo jq jr ju jv jw kz jE jF jG jH jI jJ jK jL jM jN jO jP jQ jR jS jT jU jV jW jX jY jZ k7 kA kB kC kD kE kF kG kH kI kJ kK kL kM kN kO kP mN lu lx ly lz lA lB lC lD lF lG lH lI lJ lK lL lM lN lO lP lQ lR lS lT lU lV lX lY lZ l8 ma me mf mg mh mi ml mm mn mo mq mr mw my mz mA mB,[b6]⟩ W):
 ∀fB fC cT cU cV cW cX cY cZ da dN dO dP dQ dR dS dT dU dV dW dX dY dZ ea ed ee ef eh ei en eo ep er eu ew ey ez eA eB eC eD eE eF eG eH eI eJ eK eL eM eN eO eP eQ eR eS eT eU eV eW eX eY eZ fa fc fe ff fg fh dA dB dC dD dE dF dG dH dI dJ dK dL dM fX fY fZ ga gd gh gv gw gx gy gC gD gF gG gH gI gJ gK gL gM gN gO gP gQ gR gS:υ,(Code.seq (aT U8) (.seq (aT (aG U8)) Z)).wp lp (vr 6) ⟨Pa v0 v1 v2 v7 v11 ku jD g3 g9 g ll lc N LA k n zr fB fC cT cU cV cW cX cY cZ da dN dO dP dQ dR dS dT dU dV dW dX dY dZ ea ed ee ef eh ei en eo ep er eu ew ey ez eA eB eC eD eE eF eG eH eI eJ eK eL eM eN eO eP eQ eR eS eT eU eV eW eX eY eZ fa fc fe ff fg fh dA dB dC dD dE dF dG dH dI dJ dK dL dM fX fY fZ ga gd gh gv gw gx gy gC gD gF gG gH gI gJ gK gL gM gN gO gP gQ gR gS,[b6]⟩ V:=by
 intro fB fC cT cU cV cW cX cY cZ da dN dO dP dQ dR dS dT dU dV dW dX dY dZ ea ed ee ef eh ei en eo ep er eu ew ey ez eA eB eC eD eE eF eG eH eI eJ eK eL eM eN eO eP eQ eR eS eT eU eV eW eX eY eZ fa fc fe ff fg fh dA dB dC dD dE dF dG dH dI dJ dK dL dM fX fY fZ ga gd gh gv gw gx gy gC gD gF gG gH gI gJ gK gL gM gN gO gP gQ gR gS
 letI:=iz
 have HZ:=ψ hZ;have hc:=LZ x;have Z8:x.aw.toNat=N:=by omega
 obtain⟨_,_,_,e,hl,gY,rZ,JQ⟩:=kX.Φ;cases e;have HL:=ψ hl;have RR:=ψ JQ;have HC:=ψ hc;have H9:=ψ h9;have HT:=ψ Ej;have lg:=Ej.lt;have BS:ll<=ϕ:=by omega
 have KX:Hid (∀W,Below V.heap.size V W-> W.cell? ⟨g9,1,ν⟩=φ (ξ κ N)/\(∀p:Nat,p<N-> W.cell? ⟨g,p,ν⟩=φ (.bool (rG x.aU p)))/\g9<W.heap.size/\g<W.heap.size):=ψ λW hW=>by
  have hs:=hW.size;refine⟨?_,λp hp=>?_,by omega,by omega⟩
  ·rw[<-hN];exact(H9.e.below hW (by omega)).cell 1
  ·rw[(HT.e.below hW (by omega)).cell p,AJ hp]
 have CW:Hid (∀W (a b lo hi:Int),ύ lp 49 #[η #[ξ κ a,ξ κ b],ξ κ lo,ξ κ hi] W λe w'=>e=Ω (.bool (pU a b lo hi))/\Below W.heap.size W w'):=ψ λW a b lo hi=>within W
 have Yq:ϗ.wrap ((N:Int) - 1)=(N:Int) - 1:=Ĥ _ (by omega)
 clear hZ h9 kX Ej hl JQ hc;unfold U8 T8 y8 c8 Pa;simp only[Tryz.f8,ϭ,aT,aG];go_wp2;go_loopw [6,19,20,21] (λrv fv mv kv wr=>∃j:Nat,j<=ll/\rv=.bool χ/\kv=ξ κ j/\fv=ξ κ (ve (ia x) j)/\mv=ξ κ (yM (ia x) j)/\Below V.heap.size V wr) (λ_ _ _ kv _=>ll - (ϙ kv).toNat)
 case atStart=>exact⟨0,Nat.zero_le _,rfl,rfl,rfl,rfl,Below.refl _ _⟩
 case round=>
  rename Ψ=>wq
  obtain⟨j,hj,rfl,rfl,rfl,rfl,vD⟩:=hrel;have zw:=ψ vD;obtain⟨q1,qt,l9,sk⟩:=KX.e wq vD;clear vD;by_cases aj:j<ll
  ·obtain⟨ad,s,cs,rfl,aD,hs,rfl,-,aq⟩:=RR.e j aj
   have D2:(j:Int)<ll:=by omega
   have uW:=HC.e.sp s (ϡ hs);have Js:=HC.e.ends s (ϡ hs);rw[Z8] at uW Js;obtain⟨lo,hi,oZ,uR⟩:∃lo hi:Nat,s.lo=(lo:Int)/\s.hi=(hi:Int):=⟨s.lo.toNat,s.hi.toNat,by omega,by omega⟩
   have hbd:lo<=hi/\hi<N:=by omega
   have FL:=ψ (aqt hs);have FM:=ψ (an8 hs);rw[oZ,uR] at FL FM;have PV:Hid (∀j':Nat,j=j'+1->∃h':Nat,h'<lo/\∀W,Below V.heap.size V W-> W.cell? ⟨(ad.add (j' * 2)).block,(ad.add (j' * 2)).off+1,ν⟩=φ (ξ κ h')):=ψ λj' e=>by
    subst e;obtain⟨Fp,s',bp,e',Rn,cu,rfl,-,BE⟩:=RR.e j' (by omega)
    cases e';have h1:=List.pairwise_iff_getElem.1 HC.e.pw j' (j'+1) (ϩ.1 cu).1 (ϩ.1 hs).1 (by omega)
    rw[(ϩ.1 cu).2,(ϩ.1 hs).2] at h1
    have h2:=HC.e.sp s' (ϡ cu);refine⟨s'.hi.toNat,by omega,λW hW=>?_⟩
    have:=bH BE (Δ.aN (B:=g) (hW.mono (by omega)) (ϊ _)) Rn 0 rfl
    rw[this,show((s'.hi.toNat:Nat):Int)=s'.hi by omega]
   have SX:Hid (∀W,Below V.heap.size V W-> W.cell? (ad.add (j * 2))=φ (ξ κ lo)/\ W.cell? ⟨(ad.add (j * 2)).block,(ad.add (j * 2)).off+1,ν⟩=φ (ξ κ hi)/\(ad.add (j * 2)).block<W.heap.size):=ψ λW hW=>by
    have st:Δ g V W:=Δ.aN hW (by omega)
    have hs:=hW.size;exact⟨by rw[<-oZ];exact cA aq st aD rfl,by rw[<-uR];exact bH aq st aD 0 rfl,by rw[cq];omega⟩
   have TL:Hid (∀l1:Nat,lo=l1+1->rG x.aU l1=θ):=ψ λl1 e=>by
    have:=acw.1 (Js.1 (by omega))
    rwa[oZ,e,show(((l1+1:Nat):Int) - 1)=l1 by omega] at this
   have TH:Hid (hi+1<N->rG x.aU ((hi+1:Nat):Int)=θ):=ψ λe=>by
    have:=acw.1 (Js.2.1 (by omega))
    rwa[uR] at this
   have TM:Hid (∀a:Nat,lo<=a->a<=hi->rG x.aU a=χ):=ψ λa h1 h2=>XZ.1 (Js.2.2 a (by omega) (by omega))
   have SU:pU lo hi 0 ((N:Int) - 1)=θ:=by unfold pU;simp;omega
   obtain⟨c0,c1,sj⟩:=SX.e wq zw.e;clear hs aq uW Js oZ uR;have XA:Hid (((0:Int)<lo/\0<lo/\∃l1:Nat,ϗ.wrap ((lo:Int) - 1)=(l1:Int)/\(l1:Int)<N/\l1<N/\Hid (∀W,Below V.heap.size V W-> W.cell? ⟨g,l1,ν⟩=φ (.bool θ)))\/(¬ (0:Int)<lo/\¬0<lo)):=ψ (by
    by_cases h:(0:Int)<lo
    ·obtain⟨l1,e⟩:∃l1,lo=l1+1:=⟨lo - 1,by omega⟩
     refine .inl ⟨h,by omega,l1,?_,by omega,by omega,ψ λW hW=>?_⟩
     ·rw[show(lo:Int) - 1=l1 by omega];exact Ĥ _ (by omega)
     ·rw[(KX.e W hW).2.1 l1 (by omega),TL.e l1 e]
    ·exact .inr ⟨h,by omega⟩)
   have XB:Hid (∃h1:Nat,ϗ.wrap ((hi:Int)+1)=(h1:Int)/\(((h1:Int)<N/\h1<N/\Hid (∀W,Below V.heap.size V W-> W.cell? ⟨g,h1,ν⟩=φ (.bool θ)))\/(¬ (h1:Int)<N/\¬h1<N))):=ψ (by
    refine⟨hi+1,by rw[show((hi+1:Nat):Int)=(hi:Int)+1 by omega];exact Ĥ _ (by omega),?_⟩
    by_cases h:hi+1<N
    ·refine .inl ⟨by omega,h,ψ λW hW=>?_⟩
     rw[(KX.e W hW).2.1 _ h,TH.e h]
    ·exact .inr ⟨by omega,h⟩)
   have XC:Hid (((0:Int)<j/\0<j/\∃j1 hp:Nat,ϗ.wrap ((j:Int) - 1)=(j1:Int)/\(j1:Int)<ll/\j1<ll/\¬ (lo:Int)<=hp/\¬lo<=hp/\Hid (∀W,Below V.heap.size V W-> W.cell? ⟨(ad.add (j1 * 2)).block,(ad.add (j1 * 2)).off+1,ν⟩=φ (ξ κ hp)/\(ad.add (j1 * 2)).block<W.heap.size))\/(¬ (0:Int)<j/\¬0<j)):=ψ (by
    by_cases h:(0:Int)<j
    ·obtain⟨j1,e⟩:∃j1,j=j1+1:=⟨j - 1,by omega⟩
     obtain⟨hp,h1,h2⟩:=PV.e j1 e;refine .inl ⟨h,by omega,j1,hp,?_,by omega,by omega,by omega,by omega,ψ λW hW=>⟨h2 W hW,by rw[cq];have:=hW.size;omega⟩⟩
     rw[show(j:Int) - 1=j1 by omega];exact Ĥ _ (by unfold ϕ at BS;omega)
    ·exact .inr ⟨h,by omega⟩)
   have vo:Hid (Below V.heap.size V wq.drew):=ψ (oT zw.e);obtain⟨h1,wh1,Fo⟩:=XB.e;clear XB PV TL TH;have auw:ad.block<g:=aD;have V7:=ψ (ams (x:=x) (V:=V) (wq:=wq) (ad:=ad) (lo:=lo) (hi:=hi) (j:=j) (h1:=h1) (f19:=ve (ia x) j) (f20:=yM (ia x) j) (v0:=v0) (v1:=v1) (v2:=v2) (v7:=v7) (v11:=v11) (ku:=ku) (jD:=jD) (g3:=g3) (lc:=lc) (LA:=ν) (k:=k) (n:=n) (zr:=zr) Yq wh1 aj D2 SU zw.e.size KX SX CW XA Fo XC vo);go_wp2;refine Code.wp_mono ?post (V7.e _ _ _ _ _ _ _ _ _ _ _ _ _ _ _ _ _ _ _ _ _ _ _ _ _ _ _ _ _ _ _ _ _ _ _ _ _ _ _ _ _ _ _ _ _ _ _ _ _ _ _ _ _ _ _ _ _ _ _ _ _ _ _ _ _ _ _ _ _ _ _ _ _ _ _ _ _ _ _ _ _ _ _ _ _ _ _ _ _ _ _ _ _ _ _ _ _ _ _ _ _ _ _ _ _ _ _ _ _ _ _ _ _ _ _ _ _ _ _ _ _ _ _ _ _ _ _ _ _ _ _ _ _ _ _ _ _ _ _ _ _ _ _ _ _ _ _ _ _ _ _ _ _ _ _ _ _ _ _ _ _ _ _ _ _ _ _ _ _ _ _ _ _ _ _ _ _ _ _ _ _ _ _ _ _ _ _ _ _ _ _ _ _ _ _ _ _ _ _ _ _ _ _ _ _ _ _ _ _ _ _ _ _ _ _ _ _ _ _ _ _ _ _ _ _ _ _ _ _ _ _)
   case post=>
   refine fG.imp ?_
   rintro a W1 ⟨iF,iG,iH,iI,iJ,iK,iL,iM,iN,iO,iP,iQ,iR,iS,iT,iU,iV,iW,iX,iY,iZ,jd,je,jf,jg,jh,jj,jl,jm,jo,jq,jr,ju,jv,jw,kz,jE,jF,jG,jH,jI,jJ,jK,jL,jM,jN,jO,jP,jQ,jR,jS,jT,jU,jV,jW,jX,jY,jZ,k7,kA,kB,kC,kD,kE,kF,kG,kH,kI,kJ,kK,kL,kM,kN,kO,kP,rfl,ag⟩;have a8:=ag;clear ag q1 qt l9 sk c0 c1 sj XA XC Fo V7;obtain⟨q1,-,l9,sk⟩:=KX.e W1 a8.e;obtain⟨c0,c1,sj⟩:=SX.e W1 a8.e;obtain⟨hF0,qi⟩:=abF (x:=x) j;obtain⟨F,hF⟩:∃F,F=ve (ia x) j:=⟨_,rfl⟩
   obtain⟨M,hM⟩:∃M,M=yM (ia x) j:=⟨_,rfl⟩
   rw[<-hF] at hF0 qi FL |-
   rw[<-hM] at FM |-
   rw[Z8] at qi;have v1:ϗ.wrap (F+(hi:Int))=F+hi:=Ĥ _ (by omega)
   have v2:ϗ.wrap (F+(hi:Int) - lo)=F+hi - lo:=Ĥ _ (by omega)
   have v3:ϗ.wrap (F+(hi:Int) - lo+1)=F+hi - lo+1:=Ĥ _ (by omega)
   have v4:ϗ.wrap ((hi:Int) - lo)=(hi:Int) - lo:=Ĥ _ (by omega)
   have v5:ϗ.wrap ((hi:Int) - lo+1)=(hi:Int) - lo+1:=Ĥ _ (by omega)
   have v6:ϗ.wrap ((j:Int)+1)=(j:Int)+1:=Ĥ _ (by unfold ϕ at BS;omega)
   have FL':=ψ FL;have FM':=ψ FM;clear FL FM hF hM;go_wp2;go_loopw [6,22] (λrv av wr=>∃a:Nat,lo<=a/\a<=hi+1/\rv=.bool χ/\av=ξ κ a/\Below V.heap.size V wr) (λ_ av _=>hi+1 - (ϙ av).toNat)
   case atStart=>exact⟨lo,ϊ _,by omega,rfl,rfl,a8.e⟩
   case round=>
    rename Ψ=>wr
    obtain⟨a,ha,yk,rfl,rfl,qj⟩:=hrel;clear q1 l9 sk c0 c1 sj;obtain⟨q1,qt,l9,sk⟩:=KX.e wr qj;obtain⟨c0,c1,sj⟩:=SX.e wr qj;have xO:=ψ qj;clear qj;by_cases bL:a<=hi
    ·have ajx:(a:Int)<=hi:=by omega
     have haN:(a:Int)<N:=by omega
     have Ys:a<N:=by omega
     have t0:=qt a Ys;rw[TM.e a ha bL] at t0;clear qt;go_wp2;go_roundw;case rel=>exact⟨a+1,by omega,by omega,rfl,by go_num,xO.e⟩
     case measure=>simp[ϙ];omega
    ·obtain rfl:a=hi+1:=by omega
     clear qt;go_wp2;go_quiet (fail);go_wp2;go_roundw;case rel=>exact⟨j+1,by omega,rfl,by go_num,by rw[FL'.e],by rw[FM'.e],oU xO.e _⟩
     case measure=>simp[ϙ];omega
  ·obtain rfl:j=ll:=by omega
   go_wp2;exact HZ.e wq zw.e _ _ _ _ _ _ _ _ _ _ _ _ _ _ _ _ _ _ _ _ _ _ _ _ _ _ _ _ _ _ _ _ _ _ _ _ _ _ _ _ _ _ _ _ _ _ _ _ _ _ _ _ _ _ _ _ _ _ _ _ _ _ _ _ _ _ _ _ _ _ _ _ _ _ _ _ _ _ _ _ _ _ _ _ _ _ _ _ _ _ _ _ _ _ _ _ _ _ _ _ _ _ _ _ _ _ _ _ _ _ _ _ _ _ _ _ _ _ _ _ _ _ _ _ _ _ _ _ _ _ _ _ _ _ _ _ _ _ _ _ _ _ _ _ _ _ _ _ _ _ _ _ _ _ _ _ _ _ _ _ _ _ _ _ _ _ _ _ _ _ _ _ _ _ _ _ _ _ _ _ _ _ _ _ _ _ _ _ _ _ _ _ _ _ _ _ _ _ _ _ _ _ _ _ _ _ _ _ _ _ _ _ _ _ _ _ _ _ _ _ _ _ _ _ _ _ _ _ _ _ _ _
def aml{n:Int}{kv:υ}{V:Ψ}{f t20:Int}(h9:Bk V g9 59 #[.string x.name,ξ κ x.aw,kv])(hN:x.aw=(N:Int))(yj:N<=40)(Ej:Bk V g 4 (qH x.aU N))(yL:g9<g)(hf:0<=f)(ru:f+qV x N=N)(Z:ϑ)
 (hZ:∀nq,∀fB fC ni iD qK cT cU cV cW cX cY cZ da dN dO dP dQ dR dS dT dU dV dW dX dY dZ ea ed ee ef eh ei en eo ep er eu ew ey ez eA eB eC eD eE eF eG eH eI eJ eK eL eM eN eO eP eQ eR eS eT eU eV eW eX eY eZ fa fc fe ff fg fh dA dB dC dD dE dF dG dH dI dJ dK dL dM fX fY fZ ga gd gh gv gw gx gy gC gD gF gG gH gI gJ gK gL gM gN gO gP gQ gR gS iF iG iH iI iJ iK iL iM iN iO iP iQ iR iS iT iU iV iW iX iY iZ jd je jf jg jh jj jl jm jo jq jr ju jv jw kz jE jF jG jH jI jJ jK jL jM jN jO jP jQ jR jS jT jU jV jW jX jY jZ k7 kA kB kC kD kE kF kG kH kI kJ kK kL kM kN kO kP mN lu lx ly lz lA lB lC lD lF lG lH lI lJ lK lL lM lN lO lP lQ lR lS lT lU lV lX lY lZ l8 ma me mf mg mh mi ml mm mn mo mq mr mw my mz mA mB uc ud ue uf ug uh ui uj uk um uo uq:υ,Z.wp lp (vr 6) ⟨Pc v0 v1 v2 v7 v11 ku jD g3 g9 g ll lc N LA k n zr N t20 fB fC ni iD qK cT cU cV cW cX cY cZ da dN dO dP dQ dR dS dT dU dV dW dX dY dZ ea ed ee ef eh ei en eo ep er eu ew ey ez eA eB eC eD eE eF eG eH eI eJ eK eL eM eN eO eP eQ eR eS eT eU eV eW eX eY eZ fa fc fe ff fg fh dA dB dC dD dE dF dG dH dI dJ dK dL dM fX fY fZ ga gd gh gv gw gx gy gC gD gF gG gH gI gJ gK gL gM gN gO gP gQ gR gS iF iG iH iI iJ iK iL iM iN iO iP iQ iR iS iT iU iV iW iX iY iZ jd je jf jg jh jj jl jm jo jq jr ju jv jw kz jE jF jG jH jI jJ jK jL jM jN jO jP jQ jR jS jT jU jV jW jX jY jZ k7 kA kB kC kD kE kF kG kH kI kJ kK kL kM kN kO kP mN lu lx ly lz lA lB lC lD lF lG lH lI lJ lK lL lM lN lO lP lQ lR lS lT lU lV lX lY lZ l8 ma me mf mg mh mi ml mm mn mo mq mr mw my mz mA mB uc ud ue uf ug uh ui uj uk um uo uq,[b6]⟩ (V.drewN nq)):
 ∀fB fC ni iD cT cU cV cW cX cY cZ da dN dO dP dQ dR dS dT dU dV dW dX dY dZ ea ed ee ef eh ei en eo ep er eu ew ey ez eA eB eC eD eE eF eG eH eI eJ eK eL eM eN eO eP eQ eR eS eT eU eV eW eX eY eZ fa fc fe ff fg fh dA dB dC dD dE dF dG dH dI dJ dK dL dM fX fY fZ ga gd gh gv gw gx gy gC gD gF gG gH gI gJ gK gL gM gN gO gP gQ gR gS iF iG iH iI iJ iK iL iM iN iO iP iQ iR iS iT iU iV iW iX iY iZ jd je jf jg jh jj jl jm jo jq jr ju jv jw kz jE jF jG jH jI jJ jK jL jM jN jO jP jQ jR jS jT jU jV jW jX jY jZ k7 kA kB kC kD kE kF kG kH kI kJ kK kL kM kN kO kP mN lu lx ly lz lA lB lC lD lF lG lH lI lJ lK lL lM lN lO lP lQ lR lS lT lU lV lX lY lZ l8 ma me mf mg mh mi ml mm mn mo mq mr mw my mz mA mB:υ,(Code.seq (aT V8) Z).wp lp (vr 6) ⟨Pb v0 v1 v2 v7 v11 ku jD g3 g9 g ll lc N LA k n zr f t20 fB fC ni iD cT cU cV cW cX cY cZ da dN dO dP dQ dR dS dT dU dV dW dX dY dZ ea ed ee ef eh ei en eo ep er eu ew ey ez eA eB eC eD eE eF eG eH eI eJ eK eL eM eN eO eP eQ eR eS eT eU eV eW eX eY eZ fa fc fe ff fg fh dA dB dC dD dE dF dG dH dI dJ dK dL dM fX fY fZ ga gd gh gv gw gx gy gC gD gF gG gH gI gJ gK gL gM gN gO gP gQ gR gS iF iG iH iI iJ iK iL iM iN iO iP iQ iR iS iT iU iV iW iX iY iZ jd je jf jg jh jj jl jm jo jq jr ju jv jw kz jE jF jG jH jI jJ jK jL jM jN jO jP jQ jR jS jT jU jV jW jX jY jZ k7 kA kB kC kD kE kF kG kH kI kJ kK kL kM kN kO kP mN lu lx ly lz lA lB lC lD lF lG lH lI lJ lK lL lM lN lO lP lQ lR lS lT lU lV lX lY lZ l8 ma me mf mg mh mi ml mm mn mo mq mr mw my mz mA mB,[b6]⟩ V:=by
 intro fB fC ni iD cT cU cV cW cX cY cZ da dN dO dP dQ dR dS dT dU dV dW dX dY dZ ea ed ee ef eh ei en eo ep er eu ew ey ez eA eB eC eD eE eF eG eH eI eJ eK eL eM eN eO eP eQ eR eS eT eU eV eW eX eY eZ fa fc fe ff fg fh dA dB dC dD dE dF dG dH dI dJ dK dL dM fX fY fZ ga gd gh gv gw gx gy gC gD gF gG gH gI gJ gK gL gM gN gO gP gQ gR gS iF iG iH iI iJ iK iL iM iN iO iP iQ iR iS iT iU iV iW iX iY iZ jd je jf jg jh jj jl jm jo jq jr ju jv jw kz jE jF jG jH jI jJ jK jL jM jN jO jP jQ jR jS jT jU jV jW jX jY jZ k7 kA kB kC kD kE kF kG kH kI kJ kK kL kM kN kO kP mN lu lx ly lz lA lB lC lD lF lG lH lI lJ lK lL lM lN lO lP lQ lR lS lT lU lV lX lY lZ l8 ma me mf mg mh mi ml mm mn mo mq mr mw my mz mA mB
 letI:=iz
 have HZ:=ψ hZ;have H9:=ψ h9;have HT:=ψ Ej;have HF:=ψ ru;have q1: V.cell? ⟨g9,1,ν⟩=φ (ξ κ N):=by rw[<-hN];exact h9.cell 1
 have l9:=h9.lt;have lg:=Ej.lt;clear hZ h9 Ej ru;unfold V8 U8 T8 y8 c8 Pb;simp only[Tryz.f8,ϭ,aT,aG];go_wp2;go_loopw [19,23] (λfv kv wr=>∃a:Nat,a<=N/\kv=ξ κ a/\fv=ξ κ (f+qV x a)/\∃nq,wr=V.drewN nq) (λ_ kv _=>N - (ϙ kv).toNat)
 case atStart=>exact⟨0,Nat.zero_le _,rfl,by simp[qV],0,rfl⟩
 case round=>
  obtain⟨a,ha,rfl,rfl,nq,rfl⟩:=hrel;by_cases aj:a<N
  ·have D2:(a:Int)<N:=by omega
   have q2:=HT.e.cell a;rw[AJ aj] at q2;have hs:=asp x a;have h0:=UG x a;have h1:qV x a<=a:=by unfold qV;have:=List.length_filter_le (λi:Nat=> !decide (cQ x.aU (i:Int) i=0)) (Ϯ a);simp at this;omega
   obtain⟨T,hT⟩:∃T,T=qV x a:=⟨_,rfl⟩
   rw[<-hT] at hs h0 h1 |-
   have wr:ϗ.wrap (f+T+1)=f+T+1:=Ĥ _ (by have:=UG x N;have:=HF.e;omega)
   cases hb:rG x.aU a with
   |true=>
    rw[hb] at q2 hs;rw[if_pos rfl] at hs;have HS:=ψ hs;clear hs hT hb;go_wp2;go_roundw;case rel=>exact⟨a+1,by omega,by go_num,by rw[HS.e];congr 1;omega,_,rfl⟩
    case measure=>simp[ϙ];omega
   |false=>
    rw[hb] at q2 hs;rw[if_neg (by simp)] at hs
    have HS:=ψ hs;clear hs hT hb;go_wp2;go_roundw;case rel=>exact⟨a+1,by omega,by go_num,by rw[HS.e];congr 1;omega,_,rfl⟩
    case measure=>simp[ϙ];omega
  ·obtain rfl:a=N:=by omega
   rw[HF.e];go_wp2;exact HZ.e _ _ _ _ _ _ _ _ _ _ _ _ _ _ _ _ _ _ _ _ _ _ _ _ _ _ _ _ _ _ _ _ _ _ _ _ _ _ _ _ _ _ _ _ _ _ _ _ _ _ _ _ _ _ _ _ _ _ _ _ _ _ _ _ _ _ _ _ _ _ _ _ _ _ _ _ _ _ _ _ _ _ _ _ _ _ _ _ _ _ _ _ _ _ _ _ _ _ _ _ _ _ _ _ _ _ _ _ _ _ _ _ _ _ _ _ _ _ _ _ _ _ _ _ _ _ _ _ _ _ _ _ _ _ _ _ _ _ _ _ _ _ _ _ _ _ _ _ _ _ _ _ _ _ _ _ _ _ _ _ _ _ _ _ _ _ _ _ _ _ _ _ _ _ _ _ _ _ _ _ _ _ _ _ _ _ _ _ _ _ _ _ _ _ _ _ _ _ _ _ _ _ _ _ _ _ _ _ _ _ _ _ _ _ _ _ _ _ _ _ _ _ _ _ _ _ _ _ _ _ _ _ _ _ _ _ _ _ _ _ _ _ _ _ _ _
def c13:ϑ:=(Tryz.f13.body).getD .skip
def P8(b:an)(mI:List Cut->Int):Int:=((ow b mI).map Prod.snd).getD 0
def P7(b:an)(mI:List Cut->Int):Bool:=(ow b mI).isSome
def aib{mI:List Cut->Int}{e:Ending}(h:E5 w b mI e w'):∃A n c,e=Ω (μ #[.slice A n c,ξ κ (P8 b mI),.bool (P7 b mI),ξ κ (cG b 0)])/\Γ w.heap.size w w':=by
 letI:=iz
 unfold P8 P7;cases hb:ow b mI with
 |none=>
  obtain⟨rfl,hb⟩:=aic hb h;exact⟨_,_,_,rfl,hb⟩
 |some x=>
  obtain⟨x,m⟩:=x;obtain⟨A,k,c,rfl,-,uO⟩:=aid hb h;exact⟨A,k,c,by rw[WA hb];rfl,uO⟩
def row_one[Tw.aJ]{sz:Nat}{t:TypeId}{R:α->List υ->Prop}{x:α}{cs:List υ}(h:Bk W g t cs.toArray)(hg:g<B)(hR:R x cs)(hl:cs.length=sz):Row W B sz R (ζ (φ ⟨g,0,ν⟩) 1 1) [x]:=by
 refine⟨_,1,rfl,ϊ _,by simp only[ϕ];omega,λ_=>⟨_,rfl,hg,λi y hi=>?_⟩⟩
 match i,hi with
 |0,hi=>
  cases hi;refine⟨cs,hR,hl,λj u hu=>?_⟩
  have:=h.cell j;rw[show(⟨g,0,ν⟩:Addr).add (0 * sz+j)=⟨g,j,ν⟩ by rw[Nat.zero_mul,Nat.zero_add];unfold Addr.add;split<;>simp_all]
  rw[this];simpa using hu
 |i+1,hi=>simp at hi
def apg[Tw.aJ]{tp tb:TypeId}{ab n:Int}{kv:υ}(hp:Bk W gp tp #[.string GI,ξ κ n,ξ κ n,ξ κ k])(hb:Bk W gb tb #[.string x.name,ξ κ x.aw,kv])(hk:Row W B 2 Span.R kv x.aU)(hB:B<=W.heap.size)(dk:x.name.size<=ϕ):
 bq W W.heap.size (oL ab x n k) (ζ (φ ⟨gp,0,ν⟩) 1 1) (ζ (φ ⟨gb,0,ν⟩) 1 1) (ζ ν 0 0) where
 pieces:=row_one (t:=tp) (cs:=[.string GI,ξ κ n,ξ κ n,ξ κ k]) hp hp.lt ⟨rfl,show GI.size<=ϕ by decide⟩ rfl
 aF:=row_one (t:=tb) (cs:=[.string x.name,ξ κ x.aw,kv]) hb hb.lt ⟨kv,rfl,dk,hk.more hB⟩ rfl
 aM:=⟨ν,0,rfl,ϊ _,Nat.zero_le _,λh=>absurd rfl h⟩
def apf{W:Ψ}{n:Int}{pv bv tv:υ}(h0:dg b=0)(hx:x∈b.aF)(hn:1<=n)(dw:n<=40)(hk:0<=k)(dq:k<=2)(ai:letI:=iz;bq W W.heap.size (oL b.ab x n k) pv bv tv)(hM:nB W):
 letI:=iz;ύ lp 33 #[η #[ξ κ b.ab,pv,bv,tv]] W λe w'=>∃A m c M,e=Ω (μ #[.slice A m c,ξ κ M,.bool (decide (n<=nM x k)),ξ κ 0])/\Γ W.heap.size W w':=by
 letI:=iz
 refine(QO (b:=oL b.ab x n k) (ϊ _) ai hM).mono λe w' h=>?_
 obtain⟨A,m,c,rfl,hb⟩:=aib h;have h1:=aph h0 hx hn dw hk dq;have h2:=abk (abg h0 hx hn dw hk dq);refine⟨A,m,c,P8 (oL b.ab x n k) pB,?_,hb⟩
 rw[h2,show P7 (oL b.ab x n k) pB=decide (n<=nM x k) from h1]
def Y8:ϑ:=aG (aG (aG W8))
def Pd(v0 v1 v2 v7 v11 ku jD:υ)(g3 g9 g ll lc N:Nat)(LA:Option Addr)(k n zr:Int)(h:Nat)(fB fC ni iD qK xH xI xJ xK cT cU cV cW cX cY cZ da dN dO dP dQ dR dS dT dU dV dW dX dY dZ ea ed ee ef eh ei en eo ep er eu ew ey ez eA eB eC eD eE eF eG eH eI eJ eK eL eM eN eO eP eQ eR eS eT eU eV eW eX eY eZ fa fc fe ff fg fh dA dB dC dD dE dF dG dH dI dJ dK dL dM fX fY fZ ga gd gh gv gw gx gy gC gD gF gG gH gI gJ gK gL gM gN gO gP gQ gR gS iF iG iH iI iJ iK iL iM iN iO iP iQ iR iS iT iU iV iW iX iY iZ jd je jf jg jh jj jl jm jo jq jr ju jv jw kz jE jF jG jH jI jJ jK jL jM jN jO jP jQ jR jS jT jU jV jW jX jY jZ k7 kA kB kC kD kE kF kG kH kI kJ kK kL kM kN kO kP mN lu lx ly lz lA lB lC lD lF lG lH lI lJ lK lL lM lN lO lP lQ lR lS lT lU lV lX lY lZ l8 ma me mf mg mh mi ml mm mn mo mq mr mw my mz mA mB uc ud ue uf ug uh ui uj uk um uo uq G7 G8 G9 Ha Hb Hc Hd He Hf Hg Hh Hi Hj Hk Hl Hm Hn Ho Hp Hq Hr Hs Ht Hu Hv Hw Hx Hy Hz HU H7 H8 Ia Ib Ic:υ):Array υ:=#[v0,v1,v2,π (φ ⟨g3,0,ν⟩),ω,ω,.bool χ,v7,ξ κ k,π (φ ⟨g9,0,ν⟩),.slice LA ll lc,v11,ξ κ n,ku,ξ κ zr,jD,ζ (φ ⟨g,0,ν⟩) N N,fB,fC,ξ κ N,ξ κ zr,ni,iD,qK,π (φ ⟨h,0,ν⟩),xH,xI,xJ,xK,ω,ω,ω,ω,cT,cU,cV,cW,cX,cY,cZ,da,dN,dO,dP,dQ,dR,dS,dT,dU,dV,dW,dX,dY,dZ,ea,ed,ee,ef,eh,ei,en,eo,ep,er,eu,ew,ey,ez,eA,eB,eC,eD,eE,eF,eG,eH,eI,eJ,eK,eL,eM,eN,eO,eP,eQ,eR,eS,eT,eU,eV,eW,eX,eY,eZ,fa,fc,fe,ff,fg,fh,dA,dB,dC,dD,dE,dF,dG,dH,dI,dJ,dK,dL,dM,fX,fY,fZ,ga,gd,gh,gv,gw,gx,gy,gC,gD,gF,gG,gH,gI,gJ,gK,gL,gM,gN,gO,gP,gQ,gR,gS,iF,iG,iH,iI,iJ,iK,iL,iM,iN,iO,iP,iQ,iR,iS,iT,iU,iV,iW,iX,iY,iZ,jd,je,jf,jg,jh,jj,jl,jm,jo,jq,jr,ju,jv,jw,kz,jE,jF,jG,jH,jI,jJ,jK,jL,jM,jN,jO,jP,jQ,jR,jS,jT,jU,jV,jW,jX,jY,jZ,k7,kA,kB,kC,kD,kE,kF,kG,kH,kI,kJ,kK,kL,kM,kN,kO,kP,mN,lu,lx,ly,lz,lA,lB,lC,lD,lF,lG,lH,lI,lJ,lK,lL,lM,lN,lO,lP,lQ,lR,lS,lT,lU,lV,lX,lY,lZ,l8,ma,me,mf,mg,mh,mi,ml,mm,mn,mo,mq,mr,mw,my,mz,mA,mB,uc,ud,ue,uf,ug,uh,ui,uj,uk,um,uo,uq,G7,G8,G9,Ha,Hb,Hc,Hd,He,Hf,Hg,Hh,Hi,Hj,Hk,Hl,Hm,Hn,Ho,Hp,Hq,Hr,Hs,Ht,Hu,Hv,Hw,Hx,Hy,Hz,HU,H7,H8,Ia,Ib,Ic,ω,ω,ω,ω,ω,ω,ω,ω,ω,ω,ω,ω,ω,ω,ω,ω,ω,ω,ω,ω,ω,ω]
def amp{b:an}{x:aP}{nk kc h gb:Nat}{KA:Option Addr}{pv:υ}{v0 v1 v2 v7 v11 ku jD:υ}{g3 g9 g ll lc N:Nat}{LA:Option Addr}{k n zr:Int}{V W:Ψ}(CF:letI:=iz;Hid (∀W n',Below V.heap.size V W->1<=n'->n'<=40->∀gp gb tp tb,Bk W gp tp #[.string ⟨#[111,110,101]⟩,ξ κ n',ξ κ n',ξ κ k]->Bk W gb tb #[.string x.name,ξ κ N,.slice KA nk kc]->
 ύ lp 33 #[η #[ξ κ b.ab,ζ (φ ⟨gp,0,ν⟩) 1 1,ζ (φ ⟨gb,0,ν⟩) 1 1,ζ ν 0 0]] W λe w'=>∃A m c M,e=Ω (μ #[.slice A m c,ξ κ M,.bool (decide (n'<=n)),ξ κ 0])/\Below W.heap.size W w'))
 (nV:0<=n)(sa:n<=N)(yj:N<=40)(hB:Below V.heap.size V W)(Db:Hid (Bk W h 26 #[ξ κ b.ab,pv,ζ (φ ⟨gb,0,ν⟩) 1 1,ζ ν 0 0]))(Fc:Hid (Bk W gb 59 #[.string x.name,ξ κ N,.slice KA nk kc]))(DX:gb<h)(hV:V.heap.size<=gb):
 ∀fB fC ni iD qK xH xI xJ xK cT cU cV cW cX cY cZ da dN dO dP dQ dR dS dT dU dV dW dX dY dZ ea ed ee ef eh ei en eo ep er eu ew ey ez eA eB eC eD eE eF eG eH eI eJ eK eL eM eN eO eP eQ eR eS eT eU eV eW eX eY eZ fa fc fe ff fg fh dA dB dC dD dE dF dG dH dI dJ dK dL dM fX fY fZ ga gd gh gv gw gx gy gC gD gF gG gH gI gJ gK gL gM gN gO gP gQ gR gS iF iG iH iI iJ iK iL iM iN iO iP iQ iR iS iT iU iV iW iX iY iZ jd je jf jg jh jj jl jm jo jq jr ju jv jw kz jE jF jG jH jI jJ jK jL jM jN jO jP jQ jR jS jT jU jV jW jX jY jZ k7 kA kB kC kD kE kF kG kH kI kJ kK kL kM kN kO kP mN lu lx ly lz lA lB lC lD lF lG lH lI lJ lK lL lM lN lO lP lQ lR lS lT lU lV lX lY lZ l8 ma me mf mg mh mi ml mm mn mo mq mr mw my mz mA mB uc ud ue uf ug uh ui uj uk um uo uq G7 G8 G9 Ha Hb Hc Hd He Hf Hg Hh Hi Hj Hk Hl Hm Hn Ho Hp Hq Hr Hs Ht Hu Hv Hw Hx Hy Hz HU H7 H8 Ia Ib Ic:υ,Y8.wp lp (vr 6) ⟨Pd v0 v1 v2 v7 v11 ku jD g3 g9 g ll lc N LA k n zr h fB fC ni iD qK xH xI xJ xK cT cU cV cW cX cY cZ da dN dO dP dQ dR dS dT dU dV dW dX dY dZ ea ed ee ef eh ei en eo ep er eu ew ey ez eA eB eC eD eE eF eG eH eI eJ eK eL eM eN eO eP eQ eR eS eT eU eV eW eX eY eZ fa fc fe ff fg fh dA dB dC dD dE dF dG dH dI dJ dK dL dM fX fY fZ ga gd gh gv gw gx gy gC gD gF gG gH gI gJ gK gL gM gN gO gP gQ gR gS iF iG iH iI iJ iK iL iM iN iO iP iQ iR iS iT iU iV iW iX iY iZ jd je jf jg jh jj jl jm jo jq jr ju jv jw kz jE jF jG jH jI jJ jK jL jM jN jO jP jQ jR jS jT jU jV jW jX jY jZ k7 kA kB kC kD kE kF kG kH kI kJ kK kL kM kN kO kP mN lu lx ly lz lA lB lC lD lF lG lH lI lJ lK lL lM lN lO lP lQ lR lS lT lU lV lX lY lZ l8 ma me mf mg mh mi ml mm mn mo mq mr mw my mz mA mB uc ud ue uf ug uh ui uj uk um uo uq G7 G8 G9 Ha Hb Hc Hd He Hf Hg Hh Hi Hj Hk Hl Hm Hn Ho Hp Hq Hr Hs Ht Hu Hv Hw Hx Hy Hz HU H7 H8 Ia Ib Ic,[b6]⟩ W:=by
 intro fB fC ni iD qK xH xI xJ xK cT cU cV cW cX cY cZ da dN dO dP dQ dR dS dT dU dV dW dX dY dZ ea ed ee ef eh ei en eo ep er eu ew ey ez eA eB eC eD eE eF eG eH eI eJ eK eL eM eN eO eP eQ eR eS eT eU eV eW eX eY eZ fa fc fe ff fg fh dA dB dC dD dE dF dG dH dI dJ dK dL dM fX fY fZ ga gd gh gv gw gx gy gC gD gF gG gH gI gJ gK gL gM gN gO gP gQ gR gS iF iG iH iI iJ iK iL iM iN iO iP iQ iR iS iT iU iV iW iX iY iZ jd je jf jg jh jj jl jm jo jq jr ju jv jw kz jE jF jG jH jI jJ jK jL jM jN jO jP jQ jR jS jT jU jV jW jX jY jZ k7 kA kB kC kD kE kF kG kH kI kJ kK kL kM kN kO kP mN lu lx ly lz lA lB lC lD lF lG lH lI lJ lK lL lM lN lO lP lQ lR lS lT lU lV lX lY lZ l8 ma me mf mg mh mi ml mm mn mo mq mr mw my mz mA mB uc ud ue uf ug uh ui uj uk um uo uq G7 G8 G9 Ha Hb Hc Hd He Hf Hg Hh Hi Hj Hk Hl Hm Hn Ho Hp Hq Hr Hs Ht Hu Hv Hw Hx Hy Hz HU H7 H8 Ia Ib Ic
 letI:=iz
 have HB:=ψ hB;have zW:=hB.size;have lh:=Db.e.lt;clear hB;unfold Y8 W8 V8 U8 T8 y8 c8 Pd;simp only[Tryz.f8,ϭ,aT,aG];by_cases aj:n<40
 ·have wr:ϗ.wrap (n+1)=n+1:=Ĥ _ (by omega)
  have hd:decide (n+1<=n)=χ:=by simp;omega
  have mJ:¬ (n+1<=n):=by omega
  go_wp2
  go_at_call 50
  refine(abf _ _).mono ?_
  rintro e w2 ⟨rfl,ak⟩;have z2:=ak.size;have k1:=Db.e.below ak Db.e.lt;have k2:=Fc.e.below ak Fc.e.lt;have a0:=k1.cell 0;have a1:=k1.cell 1;have a2:=k1.cell 2;have a3:=k1.cell 3;have f1:=k1.frozen 1;have l1:=k1.lt;have Sm:gb≠h:=by omega
  obtain⟨W3,fT⟩:∃W3,W3=(w2.setCell ⟨h,1,ν⟩ (ζ (φ ⟨w2.heap.size,0,ν⟩) 1 1)).alloc (Ξ #[.string ⟨#[111,110,101]⟩,ξ κ (n+1),ξ κ (n+1),ξ κ k] 72):=⟨_,rfl⟩
  have PJ:Hid (Bk W3 w2.heap.size 72 #[.string ⟨#[111,110,101]⟩,ξ κ (n+1),ξ κ (n+1),ξ κ k]):=ψ (by rw[fT];exact Bk.cD (by simp) _ _)
  have uB:Hid (Bk W3 (h) 26 #[ξ κ b.ab,ζ (φ ⟨w2.heap.size,0,ν⟩) 1 1,ζ (φ ⟨gb,0,ν⟩) 1 1,ζ ν 0 0]):=ψ (by
   rw[fT];have:=(k1.set 1 (ζ (φ ⟨w2.heap.size,0,ν⟩) 1 1)).alloc (Ξ #[.string ⟨#[111,110,101]⟩,ξ κ (n+1),ξ κ (n+1),ξ κ k] 72);simpa using this)
  have Ix:Hid (Bk W3 (gb) 59 #[.string x.name,ξ κ N,.slice KA nk kc]):=ψ (by rw[fT];exact(k2.fS Sm _).alloc _)
  have xM:Hid (Below V.heap.size V W3):=ψ (by rw[fT];exact((HB.e.trans (ak.mono zW)).setCell (by simp<;>omega) _).alloc (by simp<;>omega) _)
  have Z3:W3.heap.size=w2.heap.size+1:=by rw[fT];simp
  clear k1 k2 ak;go_wp2;rw[<-fT];clear fT a0 a1 a2 a3 f1;have b0:=uB.e.cell 0;have b1:=uB.e.cell 1;have b2:=uB.e.cell 2;have b3:=uB.e.cell 3;have l3':=uB.e.lt;go_wp2
  go_at_call 33
  refine(CF.e W3 ((n+1)) xM.e (by omega) (by omega) _ _ _ _ PJ.e Ix.e).mono ?_
  rintro e w4 ⟨A4,m4,c4,M4,rfl,cx⟩;rw[hd];go_wp2
  go_at_call 21
  refine(Oj _).mono ?_
  rintro e w' ⟨rfl,rfl⟩;go_wp2;exact⟨rfl,rfl,rfl⟩
 ·go_wp2
  go_at_call 21
  refine(Oj _).mono ?_
  rintro e w' ⟨rfl,rfl⟩;go_wp2;exact⟨rfl,rfl,rfl⟩
def amm{nk kc:Nat}{KA:Option Addr}{q1 q2 q3:υ}{n:Int}{V:Ψ}(h0:dg b=0)(hx:b.aF[i]?=φ x)(hk:0<=k)(dq:k<=2)(hN:x.aw=(N:Int))(Mr:1<=N)(yj:N<=40)(hn:n=nM x k)(nV:0<=n)(sa:n<=N)
 (IF:Bk V g3 26 #[ξ κ b.ab,q1,q2,q3])(zI:Bk V g9 59 #[.string x.name,ξ κ x.aw,.slice KA nk kc])(cM:Row V g 2 Span.R (.slice KA nk kc) x.aU)(hg:g<V.heap.size)(dk:x.name.size<=ϕ)(hM:nB V):
 ∀fB fC ni iD qK cT cU cV cW cX cY cZ da dN dO dP dQ dR dS dT dU dV dW dX dY dZ ea ed ee ef eh ei en eo ep er eu ew ey ez eA eB eC eD eE eF eG eH eI eJ eK eL eM eN eO eP eQ eR eS eT eU eV eW eX eY eZ fa fc fe ff fg fh dA dB dC dD dE dF dG dH dI dJ dK dL dM fX fY fZ ga gd gh gv gw gx gy gC gD gF gG gH gI gJ gK gL gM gN gO gP gQ gR gS iF iG iH iI iJ iK iL iM iN iO iP iQ iR iS iT iU iV iW iX iY iZ jd je jf jg jh jj jl jm jo jq jr ju jv jw kz jE jF jG jH jI jJ jK jL jM jN jO jP jQ jR jS jT jU jV jW jX jY jZ k7 kA kB kC kD kE kF kG kH kI kJ kK kL kM kN kO kP mN lu lx ly lz lA lB lC lD lF lG lH lI lJ lK lL lM lN lO lP lQ lR lS lT lU lV lX lY lZ l8 ma me mf mg mh mi ml mm mn mo mq mr mw my mz mA mB uc ud ue uf ug uh ui uj uk um uo uq:υ,(Code.seq (aT W8) (.seq (aT (aG W8)) (.seq (aT (aG (aG W8))) Y8))).wp lp (vr 6) ⟨Pc v0 v1 v2 v7 v11 ku jD g3 g9 g ll lc N LA k n zr N zr fB fC ni iD qK cT cU cV cW cX cY cZ da dN dO dP dQ dR dS dT dU dV dW dX dY dZ ea ed ee ef eh ei en eo ep er eu ew ey ez eA eB eC eD eE eF eG eH eI eJ eK eL eM eN eO eP eQ eR eS eT eU eV eW eX eY eZ fa fc fe ff fg fh dA dB dC dD dE dF dG dH dI dJ dK dL dM fX fY fZ ga gd gh gv gw gx gy gC gD gF gG gH gI gJ gK gL gM gN gO gP gQ gR gS iF iG iH iI iJ iK iL iM iN iO iP iQ iR iS iT iU iV iW iX iY iZ jd je jf jg jh jj jl jm jo jq jr ju jv jw kz jE jF jG jH jI jJ jK jL jM jN jO jP jQ jR jS jT jU jV jW jX jY jZ k7 kA kB kC kD kE kF kG kH kI kJ kK kL kM kN kO kP mN lu lx ly lz lA lB lC lD lF lG lH lI lJ lK lL lM lN lO lP lQ lR lS lT lU lV lX lY lZ l8 ma me mf mg mh mi ml mm mn mo mq mr mw my mz mA mB uc ud ue uf ug uh ui uj uk um uo uq,[b6]⟩ V:=by
 intro fB fC ni iD qK cT cU cV cW cX cY cZ da dN dO dP dQ dR dS dT dU dV dW dX dY dZ ea ed ee ef eh ei en eo ep er eu ew ey ez eA eB eC eD eE eF eG eH eI eJ eK eL eM eN eO eP eQ eR eS eT eU eV eW eX eY eZ fa fc fe ff fg fh dA dB dC dD dE dF dG dH dI dJ dK dL dM fX fY fZ ga gd gh gv gw gx gy gC gD gF gG gH gI gJ gK gL gM gN gO gP gQ gR gS iF iG iH iI iJ iK iL iM iN iO iP iQ iR iS iT iU iV iW iX iY iZ jd je jf jg jh jj jl jm jo jq jr ju jv jw kz jE jF jG jH jI jJ jK jL jM jN jO jP jQ jR jS jT jU jV jW jX jY jZ k7 kA kB kC kD kE kF kG kH kI kJ kK kL kM kN kO kP mN lu lx ly lz lA lB lC lD lF lG lH lI lJ lK lL lM lN lO lP lQ lR lS lT lU lV lX lY lZ l8 ma me mf mg mh mi ml mm mn mo mq mr mw my mz mA mB uc ud ue uf ug uh ui uj uk um uo uq
 letI:=iz
 have H0:=ψ h0;have Gy:= ϡ hx;have HX:=ψ Gy;have HK:=ψ cM;have HM:=ψ hM;have HN:=ψ hn;have r0:=IF.cell 0;have s0:=zI.cell 0;have s1:=zI.cell 1;have s2:=zI.cell 2;rw[hN] at s1;have l3:=IF.lt;have l9:=zI.lt;have HNM:=ψ dk;have HXL:=ψ hN;have CF:Hid (∀W n',Below V.heap.size V W->1<=n'->n'<=40->∀gp gb tp tb,Bk W gp tp #[.string ⟨#[111,110,101]⟩,ξ κ n',ξ κ n',ξ κ k]->Bk W gb tb #[.string x.name,ξ κ N,.slice KA nk kc]->
  ύ lp 33 #[η #[ξ κ b.ab,ζ (φ ⟨gp,0,ν⟩) 1 1,ζ (φ ⟨gb,0,ν⟩) 1 1,ζ ν 0 0]] W λe w'=>∃A m c M,e=Ω (μ #[.slice A m c,ξ κ M,.bool (decide (n'<=n)),ξ κ 0])/\Below W.heap.size W w'):=ψ λW n' hW h1 h2 gp gb tp tb hp hb=>by
  have hz:=hW.size;rw[HN.e];refine apf H0.e HX.e h1 h2 hk dq (apg (B:=g) hp (by rw[HXL.e];exact hb) (HK.e.still (Δ.aN hW (by omega)) λ_ _ h=>h) (by omega) HNM.e) (HM.e.below hW HM.e.lt)
 have HL:Hid (∀W h gb pv,Below V.heap.size V W->Bk W h 26 #[ξ κ b.ab,pv,ζ (φ ⟨gb,0,ν⟩) 1 1,ζ ν 0 0]->Bk W gb 59 #[.string x.name,ξ κ N,.slice KA nk kc]->gb<h->V.heap.size<=gb->
  ∀fB fC ni iD qK xH xI xJ xK cT cU cV cW cX cY cZ da dN dO dP dQ dR dS dT dU dV dW dX dY dZ ea ed ee ef eh ei en eo ep er eu ew ey ez eA eB eC eD eE eF eG eH eI eJ eK eL eM eN eO eP eQ eR eS eT eU eV eW eX eY eZ fa fc fe ff fg fh dA dB dC dD dE dF dG dH dI dJ dK dL dM fX fY fZ ga gd gh gv gw gx gy gC gD gF gG gH gI gJ gK gL gM gN gO gP gQ gR gS iF iG iH iI iJ iK iL iM iN iO iP iQ iR iS iT iU iV iW iX iY iZ jd je jf jg jh jj jl jm jo jq jr ju jv jw kz jE jF jG jH jI jJ jK jL jM jN jO jP jQ jR jS jT jU jV jW jX jY jZ k7 kA kB kC kD kE kF kG kH kI kJ kK kL kM kN kO kP mN lu lx ly lz lA lB lC lD lF lG lH lI lJ lK lL lM lN lO lP lQ lR lS lT lU lV lX lY lZ l8 ma me mf mg mh mi ml mm mn mo mq mr mw my mz mA mB uc ud ue uf ug uh ui uj uk um uo uq G7 G8 G9 Ha Hb Hc Hd He Hf Hg Hh Hi Hj Hk Hl Hm Hn Ho Hp Hq Hr Hs Ht Hu Hv Hw Hx Hy Hz HU H7 H8 Ia Ib Ic:υ,Y8.wp lp (vr 6) ⟨Pd v0 v1 v2 v7 v11 ku jD g3 g9 g ll lc N LA k n zr h fB fC ni iD qK xH xI xJ xK cT cU cV cW cX cY cZ da dN dO dP dQ dR dS dT dU dV dW dX dY dZ ea ed ee ef eh ei en eo ep er eu ew ey ez eA eB eC eD eE eF eG eH eI eJ eK eL eM eN eO eP eQ eR eS eT eU eV eW eX eY eZ fa fc fe ff fg fh dA dB dC dD dE dF dG dH dI dJ dK dL dM fX fY fZ ga gd gh gv gw gx gy gC gD gF gG gH gI gJ gK gL gM gN gO gP gQ gR gS iF iG iH iI iJ iK iL iM iN iO iP iQ iR iS iT iU iV iW iX iY iZ jd je jf jg jh jj jl jm jo jq jr ju jv jw kz jE jF jG jH jI jJ jK jL jM jN jO jP jQ jR jS jT jU jV jW jX jY jZ k7 kA kB kC kD kE kF kG kH kI kJ kK kL kM kN kO kP mN lu lx ly lz lA lB lC lD lF lG lH lI lJ lK lL lM lN lO lP lQ lR lS lT lU lV lX lY lZ l8 ma me mf mg mh mi ml mm mn mo mq mr mw my mz mA mB uc ud ue uf ug uh ui uj uk um uo uq G7 G8 G9 Ha Hb Hc Hd He Hf Hg Hh Hi Hj Hk Hl Hm Hn Ho Hp Hq Hr Hs Ht Hu Hv Hw Hx Hy Hz HU H7 H8 Ia Ib Ic,[b6]⟩ W):=ψ λW h gb pv h1 h2 h3 h4 h5=>amp CF nV sa yj h1 (ψ h2) (ψ h3) h4 h5
 clear h0 hx Gy cM hM IF zI hn hN;generalize Y8=Z at HL |-
 unfold W8 V8 U8 T8 y8 c8 Pc;simp only[Tryz.f8,ϭ,aT,aG];have e1:((N:Int) !=N)=χ:=by simp
 have e2:(zr !=zr)=χ:=by simp
 obtain⟨W1,fJ⟩:∃W1,W1=(V.alloc (Ξ #[.string x.name,ξ κ N,.slice KA nk kc] 59)).alloc (Ξ #[ξ κ b.ab,ζ ν 0 0,ζ (φ ⟨V.heap.size,0,ν⟩) 1 1,ζ ν 0 0] 26):=⟨_,rfl⟩
 have Z1:W1.heap.size=V.heap.size+1+1:=by rw[fJ];simp
 have Db:Hid (Bk W1 (V.heap.size+1) 26 #[ξ κ b.ab,ζ ν 0 0,ζ (φ ⟨V.heap.size,0,ν⟩) 1 1,ζ ν 0 0]):=ψ (by rw[fJ];exact Bk.cD (by simp) _ _)
 have Fc:Hid (Bk W1 V.heap.size 59 #[.string x.name,ξ κ N,.slice KA nk kc]):=ψ (by rw[fJ];exact(Bk.new _ _ _).alloc _)
 have HB:Hid (Below V.heap.size V W1):=ψ (by rw[fJ];exact((Below.refl _ _).alloc (ϊ _) _).alloc (by simp) _)
 have Lu:=ψ fJ;clear fJ;by_cases hn:0<n
 ·have hd:decide (n<=n)=θ:=by simp
  go_wp2;rw[<-Lu.e];clear Lu
  go_at_call 50
  refine(abf _ _).mono ?_
  rintro e w2 ⟨rfl,ak⟩;have z2:=ak.size;have k1:=Db.e.below ak Db.e.lt;have k2:=Fc.e.below ak Fc.e.lt;have a0:=k1.cell 0;have a1:=k1.cell 1;have a2:=k1.cell 2;have a3:=k1.cell 3;have f1:=k1.frozen 1;have l1:=k1.lt;have Sm:V.heap.size≠V.heap.size+1:=by omega
  obtain⟨W3,fT⟩:∃W3,W3=(w2.setCell ⟨V.heap.size+1,1,ν⟩ (ζ (φ ⟨w2.heap.size,0,ν⟩) 1 1)).alloc (Ξ #[.string ⟨#[111,110,101]⟩,ξ κ n,ξ κ n,ξ κ k] 72):=⟨_,rfl⟩
  have PJ:Hid (Bk W3 w2.heap.size 72 #[.string ⟨#[111,110,101]⟩,ξ κ n,ξ κ n,ξ κ k]):=ψ (by rw[fT];exact Bk.cD (by simp) _ _)
  have uB:Hid (Bk W3 (V.heap.size+1) 26 #[ξ κ b.ab,ζ (φ ⟨w2.heap.size,0,ν⟩) 1 1,ζ (φ ⟨V.heap.size,0,ν⟩) 1 1,ζ ν 0 0]):=ψ (by
   rw[fT];have:=(k1.set 1 (ζ (φ ⟨w2.heap.size,0,ν⟩) 1 1)).alloc (Ξ #[.string ⟨#[111,110,101]⟩,ξ κ n,ξ κ n,ξ κ k] 72);simpa using this)
  have Ix:Hid (Bk W3 (V.heap.size) 59 #[.string x.name,ξ κ N,.slice KA nk kc]):=ψ (by rw[fT];exact(k2.fS Sm _).alloc _)
  have xM:Hid (Below V.heap.size V W3):=ψ (by rw[fT];exact((HB.e.trans (ak.mono (by omega))).setCell (by simp<;>omega) _).alloc (by simp<;>omega) _)
  have Z3:W3.heap.size=w2.heap.size+1:=by rw[fT];simp
  clear k1 k2 ak;go_wp2;rw[<-fT];clear fT a0 a1 a2 a3 f1;have b0:=uB.e.cell 0;have b1:=uB.e.cell 1;have b2:=uB.e.cell 2;have b3:=uB.e.cell 3;have l3':=uB.e.lt;go_wp2
  go_at_call 33
  refine(CF.e W3 (n) xM.e (by omega) (by omega) _ _ _ _ PJ.e Ix.e).mono ?_
  rintro e w4 ⟨A4,m4,c4,M4,rfl,cx⟩;rw[hd];have z4:=cx.size;have K4:=uB.e.below cx uB.e.lt;have K5:=Ix.e.below cx Ix.e.lt;have HH:=ψ (HL.e w4 _ _ _ (xM.e.trans (cx.mono (by omega))) K4 K5 (by omega) (ϊ _))
  clear K4 K5 cx;go_wp2;exact HH.e _ _ _ _ _ _ _ _ _ _ _ _ _ _ _ _ _ _ _ _ _ _ _ _ _ _ _ _ _ _ _ _ _ _ _ _ _ _ _ _ _ _ _ _ _ _ _ _ _ _ _ _ _ _ _ _ _ _ _ _ _ _ _ _ _ _ _ _ _ _ _ _ _ _ _ _ _ _ _ _ _ _ _ _ _ _ _ _ _ _ _ _ _ _ _ _ _ _ _ _ _ _ _ _ _ _ _ _ _ _ _ _ _ _ _ _ _ _ _ _ _ _ _ _ _ _ _ _ _ _ _ _ _ _ _ _ _ _ _ _ _ _ _ _ _ _ _ _ _ _ _ _ _ _ _ _ _ _ _ _ _ _ _ _ _ _ _ _ _ _ _ _ _ _ _ _ _ _ _ _ _ _ _ _ _ _ _ _ _ _ _ _ _ _ _ _ _ _ _ _ _ _ _ _ _ _ _ _ _ _ _ _ _ _ _ _ _ _ _ _ _ _ _ _ _ _ _ _ _ _ _ _ _ _ _ _ _ _ _ _ _ _ _ _ _ _ _ _ _ _ _ _ _ _ _ _ _ _ _ _ _ _ _ _ _ _ _ _ _ _ _ _ _ _ _ _ _ _ _ _ _ _ _ _
 ·go_wp2
  rw[<-Lu.e];clear Lu;exact HL.e W1 _ _ _ HB.e Db.e Fc.e (by omega) (ϊ _) _ _ _ _ _ _ _ _ _ _ _ _ _ _ _ _ _ _ _ _ _ _ _ _ _ _ _ _ _ _ _ _ _ _ _ _ _ _ _ _ _ _ _ _ _ _ _ _ _ _ _ _ _ _ _ _ _ _ _ _ _ _ _ _ _ _ _ _ _ _ _ _ _ _ _ _ _ _ _ _ _ _ _ _ _ _ _ _ _ _ _ _ _ _ _ _ _ _ _ _ _ _ _ _ _ _ _ _ _ _ _ _ _ _ _ _ _ _ _ _ _ _ _ _ _ _ _ _ _ _ _ _ _ _ _ _ _ _ _ _ _ _ _ _ _ _ _ _ _ _ _ _ _ _ _ _ _ _ _ _ _ _ _ _ _ _ _ _ _ _ _ _ _ _ _ _ _ _ _ _ _ _ _ _ _ _ _ _ _ _ _ _ _ _ _ _ _ _ _ _ _ _ _ _ _ _ _ _ _ _ _ _ _ _ _ _ _ _ _ _ _ _ _ _ _ _ _ _ _ _ _ _ _ _ _ _ _ _ _ _ _ _ _ _ _ _ _ _ _ _ _ _ _ _ _ _ _ _ _ _ _ _ _ _ _ _ _ _ _ _ _ _ _ _ _ _ _ _ _ _ _ _ _ _
def aeE:T8=.seq (aT T8) (.seq (aT U8) (.seq (aT (aG U8)) (.seq (aT V8) (.seq (aT W8) (.seq (aT (aG W8)) (.seq (aT (aG (aG W8))) Y8)))))):=by kernel_rfl
def amv{p q:Nat}(ai:bq w B b pv bv tv)(hB:B<=w.heap.size)(hm:nB w)(hp:p<256)(hq:q<256):
 c8.wp lp (vr 6) ⟨t8 (η #[ξ κ b.ab,pv,bv,tv]) p q,[b6]⟩ w:=by
 letI:=iz
 obtain⟨PA,np,pc,rfl,-⟩:=ai.pieces.Φ;obtain⟨TA,nt,tc,rfl,-⟩:=ai.aM.Φ;obtain⟨A,m,c,rfl,e2,-,-,r2⟩:=ai.aF.Φ;rw[afu];refine amo ai hB hp hq _ λh0 V x i k g9 g nk kc ll lc N n zr KA LA hx hk z8 Mr yj hn qT K=>?_
 intro cT cU cV cW cX cY cZ da dN dO dP dQ dR dS dT dU dV dW dX dY dZ ea ed ee ef eh ei en eo ep er eu ew ey ez eA eB eC eD eE eF eG eH eI eJ eK eL eM eN eO eP eQ eR eS eT eU eV eW eX eY eZ fa fc fe ff fg fh dA dB dC dD dE dF dG dH dI dJ dK dL dM;have Gy:= ϡ hx;have JD:∀s∈x.aU,0<=s.lo/\s.lo<=s.hi/\s.hi<=(N:Int) - 1:=λs hs=>by
  have:=amr h0 Gy s hs;rwa[z8] at this
 have MS:nk<=1000:=by
  obtain⟨_,_,_,e,hl,-⟩:=K.aU.Φ;cases e;have:=((oc h0).bm x Gy).aU;omega
 have BS:ll=(ia x).length:=by
  obtain⟨_,_,_,e,hl,-⟩:=K.clear.Φ;cases e;exact hl.symm
 have dk:x.name.size<=ϕ:=by
  obtain⟨ad,y,cs,-,-,hy,⟨kv,-,h,-⟩,-,-⟩:=r2 i (by rw[<-e2];exact(ϩ.1 hx).1)
  rw[hx] at hy;cases hy;exact h
 have MO:yM (ia x) ll=zr:=by
  rw[BS,qT];exact an9 λs hs=>(JD s hs).2.1
 have yo:ve (ia x) ll+qV x N=N:=by
  have:=aiA x;rw[show x.aw.toNat=N by omega] at this
  rw[BS];exact this
 have nV:0<=n:=by rw[hn];exact(Cj x k).1
 have sa:n<=N:=by
  have:=Ts x k;rw[hn];omega
 rw[aeE];refine amu K.zI K.aU K.yL K.row JD yj MS _ (λW hW R8=>?_) _ _ _ _ _ _ _ _ _ _ _ _ _ _ _ _ _ _ _ _ _ _ _ _ _ _ _ _ _ _ _ _ _ _ _ _ _ _ _ _ _ _ _ _ _ _ _ _ _ _ _ _ _ _ _ _ _ _ _ _ _ _ _ _ _ _ _ _ _ _ _ _ _ _ _ _ _ _ _ _
 intro fB fC cT cU cV cW cX cY cZ da dN dO dP dQ dR dS dT dU dV dW dX dY dZ ea ed ee ef eh ei en eo ep er eu ew ey ez eA eB eC eD eE eF eG eH eI eJ eK eL eM eN eO eP eQ eR eS eT eU eV eW eX eY eZ fa fc fe ff fg fh dA dB dC dD dE dF dG dH dI dJ dK dL dM fX fY fZ ga gd gh gv gw gx gy gC gD gF gG gH gI gJ gK gL gM gN gO gP gQ gR gS;have yp:=R8.lt;have alb:Δ g V W:=Δ.aN hW (ϊ _);have sL:=K.zI.below hW K.yL;refine amn sL z8 Mr yj (K.clear.still alb λ_ _ h=>h) R8 K.yL _ (λW2 kU=>?_) _ _ _ _ _ _ _ _ _ _ _ _ _ _ _ _ _ _ _ _ _ _ _ _ _ _ _ _ _ _ _ _ _ _ _ _ _ _ _ _ _ _ _ _ _ _ _ _ _ _ _ _ _ _ _ _ _ _ _ _ _ _ _ _ _ _ _ _ _ _ _ _ _ _ _ _ _ _ _ _ _ _ _ _ _ _ _ _ _ _ _ _ _ _ _ _ _ _ _ _ _ _ _ _ _ _ _ _
 intro fB fC ni iD cT cU cV cW cX cY cZ da dN dO dP dQ dR dS dT dU dV dW dX dY dZ ea ed ee ef eh ei en eo ep er eu ew ey ez eA eB eC eD eE eF eG eH eI eJ eK eL eM eN eO eP eQ eR eS eT eU eV eW eX eY eZ fa fc fe ff fg fh dA dB dC dD dE dF dG dH dI dJ dK dL dM fX fY fZ ga gd gh gv gw gx gy gC gD gF gG gH gI gJ gK gL gM gN gO gP gQ gR gS iF iG iH iI iJ iK iL iM iN iO iP iQ iR iS iT iU iV iW iX iY iZ jd je jf jg jh jj jl jm jo jq jr ju jv jw kz jE jF jG jH jI jJ jK jL jM jN jO jP jQ jR jS jT jU jV jW jX jY jZ k7 kA kB kC kD kE kF kG kH kI kJ kK kL kM kN kO kP mN lu lx ly lz lA lB lC lD lF lG lH lI lJ lK lL lM lN lO lP lQ lR lS lT lU lV lX lY lZ l8 ma me mf mg mh mi ml mm mn mo mq mr mw my mz mA mB;have ajB:=sL.below kU (by have:=K.yL;omega)
 have dq:=R8.below kU yp;refine aml ajB z8 yj dq K.yL (abF ll).1 yo _ (λnq=>?_) _ _ _ _ _ _ _ _ _ _ _ _ _ _ _ _ _ _ _ _ _ _ _ _ _ _ _ _ _ _ _ _ _ _ _ _ _ _ _ _ _ _ _ _ _ _ _ _ _ _ _ _ _ _ _ _ _ _ _ _ _ _ _ _ _ _ _ _ _ _ _ _ _ _ _ _ _ _ _ _ _ _ _ _ _ _ _ _ _ _ _ _ _ _ _ _ _ _ _ _ _ _ _ _ _ _ _ _ _ _ _ _ _ _ _ _ _ _ _ _ _ _ _ _ _ _ _ _ _ _ _ _ _ _ _ _ _ _ _ _ _ _ _ _ _ _ _ _ _ _ _ _ _ _ _ _ _ _ _ _ _ _ _ _ _ _ _ _ _ _ _ _ _ _ _ _ _ _ _ _ _ _ _ _ _ _ _ _ _ _ _ _ _ _ _ _ _ _ _ _ _ _ _ _ _ _ _ _ _ _ _ _ _ _ _ _ _ _ _ _ _ _ _ _ _ _ _ _ _ _ _ _
 intro fB fC ni iD qK cT cU cV cW cX cY cZ da dN dO dP dQ dR dS dT dU dV dW dX dY dZ ea ed ee ef eh ei en eo ep er eu ew ey ez eA eB eC eD eE eF eG eH eI eJ eK eL eM eN eO eP eQ eR eS eT eU eV eW eX eY eZ fa fc fe ff fg fh dA dB dC dD dE dF dG dH dI dJ dK dL dM fX fY fZ ga gd gh gv gw gx gy gC gD gF gG gH gI gJ gK gL gM gN gO gP gQ gR gS iF iG iH iI iJ iK iL iM iN iO iP iQ iR iS iT iU iV iW iX iY iZ jd je jf jg jh jj jl jm jo jq jr ju jv jw kz jE jF jG jH jI jJ jK jL jM jN jO jP jQ jR jS jT jU jV jW jX jY jZ k7 kA kB kC kD kE kF kG kH kI kJ kK kL kM kN kO kP mN lu lx ly lz lA lB lC lD lF lG lH lI lJ lK lL lM lN lO lP lQ lR lS lT lU lV lX lY lZ l8 ma me mf mg mh mi ml mm mn mo mq mr mw my mz mA mB uc ud ue uf ug uh ui uj uk um uo uq;rw[MO];have uO:Below g V (W2.drewN nq):=oU (hW.trans (kU.mono (by omega))) nq
 have bu:=kU.size;exact amm h0 hx (by omega) (by omega) z8 Mr yj hn nV sa (K.IF.below uO (by have:=K.lt3;have:=K.yL;omega)) (K.zI.below uO K.yL) (K.aU.still (Δ.aN uO (ϊ _)) λ_ _ h=>h) (show g<W2.heap.size by omega) dk
  (hm.below (K.bel.trans (uO.mono (by have:=K.lt3;have:=K.yL;omega))) hm.lt) _ _ _ _ _ _ _ _ _ _ _ _ _ _ _ _ _ _ _ _ _ _ _ _ _ _ _ _ _ _ _ _ _ _ _ _ _ _ _ _ _ _ _ _ _ _ _ _ _ _ _ _ _ _ _ _ _ _ _ _ _ _ _ _ _ _ _ _ _ _ _ _ _ _ _ _ _ _ _ _ _ _ _ _ _ _ _ _ _ _ _ _ _ _ _ _ _ _ _ _ _ _ _ _ _ _ _ _ _ _ _ _ _ _ _ _ _ _ _ _ _ _ _ _ _ _ _ _ _ _ _ _ _ _ _ _ _ _ _ _ _ _ _ _ _ _ _ _ _ _ _ _ _ _ _ _ _ _ _ _ _ _ _ _ _ _ _ _ _ _ _ _ _ _ _ _ _ _ _ _ _ _ _ _ _ _ _ _ _ _ _ _ _ _ _ _ _ _ _ _ _ _ _ _ _ _ _ _ _ _ _ _ _ _ _ _ _ _ _ _ _ _ _ _ _ _ _ _ _ _ _ _ _ _ _ _ _ _ _ _ _ _ _ _ _
end Go.Jn
namespace Go.Jn
open Go Go.Proofs Go.Sim Go.Tw Go.Conc Go.ChangeShapes Go.WideShapes Go.ChangeAt Go.RowKit
open YtfifdjajcogccaaGreatDoor
def afs:Tryz.f8.body=φ c8:=by
 unfold c8;rfl
def aft:cy ϋ G0 c8=θ:=by decide+kernel
def asn(v:υ)(p q:Nat):t8 v p q=#[v,.int .u8 p,.int .u8 q]++ϱ 327 ω:=by kernel_rfl
def amq(Ef:Iz)(os:Os)(started:os.Started)(H:Type)(enc:TypeId×υ->H):
 ReturnsInLeavingWide {} Tryz.checked os 8 .any (λw args=>(Rows.mouldKnotsSpec.pre enc ϋ Tryz.f8 [] χ w args/\laidMetH ϋ Ki w)/\sizedMet enc ϋ Tryz.f8 (OpenSpec.ofChange Rows.mouldKnotsSpec) χ w args)
  (Rows.mouldKnotsSpec.post enc ϋ Tryz.f8 χ θ χ χ):=by
 refine amW (C:=Tryz.checked) (X:=λw _=>laidMetH ϋ Ki w) (λ_ _ _ hh h=>laidMetH.of_heap hh h) apy started Tryz.func8
  (ChangeSpec.witness_shaped (enc:=enc) (C:=Tryz.checked) (os:=os) (X:=λw _=>laidMetH ϋ Ki w) χ (World.doorLaid ϋ 600 os) #[η #[ξ κ 0,ζ ν 0 0,ζ ν 0 0,ζ ν 0 0],.int .u8 0,.int .u8 0] 8 rfl (arA os _) (by kernel_rfl) (by kernel_rfl) (by kernel_rfl) (agT os _)) ?_
 intro W base args ds gs before Z5 hW hS hL;have Gs:∀(j:Nat) t v,Tryz.f8.params[j]?=φ t->args[j]?=φ v->Value.okWide ϋ W .any base t v:=Z5
 have Rk:=hW;obtain⟨p,q,Yj,hV,rfl,YO,tL⟩:=hW;have hA:DataW.TrodAll enc ϋ W 0 (λ_=>θ) θ Tryz.f8.params.toList args.toList ds p:=Yj
 rw[Tryz.params8] at hA Gs;obtain⟨v0,v1,v2,d0,d1,d2,p0,p1,p2,rfl,rfl,rfl,h0,h1,h2⟩:=trodAll_three hA;obtain⟨rfl,rfl⟩:=trodVars_none hV;obtain⟨x,rfl,rfl,rfl,wx⟩:=open_int Tryz.underlying5 (Gs 1 5 v1 rfl rfl) h1;obtain⟨z,rfl,rfl,rfl,wz⟩:=open_int Tryz.underlying5 (Gs 2 5 v2 rfl rfl) h2;have SS:=Gs 0 26 v0 rfl rfl;unfold Value.okWide at SS;rw[Tryz.underlying26] at SS;obtain⟨cs,rfl,_,_⟩:=SS;have h0k:=h0;obtain⟨fuel,hf⟩:=h0;obtain⟨b,pv,bv,tv,mR,ai⟩:=afj (enc:=enc) (W:=W) hf;have ajV:cs=#[ξ κ b.ab,pv,bv,tv]:=by
  have:cs.toList=_:=mR;rw[<-Array.toList_inj,this]
 subst ajV;clear Yj Z5;simp only[List.append_nil] at Rk;have aj:∀y∈p0,y.block<W.heap.size:=λy hy=>Rk.lt y (by simpa using hy)
 have hm:=an1 hS hL;obtain⟨hM,h00⟩:=aiw hm;obtain⟨hB,q1,q2,q3⟩:=ais ai;obtain⟨xn,rfl,hx⟩:∃m:Nat,x=m/\m<256:=by
  simp[Lit.wf,IntKind.min,IntKind.max,IntKind.signed,IntKind.bits] at wx;exact⟨x.toNat,by omega,by omega⟩
 obtain⟨zn,rfl,hz⟩:∃m:Nat,z=m/\m<256:=by
  simp[Lit.wf,IntKind.min,IntKind.max,IntKind.signed,IntKind.bits] at wz;exact⟨z.toNat,by omega,by omega⟩
 obtain⟨M,last,o,w',t',r1,r2,r3,r4⟩:=amO Ef (f:=8) (r:=6) (fn:=Tryz.f8) (c:=c8) Tryz.func8 afs aft rfl (by omega) (ρ:=yH W) (wl:=tE W) (W:=W) (args:=#[η #[ξ κ b.ab,pv,bv,tv],.int .u8 xn,.int .u8 zn]) (tl:=t8 (η #[ξ κ b.ab,pv,bv,tv]) xn zn)
  (λT=>amv (w:=bh (tE W) T) (B:=W.heap.size) ⟨hB.pieces,hB.aF,hB.aM⟩ (Nat.le_of_eq XS.symm) hM hx hz) (aiu C1) h00 aix (by rw[asn];exact(aqb (ap7 q1 q2 q3) (.int _ _) (.int _ _)).append (aqc _ 327)) aiv hm
 refine⟨M,last,o,w',t',r1,r2,r3,Conc.Good.mono r4 λv hF=>?_⟩
 obtain⟨rfl,hb⟩:=hF;refine⟨_,_,_,[],p0++([]++ []),[],Rk,?_,?_,rfl,hb.frame _,λh=>by cases h⟩
 ·exact trodAll_mk1 (shut_bool Tryz.underlying4 _)
 ·exact trodAll_mk3 (Below.trod amL (by kernel_rfl) (of_decide_eq_true (by kernel_rfl)) h0k hb aj) (shut_int Tryz.underlying5 wx) (shut_int Tryz.underlying5 wz)
end Go.Jn
namespace Go.Jn
open Go Go.Proofs
open YtfifdjajcogccaaGreatDoor
def asv(Lk:Looks){p:Pinned}{s:OpenSpec}{c:OpenClaim}(kinds:List LaidKind)(UI:Bool)(DM:Bool×String)(lk:Bool)
 (hc:c.holds p s)(hw:c.wfByText s=θ)(alj:c.laidByTextAt Lk p kinds UI)(aW:c.start=.entering)(nJ:c.noBlocks=χ/\c.again=χ)(hm:p.checked.prog.mainIs=φ (DM.1,DM.2.toList))(hn:(!DM.1 && DM.2.isEmpty && !lk)=χ)
 (hl:∀f fn,p.checked.prog.funcNamed c.func=φ f->p.checked.prog.funcs[f]?=φ fn->lk=p.checked.prog.looks []/\∀(j:Nat) t,fn.params[j]?=φ t->p.checked.prog.wantsStandIn t=χ)
 (hg:θ=c.goesBy p.checked.prog):
 Claim7.holds p (.plain s) {stood:={row:=c,standIns:=[],harness:=DM,looks:=lk},kinds:=[],alts:=[],goes:=θ,laidByText:=θ,laidKinds:=kinds,laidTests:=UI,laidLooks:=Lk}:=by
 have h6:Claim7.isSixth {stood:={row:=c,standIns:=[],harness:=DM,looks:=lk},kinds:=[]}=χ:=by simpa [Claim7.isSixth] using hn
 exact⟨Claim7.tied_new_at Lk kinds UI (Claim7.new_of_sixth hc DM lk aW nJ hm h6 hl) hw,(λD hD=>by cases hD),alj,(λh=>by cases h),hg⟩
def ari:ϋ.laidByTextLater Rows.mouldLeastRow.laid [.funcs] θ:=
 Program.laidByTextLater_by_one 16 8 2 (by kernel_rfl) (by kernel_rfl) (by kernel_rfl) (by kernel_rfl) (by kernel_rfl) (by kernel_rfl) (λ_ _=>by kernel_rfl)
def apE:Tryz.pinned.checked.prog.headLifts.contains "ownunsafe" =χ:=by kernel_rfl
def anW:Tryz.pinned.checked.prog.mainIs=φ (θ,"8b4c60804a89a2dc1775d2d899c432f4b3d9a7cd22d2b16114beb87ecc832d7f".toList):=by kernel_rfl
def ao1:χ=Tryz.pinned.checked.prog.looks []:=by kernel_rfl
end Go.Jn
namespace Go.Jn
open Go Go.Proofs Go.Sim Go.Conc Go.Tw
def aql(w:Ψ)(cN cL:Nat):Sim.ay:=⟨λq=>q<w.heap.size/\q≠cN/\q≠cL,λ_=>False⟩
def arW{w1:Ψ}{lb bk p6 p7:Nat}{t1:Array υ}{M:Sim.ay}(hP:PQ b ρ wl pv bv tv B lb bk n NB wB w1)(h4:R4 t1 (allM w1) w1 cN cL p6 p7 t M w2):
 ∃gZ U6 l6 l7,St b gZ U6 pv bv tv B lb l6 l7 bk p6 p7 cN cL n NB wB (aql w2 cN cL) w2/\(∀a q,gZ a q->q<max p6 p7+1)/\NB<=max p6 p7+1:=by
 obtain⟨core,nU,nbh,fixed,rb,hB,book,c0,c1,c2,c3,⟨bc,e,fb,A,c,ag,ak⟩,old,nJ⟩:=hP;have kept:∀q,q<w1.heap.size->w2.heap[q]?=w1.heap[q]?:=λq hq=>h4.kept q (.inl hq)
 have agB:=zJ core h4.size λa q hq=>kept q (core.du a q hq)
 have jk:∀(σ:Ren) (c:Nat),aV σ #[μ #[]] #[.chan (φ c)]:=λσ c=>⟨rfl,λj h1 h2=>by
  have:j=0:=by simp at h1;omega
  subst this;exact .junk rfl (by simp) (by simp)⟩
 have fJ:=Bl (o:=.cells #[μ #[]] 154 (0,1)) agB h4.vn.2.2.2 (λa ha=>by have:=core.du a _ ha;have:=h4.vn.2.2.1;omega) (.cells 154 (jk _ _) (.inr ⟨rfl,by simp⟩))
 have kU:=Bl (o:=.cells #[μ #[]] 155 (0,1)) fJ h4.vl.2.2.2 (λa ha=>by
  rcases ha with ha| ⟨_,e⟩
  ·have:=core.du a _ ha;have:=h4.vl.2.2.1;omega
  ·exact h4.np e.symm) (.cells 155 (jk _ _) (.inr ⟨rfl,by simp⟩))
 have st1:=(Δ.refl wl).alloc hB (Ξ #[μ #[]] 154 (0,1));have uJ:B<=(wl.alloc (Ξ #[μ #[]] 154 (0,1))).heap.size:=by rw[kS];exact Nat.le_succ_of_le hB
 have tf:=st1.alloc uJ (Ξ #[μ #[]] 155 (0,1));have cl:∀ {j:Nat} {v:υ},wl.cell? ⟨lb,j,ν⟩=φ v->((wl.alloc (Ξ #[μ #[]] 154 (0,1))).alloc (Ξ #[μ #[]] 155 (0,1))).cell? ⟨lb,j,ν⟩=φ v:=λhv=>
  (World.cell?_alloc_lt _ _ ⟨lb,_,ν⟩ (by show lb<_;rw[kS];have:=core.fx _ _ rb;omega)).trans ((World.cell?_alloc_lt wl _ _ (core.fx _ _ rb)).trans hv)
 have Tx:∀ {q:Nat},q<w1.heap.size->q<w2.heap.size/\q≠cN/\q≠cL:=λ{q} hq=>⟨ϟ hq h4.size,by have:=h4.n.2.2.1;omega,by have:=h4.l.2.2.1;omega⟩
 have lt6:p6<w2.heap.size/\p6≠cN/\p6≠cL:=⟨h4.low _ (.inl h4.vn.2.1),(by rintro rfl;have:=h4.vn.2.2.2;rw[h4.n.2.2.2] at this;cases this),(by rintro rfl;have:=h4.vn.2.2.2;rw[h4.l.2.2.2] at this;cases this)⟩
 have lt7:p7<w2.heap.size/\p7≠cN/\p7≠cL:=⟨h4.low _ (.inl h4.vl.2.1),(by rintro rfl;have:=h4.vl.2.2.2;rw[h4.n.2.2.2] at this;cases this),(by rintro rfl;have:=h4.vl.2.2.2;rw[h4.l.2.2.2] at this;cases this)⟩
 refine⟨_,_,_,_,⟨⟨kU,.inl (.inl nU),bN.push (bN.push nbh (o:=.cells #[μ #[]] 154 (0,1)) (λh=>h)) (o:=.cells #[μ #[]] 155 (0,1)) (λh=>h),?_,?_,.inl (.inl rb),.inl (.inr ⟨rfl,rfl⟩),.inr ⟨rfl,rfl⟩,by rw[kS];exact Nat.le_succ_of_le uJ,book.still tf,cl c0,cl c1,cl c2,cl c3⟩,?_,.inl lt6,.inl lt7,.inl (Tx (core.du _ _ rb)),h4.vn.2.2.2,h4.vl.2.2.2,
  ⟨bc,e,fb,A,c,(kept _ (core.du _ _ rb)).trans ag,ak⟩,λq hq=>⟨.inl (Tx (by omega)),(kept q (by omega)).trans (old q hq)⟩,ϣ nJ h4.size,⟨?_,?_⟩,⟨h4.low _ (.inl h4.n.2.1),h4.low _ (.inl h4.l.2.1)⟩⟩,?_,by have:=h4.vn.2.2.1;omega⟩
 ·rintro a q ((ha| ⟨_,rfl⟩) | ⟨_,rfl⟩)
  ·exact .inl (Tx (core.du _ _ ha))
  ·exact .inl lt6
  ·exact .inl lt7
 ·rintro a q ((ha| ⟨rfl,_⟩) | ⟨rfl,_⟩)
  ·obtain⟨o,k1,k2⟩:=fixed a q ha
   have:=core.fx _ _ ha;exact⟨o,(qO (by rw[kS];omega)).trans ((qO this).trans k1),k2⟩
  ·exact⟨_,(qO (by rw[kS];omega)).trans qa,⟨rfl,by simp⟩⟩
  ·exact⟨_,qa,⟨rfl,by simp⟩⟩
 ·rintro q (hq|hq)
  ·exact hq.1
  ·exact hq.elim
 ·rintro(hq|hq)
  ·exact hq.2.1 rfl
  ·exact hq
 ·rintro(hq|hq)
  ·exact hq.2.2 rfl
  ·exact hq
 ·rintro a q ((ha| ⟨_,rfl⟩) | ⟨_,rfl⟩)
  ·have:=core.du _ _ ha;have:=h4.vn.2.2.1;omega
  ·omega
  ·omega
section
variable {b:an}{ρ:Ren}{wl wB:Ψ}{pv bv tv:υ}{B lb l6 l7 bk p6 p7 cN cL n N0 NB NR:Nat}{cR:Nat->Bool}{cs:List Frame}
def hears(hr:∀a q,ρ a q->q<NR)(hN:NB<=NR)(hn:n<=1000)(t:Array υ)(M:Sim.ay)(w:Ψ)(hs:pZ bk p6 p7 t)(hS:(St b ρ wl pv bv tv B lb l6 l7 bk p6 p7 cN cL n NB wB) M w)(Jc:NR<=w.heap.size):
 Walk ϋ θ (tB (Pm.mk ϋ n N0 cL cN cR xF (C5 NR NB wB cs)) n []) M (rg 38 t [.code (.seq (.region 11 GL χ) Aw)] [] .normal cs) w:=by
 refine mM (nS ?_)
 rw[s11];obtain⟨o,ho,ae,hd,hg⟩:=anv;refine fw (v:=ζ ν 0 0) ho (cg hg) rfl (λaa _=>⟨_,run_assign t aa ae,ig⟩) ?_
 rw[hd];have h9:(aA t (φ 9) (ζ ν 0 0))[9]?=φ (ζ ν 0 0):=jB (by rw[hs.sz];omega)
 have dn:pZ bk p6 p7 (aA t (φ 9) (ζ ν 0 0)):=hs.put ⟨by omega,by omega,by omega⟩
 revert h9 dn
 generalize aA t (φ 9) (ζ ν 0 0)=t1;intro h9 dn;refine oP ?_
 rw[aqi];refine mM (mM (nS ?_))
 rw[s12];obtain⟨o,ho,ae,hd,hg⟩:=anw;obtain⟨dir,hu⟩:=GY;refine fw (v:=.chan (φ cN)) ho (cg hg) rfl (λaa hk=>⟨_,Cz _ aa ae (cK dn.t6) hu rfl (rV ((hk.kept _ hS.m6).trans hS.h6) rfl rfl),Cw hS.m6 _ rfl⟩) ?_
 rw[hd];refine oP (G3 (U2 ?_))
 refine recvs hr hN hn n [] _ M w (by simp) (by simp[aA,dn.sz]) (jB (by rw[dn.sz];omega)) ⟨⟨ζ ν 0 0,(bO (by omega)).trans h9,⟨rfl,.inl ⟨rfl,rfl⟩⟩,λg k c e=>by cases e⟩,Jc,λ_=>(bO (by omega)).trans h9⟩ hS
def arY(B0:∀i,cR i=(search b (cw (aH b)) (λk=>decide (k=i)) b.pieces.length []).isNone)(ae:cG b 0=0)(hr:∀a q,ρ a q->q<NR)(hN:NB<=NR)(hn:n<=1000)(t:Array υ)(M:Sim.ay)(w:Ψ)(hs:pZ bk p6 p7 t)(hS:(St b ρ wl pv bv tv B lb l6 l7 bk p6 p7 cN cL n NB wB) M w)(Jc:NR<=w.heap.size)
 (Jb:∀M w,(St b ρ wl pv bv tv B lb l6 l7 bk p6 p7 cN cL n NB wB) M w->NR<=w.heap.size):
 Walk ϋ θ (StopA (Pm.mk ϋ n N0 cL cN cR xF (C5 NR NB wB cs)) n) M (rg 38 t [.code tW] [] .normal cs) w:=by
 rw[aqk];refine mM (mM (nS ?_))
 rw[s5];obtain⟨bc,e,fb,A,c,ag,ak⟩:=hS.hb;obtain⟨o,ho,bJ,hd,hg⟩:=m50;obtain⟨fs,fd,fi,hu,hf,Sw,hi,aL⟩:=acL;refine fw ho (cg hg) rfl (λaa _=>⟨_,abI t aa bJ (cK hs.t1) hu hf hi aL,ig⟩) ?_
 rw[hd,Sw];have dn:pZ bk p6 p7 (aA t (φ 21) (π (φ ((⟨bk,0,ν⟩:Addr).add 2)))):=hs.put ⟨by omega,by omega,by omega⟩
 have yh:(aA t (φ 21) (π (φ ((⟨bk,0,ν⟩:Addr).add 2)))).getD 21 ω=π (φ ((⟨bk,0,ν⟩:Addr).add 2)):=oA (by rw[hs.sz];omega)
 revert dn yh
 generalize aA t (φ 21) (π (φ ((⟨bk,0,ν⟩:Addr).add 2)))=t1;intro dn yh;obtain⟨o,ho,bJ,hd,hg⟩:=m51;obtain⟨e23,JY⟩:=acK;refine fw ho (cg hg) rfl (λaa hk=>⟨_,Cz _ aa bJ yh JY rfl (rV ((hk.kept _ hS.mb).trans ag) rfl ak),Cw hS.mb _ rfl⟩) ?_
 rw[hd];have fA:pZ bk p6 p7 (aA t1 (φ 22) (.slice A n c)):=dn.put ⟨by omega,by omega,by omega⟩
 have Q0:(aA t1 (φ 22) (.slice A n c)).getD 22 ω=.slice A n c:=oA (by rw[dn.sz];omega)
 revert fA Q0
 generalize aA t1 (φ 22) (.slice A n c)=t2;intro fA Q0;obtain⟨o,ho,bJ,hd,hg⟩:=m52;refine fw ho (cg hg) rfl (λaa _=>⟨_,abK _ aa bJ Q0 JY,ig⟩) ?_
 rw[hd];have nY:pZ bk p6 p7 (aA t2 (φ 23) (goInt n)):=fA.put ⟨by omega,by omega,by omega⟩
 have DC:(aA t2 (φ 23) (goInt n))[23]?=φ (ξ κ n):=jB (by rw[fA.sz];omega)
 revert nY DC
 generalize aA t2 (φ 23) (goInt n)=t3;intro nY DC;obtain⟨o,ho,bJ,hd,hg⟩:=m53;refine fw (v:=ξ κ 0) ho (cg hg) rfl (λaa _=>⟨_,run_move _ aa bJ,ig⟩) ?_
 rw[hd];refine oP (G3 (U2 ?_))
 refine spawns B0 ae (by omega) (λt M w hs hS=>hears hr hN hn t M w hs hS (Jb M w hS)) n _ M w (ϊ _) (nY.put ⟨by omega,by omega,by omega⟩) ((bO (by omega)).trans DC) ((jB (by rw[nY.sz];omega)).trans (by simp)) hS
end
def results2(hr:fn.results=#[.tmp 2,.tmp 3])(t:Array υ)(w:Ψ):(results fn t).runT P w #[]=(.ok (μ #[t.getD 2 ω,t.getD 3 ω]) w,#[]):=by
 have e:results fn t=Sem.pure (μ #[t.getD 2 ω,t.getD 3 ω]):=by
  unfold results;rw[hr];simp only[Array.mapM_eq_mapM_toList,List.mapM_cons,List.mapM_nil];rfl
 rw[e];rfl
def atp{Stop:Sim.ay->ϐ->Ψ->Prop}{M:Sim.ay}{f:FuncId}{k:List Item}{cs:List Frame}(hf:P.funcs[f]?=φ fn)(hr:fn.results=#[.tmp 2,.tmp 3])
 (h:Walk P main Stop M (aR (fr.finish (μ #[t.getD 2 ω,t.getD 3 ω])) cs) w):Walk P main Stop M (aR ⟨f,t,k,[],.returning,.normal,ν⟩ (fr::cs)) w:=
 qY rfl (λaa=>by
  have e:unwind P main ⟨f,t,k,[],.returning,.normal,ν⟩ (fr::cs) ν aa=.go (aR (fr.finish (μ #[t.getD 2 ω,t.getD 3 ω])) cs) aa #[]:=by
   unfold unwind;simp only[hf,results2 hr,Az,GStep.after,doReturn];rfl
  exact e) h
def amZ(hW:bX C0 σ wl w)(hr:∀a q,σ a q->q<NR)(hn:bN wl.heap)(ho:w.ownsRow NR 3 1 ov n (zs.map (ξ κ))):
 ∃(bP:Ren) (nh:Ψ) (ol:υ),bX C0 bP nh w/\σ.le bP/\(∀a p,bP a p->σ a p\/(wl.heap.size<=a/\NR<=p))/\ah bP ol ov/\nh.ownsRow wl.heap.size 3 1 ol n (zs.map (ξ κ))/\
  (∀(a:Nat) (o:Obj),wl.heap[a]?=φ o->nh.heap[a]?=φ o)/\wl.heap.size<=nh.heap.size/\bN nh.heap:=by
 rcases ho.2 with⟨rfl,h0⟩ | ⟨g,cap,cur,rfl,zV,hg,gY,rZ,mR,yE⟩
 ·exact⟨σ,wl,ζ ν 0 0,hW,σ.le_refl,λa p h=>.inl h,.sliceNone 0 0,⟨ho.1,.inl ⟨rfl,h0⟩⟩,λ_ _ h=>h,ϊ _,hn⟩
 ·obtain⟨u,hu,J0⟩:=Ua (ext σ wl.heap.size g) cur n zs yE
  have kU:=Bl (o:=.cells u 3) hW hg (λa ha=>by have:=hr a g ha;omega) (.cells 3 hu (.inl rfl))
  refine⟨_,_,ζ (φ ⟨wl.heap.size,0,ν⟩) n cap,kU,Dp _ _ _,?_,.slice _ _ ⟨.inr ⟨rfl,rfl⟩,rfl,rfl⟩,⟨ho.1,.inr ⟨_,cap,u,rfl,ϊ _,qa,gY,rZ,hu.1.trans mR,J0⟩⟩,
   λa o ha=>(qO (Ϝ.1 ha).1).trans ha,by rw[kS];omega,bN.push hn (o:=.cells u 3) (λh=>h)⟩
  rintro a p (ha| ⟨rfl,rfl⟩)
  ·exact .inl ha
  ·exact .inr ⟨ϊ _,zV⟩
def Pe(NB:Nat)(wB:Ψ)(fr:Frame)(cs:List Frame)(zs:List Int)(_:Sim.ay)(g:ϐ)(w:Ψ):Prop:=
 ∃ov,g=aR (fr.finish (μ #[ov,ξ κ 0])) cs/\w.ownsRow NB 3 1 ov zs.length (zs.map (ξ κ))/\(∀q,q<NB->w.heap[q]?=wB.heap[q]?)/\NB<=w.heap.size
def aca(zs:List Int):(mV zs).length=zs.length:=by simp[mV]
def aii{cs:List Frame}{M:Sim.ay}{g:ϐ}(hE:C5 NR NB wB (fr::cs) aB M g w)(hN:NB<=NR)(hW:bX C0 σ wl wB)(zR:NB=wB.heap.size)(ry:σ 0 0)(r8:∀a q,σ a q->∃o,wl.heap[a]?=φ o/\rM o)(nJ:bN wl.heap)(hg:aB.length<=1000):
 Walk ϋ θ (Pe NB wB fr cs (mV (ints aB))) (allM w) g w:=by
 letI:=pa
 obtain⟨t,z,rfl,hs,FT,⟨⟨ov,h9,aK,_⟩,Jc,Zz⟩,hold,Zv⟩:=hE;have M5:∀a q,σ a q->q<NB:=λa q h=>by rw[zR];exact hW.du a q h
 obtain⟨o,ho,ae,hd,nI⟩:=aaV;refine fw (v:=.bool χ) ho (cg nI) rfl (λaa _=>⟨_,KP t aa ae (cK FT) rfl,ig⟩) ?_
 rw[hd];have dn:(aA t (φ 32) (.bool χ)).size=41:=by simp[aA,hs]
 have j9:(aA t (φ 32) (.bool χ))[9]?=φ ov:=(bO (by omega)).trans h9
 have S7:(aA t (φ 32) (.bool χ)).getD 32 ω=.bool χ:=oA (by omega)
 revert dn j9 S7
 generalize aA t (φ 32) (.bool χ)=t1;intro dn j9 S7;refine oP ?_
 rw[VY];refine mM (G4 (q:=χ) S7 (UZ (k':=[.code yO]) rfl ?_))
 rw[aqj];refine mM ?_
 have fJ:bX C0 σ wl w:=zJ hW (by rw[<-zR];exact Zv) λa q hq=>hold q (M5 a q hq)
 obtain⟨bP,nh,ol,kU,hle,hinv,hv,se,akQ,alf,Sk⟩:=amZ fJ (λa q h=>ϟ (M5 a q h) hN) nJ aK
 obtain⟨u0,Ek⟩:=QN bP t1;have SP:=KG Ek hv j9;have hus:(u0.setIfInBounds 9 ol).size=41:=by rw[ü,Ek.1,dn]
 have hu9:(u0.setIfInBounds 9 ol)[9]?=φ ol:=jB (by rw[Ek.1,dn];omega)
 refine piece (S:=⟨.skip,[.code (.seq (.region 17 EJ χ) .ret)],[],fr::cs,.normal⟩) (c:=.region 16 GM χ) (a:=⟨u0.setIfInBounds 9 ol,[b6]⟩) afX rfl rfl (hl:=λT=>arK (w:=bh nh T) (base:=wl.heap.size) (n:=aB.length) (zs:=ints aB) se (by omega) alf hus hu9) kU (hle _ _ ry) (Fs kU) (λq hq=>qN.1 hq) Sk SP ?_
 rintro e bI aa bT aI kh aC ⟨rfl,aL,k9,Ae⟩ bZ fT DV Zo BL sc Z4;refine⟨λ_ _=>?_,λhe=>by cases he⟩
 have ht:kh.size=41:=Z4.1.symm.trans aL;obtain⟨v',hv9,Cf⟩:=NU Z4 k9;have hb:∀a q,wl.heap.size<=a->aI a q->NR<=q:=by
  intro a q ha hq;rcases bZ.new a q hq with hq| ⟨_,hq⟩
  ·rcases hinv a q hq with hq| ⟨_,hq⟩
   ·have:=hW.fx a q hq;omega
   ·exact hq
  ·omega
 have akU:aC.ownsRow NB 3 1 v' (mV (ints aB)).length ((mV (ints aB)).map (ξ κ)):=by
  rw[aca];have BP:(ints aB).length=aB.length:=by simp[ints]
  rw[BP];by_cases h0:aB.length=0
  ·have hz:mV (ints aB)=[]:=ź (by rw[aca,BP,h0])
   have B6:ov=ζ ν 0 0:=by
    have:=Zz (ź h0);rw[h9] at this;exact Ϟ this
   have hol:ol=ζ ν 0 0:=by
    rcases se.2 with⟨e,_⟩ | ⟨g,cap,cur,e,_⟩
    ·exact e
    ·rw[B6,e,h0] at hv;cases hv
   rw[hol] at Cf;cases Cf;rw[hz,h0];exact⟨rfl,.inl ⟨rfl,rfl⟩⟩
  ·exact World.ownsRow.base (abq fT Cf Ae h0 hb).1 hN
 have kept:∀q,q<NB->aC.heap[q]?=wB.heap[q]?:=by
  intro q hq;refine(bZ.oJ q (.inl (show q<w.heap.size by omega)) λa ha=>?_).trans (hold q hq)
  rcases hinv a q ha with ha| ⟨_,hx⟩
  ·obtain⟨o,h1,h2⟩:=r8 a q ha
   exact⟨o,akQ a o h1,h2⟩
  ·omega
 have ale:NB<=aC.heap.size:=ϣ Zv bZ.ng;show Walk ϋ θ (Pe NB wB fr cs (mV (ints aB))) bT (rg 38 kh [.code (.seq (.region 17 EJ χ) .ret)] [] .normal (fr::cs)) aC;have hOv:∀g k c,v'=ζ (φ g) k c->bT.has g.block:=by
  intro g k c e;subst e;cases Cf with
  |slice _ _ ha=>exact(DV _ _ ha.1).imp id (·.1)
  |sliceDead a1 b1=>
   rcases se.2 with⟨e,_⟩ | ⟨g',cap,cur,e,_⟩
   ·cases e
   ·have h0:aB.length=0:=by injection e with e1 e2 e3;exact e2.symm
    have:=Zz (ź h0);rw[h9] at this;rw[Ϟ this] at hv;cases hv
  |junk h _ _=>
   rcases se.2 with⟨e,_⟩ | ⟨g,cap,cur,e,_⟩<;>cases e
 have hMq:∀q,q<NB->bT.has q:=λq hq=>ay.zT bZ.R bZ.O (.inl (show q<w.heap.size by omega))
 ·refine mM (nS ?_)
  rw[s17];obtain⟨o,ho,ae,hd,nI⟩:=anF;have e9:aX kh (.tmp 9)=v':=cK hv9;refine fw (v:=v') ho (cg nI) rfl (λaa _=>⟨_,(run_move kh aa ae).trans (by rw[e9]),ig⟩) ?_
  rw[hd];have QG:aX (aA kh (φ 40) v') (.tmp 40)=v':=oA (by omega)
  have fA:(aA kh (φ 40) v').size=41:=by simp[aA,ht]
  revert QG fA
  generalize aA kh (φ 40) v'=t2;intro QG fA;obtain⟨o,ho,ae,hd,nI⟩:=anG;refine fw (v:=v') ho (cg nI) rfl (λaa _=>⟨_,(run_assign t2 aa ae).trans (by rw[QG]),ig⟩) ?_
  rw[hd];have e2:(aA t2 (φ 2) v')[2]?=φ v':=jB (by omega)
  have nY:(aA t2 (φ 2) v').size=41:=by simp[aA,fA]
  revert e2 nY
  generalize aA t2 (φ 2) v'=t3;intro e2 nY;obtain⟨o,ho,ae,hd,nI⟩:=anH;refine fw (v:=ξ κ 0) ho (cg nI) rfl (λaa _=>⟨_,run_assign t3 aa ae,ig⟩) ?_
  rw[hd];have e3:(aA t3 (φ 3) (ξ κ 0)).getD 3 ω=ξ κ 0:=oA (by omega)
  have Xw:(aA t3 (φ 3) (ξ κ 0)).getD 2 ω=v':=cK ((bO (by omega)).trans e2)
  refine oP (ato (atp Tryz.func38 aqg ?_))
  rw[e3,Xw];refine .stop λao hk=>⟨v',rfl,?_,?_,ϣ ale hk.size⟩
  ·exact TW akU λg k c e=>hk.kept _ (hOv g k c e)
  ·exactλq hq=>(hk.kept q (hMq q hq)).trans (kept q hq)
def apR{M0 M:Sim.ay}{p6 p7:Nat}(h:R4 t0 M0 w0 cN cL p6 p7 t M w)(k:bQ M w aa):R4 t0 M0 w0 cN cL p6 p7 t M aa:=
 ⟨h.n.keep k,h.l.keep k,h.vn.keep k,h.vl.keep k,h.nl,h.np,h.ua,h.same,h.O,h.On,h.R,λb hb=>(k.kept b (hb.imp (h.O b) λx=>by rw[h.R];exact x)).trans (h.kept b hb),ϣ h.size k.size,λb hb=>ϟ (h.low b hb) k.size,k.tape.trans h.tape,k.os.trans h.os,k.e.trans h.e⟩
def GG{l:List Nat}(hd:l.Nodup)(h:∀i∈l,i<n):l.length<=n:=by
 have:=hd.length_le_of_subset (l₂:=Ϯ n) λi hi=>ť.2 (h i hi)
 simpa using this
def Kr(b:an)(i:Nat):Bool:=(search b (cw (aH b)) (λk=>decide (k=i)) b.pieces.length []).isNone
def ED(b:an):List Nat:=(Ϯ b.aF.length).filter (Kr b)
def aoR(hb:OY b σ wl pv bv tv B arg w)(ae:cG b 0=0){cs:List Frame}
 {gs:Array ϐ}{t:Trace}{q:Nat->Nat}(hF:Fr ϋ gs w t q (aR (Frame.enter ϋ 38 #[arg] .normal) (fr::cs)))(sl:Option (Nat×Nat)):
 ∃N aY w' bz t' q' g' aB M',runNT ϋ N (crowd gs w sl) t=(.next (crowd aY w' bz),t')/\Fr ϋ aY w' t' q' g'/\Pe w.heap.size w fr cs (mV (ints aB)) M' g' w'/\aB.Nodup/\(∀i,i∈aB↔i<b.aF.length/\Kr b i=θ)/\Base w w':=by
 have he:Frame.enter ϋ 38 #[arg] .normal=⟨38,#[arg]++ϱ 40 ω,[.code (.seq (.region 0 p0 χ) (.seq wM (.seq (.region 4 o8 θ) tW)))],[],.run,.normal,ν⟩:=
  FH Tryz.func38 Ws #[arg] .normal
 rw[he] at hF;have sc:b.aF.length<=3:=by letI:=pa;exact(oc (vU ae).1).nb
 obtain⟨N1,Yf,M1,g1,w1,Uq,t1,q1,r1,z1,⟨⟨T,bk,lb,cz,rJ,rfl,hT,DK,hP⟩,uJ⟩,qi⟩:=IE (K7 (stA (cs:=fr::cs) hb ae) (LL w)) gs sl t q hF (λq hq=>qN.1 hq)
 have hE:WalkE ϋ θ w1.heap.size (λM g w2=>∃cN cL p6 p7 t2,R4 T (allM w1) w1 cN cL p6 p7 t2 M w2/\g=rg 38 t2 [.code tW] [] .normal (fr::cs)) (allM w1) (rg 38 T [.code (.seq (.region 4 o8 θ) tW)] [] .normal (fr::cs)) w1:=
  acX rfl (λaa=>by simp[stepG,stepG.exec]) (atn rfl hT (λb hb=>qN.1 hb) λcN cL p6 p7 t2 M w2 h4=>.stop λqJ hk=>⟨cN,cL,p6,p7,t2,apR h4 hk,rfl⟩)
 obtain⟨N2,Mj,M2,g2,w2,Ur,t2,q2,r2,z2,⟨⟨cN,cL,p6,p7,T2,h4,rfl⟩,Q4⟩,Mn,Ri⟩:=aeY (atd hE uJ) Yf Uq t1 q1 qi (λq hq=>qN.1 hq) (rT.of_low qi.nO.seen)
 obtain⟨gZ,U6,l6,l7,hS,Gn,Yp⟩:=arW hP h4;have hs:pZ bk p6 p7 T2:=⟨h4.ua,(h4.same 1 (by omega) (by omega) (by omega) (by omega)).trans DK,h4.vn.1,h4.vl.1⟩
 have Jb:∀(M:Sim.ay) (w':Ψ),St b gZ U6 pv bv tv B lb l6 l7 bk p6 p7 cN cL b.aF.length w.heap.size w M w'->max p6 p7+1<=w'.heap.size:=λM w' h=>by
  have:=h.low _ h.m6;have:=h.low _ h.m7;omega
 have hW:=arY (N0:=Mj.size) (cR:=Kr b) (cs:=fr::cs) (λ_=>rfl) ae Gn Yp (by omega) T2 _ w2 hs hS (Jb _ _ hS) Jb
 obtain⟨G,hG⟩:=aie (X:=Pm.mk ϋ b.aF.length Mj.size cL cN (Kr b) xF (C5 (max p6 p7+1) w.heap.size w (fr::cs))) Mn rfl
  (λq hq=>by
    rcases hq with hq|hq
    ·exact⟨hq.1,hq.2.2,hq.2.1⟩
    ·exact hq.elim) rfl hW h4.l.2.2.2 h4.n.2.2.2 (Λ h4.nl) Ri h4.n.2.2.1
 obtain⟨N3,QY,w3,Us,t3,r3,⟨q3,g3,M3,aB,Q8,hE3,tL,sP,Rq,Zo⟩⟩:=ah4 Ur hG;have ry:aB.length<=1000:=by
  have:aB.length<=b.aF.length:=GG tL λi hi=>((sP i).1 hi).1
  omega
 have RQ:=aii hE3 Yp hb.core rfl hb.nU hb.fixed hb.nb ry;obtain⟨N4,gs4,M4,g4,w4,sl4,t4,q4,r4,z4,⟨ajh,hB4⟩,hF4⟩:=IE (K7 RQ (xW Q4 Rq)) QY Us t3 q3 Q8 (λq hq=>qN.1 hq)
 exact⟨N1+(N2+(N3+N4)),gs4,w4,sl4,t4,q4,g4,aB,M4,Ax _ _ _ r1 (Ax _ _ _ r2 (Ax _ _ _ r3 r4)),hF4,ajh,tL,sP,hB4⟩
def arJ(hd:aB.Nodup)(hm:∀i,i∈aB↔i<b.aF.length/\Kr b i=θ):mV (ints aB)=ints (ED b):=by
 have hp:aB.Perm (ED b):=(List.perm_ext_iff_of_nodup hd (List.nodup_range.filter _)).2 λi=>by rw[hm i];simp[ED]
 have hs:(ints (ED b)).Pairwise (λx y=>decide (x<=y)=θ):=by
  unfold ints ED;rw[List.pairwise_map];refine(List.Pairwise.filter _ List.pairwise_lt_range).imp λh=>?_
  simp only[decide_eq_true_eq];omega
 have h1:(mV (ints aB)).Perm (ints (ED b)):=(List.mergeSort_perm _ _).trans (hp.map _);refine h1.eq_of_pairwise (le:=λx y=>decide (x<=y)=θ) (λa c _ _ h k=>by simp only[decide_eq_true_eq] at h k;omega) ?_ hs
 exact List.pairwise_mergeSort (λa b c h k=>by simp only[decide_eq_true_eq] at *;omega) (λa b=>by simp;omega) _
end Go.Jn
namespace Go.Jn
open Go Go.Proofs Go.Sim Go.Conc Go.Tw Go.RowKit
def oy:ϑ:=(Tryz.f21.body).getD .skip
def od:ϑ:=oy
def oe:ϑ:=aG od
def oh:ϑ:=aG oe
def oQ:ϑ:=aG oh
def pf:ϑ:=aG oQ
def pG:ϑ:=aG pf
def pV:ϑ:=aG pG
def qL:ϑ:=aG pV
def qZ:ϑ:=aG qL
def rK:ϑ:=aG qZ
def sA:ϑ:=aG rK
def tk:ϑ:=aG sA
def ur:ϑ:=aG tk
def vh:ϑ:=aG ur
def wh:ϑ:=aG vh
def xL:ϑ:=aG wh
def zk:ϑ:=aG xL
def AM:ϑ:=aG zk
def CR:ϑ:=aG AM
def CS:ϑ:=aG CR
def EZ:ϑ:=aG CS
def Ie:ϑ:=aG EZ
def Lc:ϑ:=aG Ie
def OR:ϑ:=aG Lc
def OS:ϑ:=aG OR
def CU:ϑ:=aG OS
def AF:ϑ:=aT od
def AG:ϑ:=aT oe
def AH:ϑ:=aT oh
def yZ:ϑ:=aT oQ
def y7:ϑ:=aT pf
def za:ϑ:=aT pG
def zb:ϑ:=aT pV
def zd:ϑ:=aT qL
def ze:ϑ:=aT qZ
def zf:ϑ:=aT rK
def yQ:ϑ:=aT sA
def yR:ϑ:=aT tk
def yS:ϑ:=aT ur
def yT:ϑ:=aT vh
def yU:ϑ:=aT wh
def yV:ϑ:=aT xL
def yW:ϑ:=aT zk
def yX:ϑ:=aT AM
def Om:ϑ:=aT CR
def CH:ϑ:=aT CS
def CJ:ϑ:=aT EZ
def CK:ϑ:=aT Ie
def CM:ϑ:=aT Lc
def yY:ϑ:=aT OR
def CN:ϑ:=aT OS
def aeR:Tryz.f21.body=φ (chain [AF,AG,AH,yZ,y7,za,zb,zd,ze,zf,yQ,yR,yS,yT,yU,yV,yW,yX] (.seq Om (chain [CH,CJ,CK,CM,yY,CN] CU))):=rfl
def afY:∀c∈ [AF,AG,AH,yZ,y7,za,zb,zd,ze,zf,yQ,yR,yS,yT,yU,yV,yW,yX],C0.clean c:=by
 have h: [AF,AG,AH,yZ,y7,za,zb,zd,ze,zf,yQ,yR,yS,yT,yU,yV,yW,yX].all (cy ϋ G0)=θ:=by decide+kernel
 intro c hc;exact ģ.1 h c hc
def K9{P:Program}{qf:List ϑ}{F:Act->Ψ->Prop}{Q:Exit->Act->Ψ->Prop}(h2:∀a w,F a w->ky P qf Q a w):∀(Bn:List ϑ) {a:Act} {w:Ψ},ky P Bn (fG F) a w->ky P (Bn++qf) Q a w
 | [],a,w,h=>h2 a w h
 |c::cs,a,w,h=>by
  show c.wp P (Exit.then (ky P (cs++qf) Q) Q) a w;have h:c.wp P (Exit.then (ky P cs (fG F)) (fG F)) a w:=h;refine Code.wp_mono (λe a w hq=>?_) h
  cases e with
  |normal=>exact K9 h2 cs hq
  |_=>exact(hq:False).elim
structure pI(w0 w:Ψ)(gE gp gb gk gt gl gc g3:Nat):Prop where
 ex:C7 w w0.heap.size gp gb gk gt gl
 bE:Bk w gE 26 #[ξ κ 1,ζ (φ ⟨gp,0,ν⟩) 3 3,ζ (φ ⟨gb,0,ν⟩) 2 2,ζ (φ ⟨gt,0,ν⟩) 1 1]
 bc:Bk w gc 56 #[ξ κ 1,ξ κ 0,ξ κ 0,ξ κ 0,ξ κ 0,ξ κ 4]
 b3:Bk w g3 56 #[ξ κ 1,ξ κ 0,ξ κ 0,ξ κ 0,ξ κ 0,ξ κ 6]
 below:Γ w0.heap.size w0 w
 lE:w0.heap.size<=gE
section
variable [Go.Tw.aJ]
def pI.grown(h:pI w0 w gE gp gb gk gt gl gc g3)(hb:Γ w.heap.size w w'):pI w0 w' gE gp gb gk gt gl gc g3:=
 ⟨⟨h.ex.p.below hb h.ex.p.lt,h.ex.b.below hb h.ex.b.lt,h.ex.k.below hb h.ex.k.lt,h.ex.t.below hb h.ex.t.lt,h.ex.l.below hb h.ex.l.lt,h.ex.hp,h.ex.hb,h.ex.hk,h.ex.ht,h.ex.hl⟩,h.bE.below hb h.bE.lt,h.bc.below hb h.bc.lt,h.b3.below hb h.b3.lt,h.below.trans (hb.mono h.below.size),h.lE⟩
def ah0{V:Ψ}{o:Obj}(h0:C7 V w0.heap.size gp gb gk gt gl)(hE:Bk V gE 26 #[ξ κ 1,ζ (φ ⟨gp,0,ν⟩) 3 3,ζ (φ ⟨gb,0,ν⟩) 2 2,ζ (φ ⟨gt,0,ν⟩) 1 1])
 (hc:Bk V gc 56 #[ξ κ 1,ξ κ 0,ξ κ 0,ξ κ 0,ξ κ 0,ξ κ 4])(hb:Γ w0.heap.size w0 V)(hl:w0.heap.size<=gE):
 pI w0 ((V.drew.alloc o).alloc (Ξ #[ξ κ 1,ξ κ 0,ξ κ 0,ξ κ 0,ξ κ 0,ξ κ 6] 56)) gE gp gb gk gt gl gc (V.heap.size+1):=by
 have hx:Γ V.heap.size V ((V.drew.alloc o).alloc (Ξ #[ξ κ 1,ξ κ 0,ξ κ 0,ξ κ 0,ξ κ 0,ξ κ 6] 56)):=((oT (Ý _ _)).alloc (ϊ _) o).alloc (by simp) _
 exact⟨⟨h0.p.below hx h0.p.lt,h0.b.below hx h0.b.lt,h0.k.below hx h0.k.lt,h0.t.below hx h0.t.lt,h0.l.below hx h0.l.lt,h0.hp,h0.hb,h0.hk,h0.ht,h0.hl⟩,hE.below hx hE.lt,hc.below hx hc.lt,Bk.cD (by simp) _ _,hb.trans (hx.mono hb.size),hl⟩
def FA(w0:Ψ)(a:Act)(w:Ψ):Prop:=a.defers=[b6]/\a.tmps.size=349/\a.tmps[0]?=φ (.bool χ)/\∃gE gp gb gk gt gl gc g3,a.tmps[1]?=φ (π (φ ⟨gE,0,ν⟩))/\a.tmps[2]?=φ (ζ (φ ⟨gc,0,ν⟩) 3 3)/\a.tmps[3]?=φ (ζ (φ ⟨g3,0,ν⟩) 3 3)/\pI w0 w gE gp gb gk gt gl gc g3
end
def lit(x:Nat->υ):List υ:=x 0::x 1::x 2::x 3::x 4::x 5::x 6::x 7::x 8::x 9::x 10::x 11::x 12::x 13::x 14::x 15::x 16::x 17::x 18::x 19::x 20::x 21::x 22::x 23::x 24::x 25::x 26::x 27::x 28::x 29::x 30::x 31::x 32::x 33::x 34::x 35::x 36::x 37::x 38::x 39::x 40::x 41::x 42::x 43::x 44::x 45::x 46::x 47::x 48::x 49::x 50::x 51::x 52::x 53::x 54::x 55::x 56::x 57::x 58::x 59::x 60::x 61::x 62::x 63::x 64::x 65::x 66::x 67::x 68::x 69::x 70::x 71::x 72::x 73::x 74::x 75::x 76::x 77::x 78::x 79::x 80::x 81::x 82::x 83::x 84::x 85::x 86::x 87::x 88::x 89::x 90::x 91::x 92::x 93::x 94::x 95::x 96::x 97::x 98::x 99::x 100::x 101::x 102::x 103::x 104::x 105::x 106::x 107::x 108::x 109::x 110::x 111::x 112::x 113::x 114::x 115::x 116::x 117::x 118::x 119::x 120::x 121::x 122::x 123::x 124::x 125::x 126::x 127::x 128::x 129::x 130::x 131::x 132::x 133::x 134::x 135::x 136::x 137::x 138::x 139::x 140::x 141::x 142::x 143::x 144::x 145::x 146::x 147::x 148::x 149::x 150::x 151::x 152::x 153::x 154::x 155::x 156::x 157::x 158::x 159::x 160::x 161::x 162::x 163::x 164::x 165::x 166::x 167::x 168::x 169::x 170::x 171::x 172::x 173::x 174::x 175::x 176::x 177::x 178::x 179::x 180::x 181::x 182::x 183::x 184::x 185::x 186::x 187::x 188::x 189::x 190::x 191::x 192::x 193::x 194::x 195::x 196::x 197::x 198::x 199::x 200::x 201::x 202::x 203::x 204::x 205::x 206::x 207::x 208::x 209::x 210::x 211::x 212::x 213::x 214::x 215::x 216::x 217::x 218::x 219::x 220::x 221::x 222::x 223::x 224::x 225::x 226::x 227::x 228::x 229::x 230::x 231::x 232::x 233::x 234::x 235::x 236::x 237::x 238::x 239::x 240::x 241::x 242::x 243::x 244::x 245::x 246::x 247::x 248::x 249::x 250::x 251::x 252::x 253::x 254::x 255::x 256::x 257::x 258::x 259::x 260::x 261::x 262::x 263::x 264::x 265::x 266::x 267::x 268::x 269::x 270::x 271::x 272::x 273::x 274::x 275::x 276::x 277::x 278::x 279::x 280::x 281::x 282::x 283::x 284::x 285::x 286::x 287::x 288::x 289::x 290::x 291::x 292::x 293::x 294::x 295::x 296::x 297::x 298::x 299::x 300::x 301::x 302::x 303::x 304::x 305::x 306::x 307::x 308::x 309::x 310::x 311::x 312::x 313::x 314::x 315::x 316::x 317::x 318::x 319::x 320::x 321::x 322::x 323::x 324::x 325::x 326::x 327::x 328::x 329::x 330::x 331::x 332::x 333::x 334::x 335::x 336::x 337::x 338::x 339::x 340::x 341::x 342::x 343::x 344::x 345::x 346::x 347::x 348:: []
def am9(x:Nat->υ):lit x=(Ϯ 349).map x:=rfl
def aaL(u:Array υ)(h:u.size=349):∃x:Nat->υ,u=(lit x).toArray/\∀i v,u[i]?=φ v->x i=v:=by
 refine⟨λi=>u.getD i ω,?_,λi v hv=>?_⟩
 ·rw[am9]
  apply Array.ext
  ·simp[h]
  ·intro i h1 h2
   simp[Ò,h1]
 ·simp[Ò,hv]
def Sl(m:List (Nat×υ))(a:Act):Prop:=a.defers=[b6]/\a.tmps.size=349/\∀p∈m,a.tmps[p.1]?=φ p.2
def Sl.get{m:List (Nat×υ)}(h:Sl m a)(hm:(i,v)∈m):a.tmps[i]?=φ v:=h.2.2 (i,v) hm
def jC{p:α->Prop}{a:α}{l:List α}(h1:p a)(h2:∀x∈l,p x):∀x∈a::l,p x:=λx hx=>(ϥ.1 hx).elim (λe=>e▸h1) (h2 x)
def pe{p:α->Prop}:∀x∈([]:List α),p x:=λ_ h=>absurd h ϸ
def Al:List (Nat×υ)->(Nat->υ)->Prop
 | [],_=>True
 |p::m,x=>x p.1=p.2/\Al m x
def Sl.lit{m:List (Nat×υ)}{a:Act}(h:Sl m a):∃x,a=⟨(lit x).toArray,[b6]⟩/\Al m x:=by
 obtain⟨u,d⟩:=a;obtain⟨hd,hz,hm⟩:=h;simp only at hd hz hm;subst hd;obtain⟨x,rfl,hx⟩:=aaL u hz;refine⟨x,rfl,?_⟩
 clear hz;induction m with
 |nil=>trivial
 |cons p m ih=>exact⟨hx _ _ (hm p (by simp)),ih λq hq=>hm q (by simp[hq])⟩
def pF{c:ϑ}{cs:List ϑ}{F:Act->Ψ->Prop}{Q:Exit->Act->Ψ->Prop}(h:c.wp P (fG F) a w)(h2:∀a w,F a w->ky P cs Q a w):ky P (c::cs) Q a w:=by
 show c.wp P (Exit.then (ky P cs Q) Q) a w;refine Code.wp_mono (λe a w hq=>?_) h
 cases e with
 |normal=>exact h2 a w hq
 |_=>exact(hq:False).elim
end Go.Jn
namespace Go.Jn
open Go Go.Proofs Go.Sim Go.Conc Go.Tw Go.RowKit
section
variable [Go.Tw.aJ]
def rz3{W:Option Addr->Nat->Nat->Ψ->Prop}(hs:Sl [(0,.bool χ),(1,π (φ ⟨gE,0,ν⟩)),(2,ζ (φ ⟨gc,0,ν⟩) 3 3),(3,ζ (φ ⟨g3,0,ν⟩) 3 3)] a)(hc:Bk w gE 26 #[ξ κ 1,ζ (φ ⟨gp,0,ν⟩) 3 3,ζ (φ ⟨gb,0,ν⟩) 2 2,ζ (φ ⟨gt,0,ν⟩) 1 1])
 (aE:ύ prog 47 #[η #[ξ κ 1,ζ (φ ⟨gp,0,ν⟩) 3 3,ζ (φ ⟨gb,0,ν⟩) 2 2,ζ (φ ⟨gt,0,ν⟩) 1 1],ξ κ 0] w λe w'=>∃A4 n4 c4,e=Ω (μ #[.slice A4 n4 c4,ξ κ 0])/\W A4 n4 c4 w'):yZ.wp prog (fG λa w=>∃A4 n4 c4,Sl [(0,.bool χ),(1,π (φ ⟨gE,0,ν⟩)),(2,ζ (φ ⟨gc,0,ν⟩) 3 3),(3,ζ (φ ⟨g3,0,ν⟩) 3 3),(4,.slice A4 n4 c4),(5,ξ κ 0)] a/\W A4 n4 c4 w) a w:=by
 obtain⟨x,rfl,hx⟩:=hs.lit;simp only[Al] at hx;have q0:=hc.cell 0;have q1:=hc.cell 1;have q2:=hc.cell 2;have q3:=hc.cell 3;have aE:=ψ aE;clear hc;unfold lit;simp only[hx];simp only[yZ,oQ,oh,oe,od,oy,Tryz.f21,aT,aG,ϭ];go_wp2_with (go_at_call 47;refine aE.e.mono ?_;rintro e w1 ⟨A4,n4,c4,rfl,hp⟩;have HP:=ψ hp;clear hp)
 exact⟨A4,n4,c4,⟨rfl,rfl,(by repeat first|exact pe|refine jC rfl ?_)⟩,HP.e⟩
def rz4{W:Ψ->Prop}(hs:Sl [(0,.bool χ),(1,π (φ ⟨gE,0,ν⟩)),(2,ζ (φ ⟨gc,0,ν⟩) 3 3),(3,ζ (φ ⟨g3,0,ν⟩) 3 3),(4,.slice A4 n4 c4),(5,ξ κ 0)] a)(hc:Bk w gE 26 #[ξ κ 1,ζ (φ ⟨gp,0,ν⟩) 3 3,ζ (φ ⟨gb,0,ν⟩) 2 2,ζ (φ ⟨gt,0,ν⟩) 1 1])
 (aE:ύ prog 48 #[η #[ξ κ 1,ζ (φ ⟨gp,0,ν⟩) 3 3,ζ (φ ⟨gb,0,ν⟩) 2 2,ζ (φ ⟨gt,0,ν⟩) 1 1],ξ κ 0,ξ κ 0] w λe w'=>e=Ω (μ #[ξ κ 4,ξ κ 0])/\W w'):y7.wp prog (fG λa w=>Sl [(0,.bool χ),(1,π (φ ⟨gE,0,ν⟩)),(2,ζ (φ ⟨gc,0,ν⟩) 3 3),(3,ζ (φ ⟨g3,0,ν⟩) 3 3),(4,.slice A4 n4 c4),(5,ξ κ 0),(6,ξ κ 4),(7,ξ κ 0)] a/\W w) a w:=by
 obtain⟨x,rfl,hx⟩:=hs.lit;simp only[Al] at hx;have q0:=hc.cell 0;have q1:=hc.cell 1;have q2:=hc.cell 2;have q3:=hc.cell 3;have aE:=ψ aE;clear hc;unfold lit;simp only[hx];simp only[y7,pf,oQ,oh,oe,od,oy,Tryz.f21,aT,aG,ϭ];go_wp2_with (go_at_call 48;refine aE.e.mono ?_;rintro e w1 ⟨rfl,hp⟩;have HP:=ψ hp;clear hp)
 exact⟨⟨rfl,rfl,(by repeat first|exact pe|refine jC rfl ?_)⟩,HP.e⟩
def rz5{W:Ψ->Prop}(hs:Sl [(0,.bool χ),(1,π (φ ⟨gE,0,ν⟩)),(2,ζ (φ ⟨gc,0,ν⟩) 3 3),(3,ζ (φ ⟨g3,0,ν⟩) 3 3),(4,.slice A4 n4 c4),(5,ξ κ 0),(6,ξ κ 4),(7,ξ κ 0)] a)(hc:Bk w gE 26 #[ξ κ 1,ζ (φ ⟨gp,0,ν⟩) 3 3,ζ (φ ⟨gb,0,ν⟩) 2 2,ζ (φ ⟨gt,0,ν⟩) 1 1])
 (aE:ύ prog 48 #[η #[ξ κ 1,ζ (φ ⟨gp,0,ν⟩) 3 3,ζ (φ ⟨gb,0,ν⟩) 2 2,ζ (φ ⟨gt,0,ν⟩) 1 1],ξ κ 0,ξ κ 1] w λe w'=>e=Ω (μ #[ξ κ 8,ξ κ 0])/\W w'):za.wp prog (fG λa w=>Sl [(0,.bool χ),(1,π (φ ⟨gE,0,ν⟩)),(2,ζ (φ ⟨gc,0,ν⟩) 3 3),(3,ζ (φ ⟨g3,0,ν⟩) 3 3),(4,.slice A4 n4 c4),(5,ξ κ 0),(6,ξ κ 4),(7,ξ κ 0),(8,ξ κ 8),(9,ξ κ 0)] a/\W w) a w:=by
 obtain⟨x,rfl,hx⟩:=hs.lit;simp only[Al] at hx;have q0:=hc.cell 0;have q1:=hc.cell 1;have q2:=hc.cell 2;have q3:=hc.cell 3;have aE:=ψ aE;clear hc;unfold lit;simp only[hx];simp only[za,pG,pf,oQ,oh,oe,od,oy,Tryz.f21,aT,aG,ϭ];go_wp2_with (go_at_call 48;refine aE.e.mono ?_;rintro e w1 ⟨rfl,hp⟩;have HP:=ψ hp;clear hp)
 exact⟨⟨rfl,rfl,(by repeat first|exact pe|refine jC rfl ?_)⟩,HP.e⟩
def rz8{W:Ψ->Prop}(hs:Sl [(0,.bool χ),(1,π (φ ⟨gE,0,ν⟩)),(2,ζ (φ ⟨gc,0,ν⟩) 3 3),(3,ζ (φ ⟨g3,0,ν⟩) 3 3),(4,.slice A4 n4 c4),(5,ξ κ 0),(6,ξ κ 4),(7,ξ κ 0),(8,ξ κ 8),(9,ξ κ 0),(10,.bool θ),(11,ξ κ 0),(12,.bool χ),(13,ξ κ 0)] a)(hc:Bk w gE 26 #[ξ κ 1,ζ (φ ⟨gp,0,ν⟩) 3 3,ζ (φ ⟨gb,0,ν⟩) 2 2,ζ (φ ⟨gt,0,ν⟩) 1 1])
 (aE:ύ prog 22 #[η #[ξ κ 1,ζ (φ ⟨gp,0,ν⟩) 3 3,ζ (φ ⟨gb,0,ν⟩) 2 2,ζ (φ ⟨gt,0,ν⟩) 1 1]] w λe w'=>e=Ω (μ #[ξ κ 2,ξ κ 0])/\W w'):ze.wp prog (fG λa w=>Sl [(0,.bool χ),(1,π (φ ⟨gE,0,ν⟩)),(2,ζ (φ ⟨gc,0,ν⟩) 3 3),(3,ζ (φ ⟨g3,0,ν⟩) 3 3),(4,.slice A4 n4 c4),(5,ξ κ 0),(6,ξ κ 4),(7,ξ κ 0),(8,ξ κ 8),(9,ξ κ 0),(10,.bool θ),(11,ξ κ 0),(12,.bool χ),(13,ξ κ 0),(14,ξ κ 2),(15,ξ κ 0)] a/\W w) a w:=by
 obtain⟨x,rfl,hx⟩:=hs.lit;simp only[Al] at hx;have q0:=hc.cell 0;have q1:=hc.cell 1;have q2:=hc.cell 2;have q3:=hc.cell 3;have aE:=ψ aE;clear hc;unfold lit;simp only[hx];simp only[ze,qZ,qL,pV,pG,pf,oQ,oh,oe,od,oy,Tryz.f21,aT,aG,ϭ];go_wp2_with (go_at_call 22;refine aE.e.mono ?_;rintro e w1 ⟨rfl,hp⟩;have HP:=ψ hp;clear hp)
 exact⟨⟨rfl,rfl,(by repeat first|exact pe|refine jC rfl ?_)⟩,HP.e⟩
def rz9{W:Option Addr->Nat->Nat->Ψ->Prop}(hs:Sl [(0,.bool χ),(1,π (φ ⟨gE,0,ν⟩)),(2,ζ (φ ⟨gc,0,ν⟩) 3 3),(3,ζ (φ ⟨g3,0,ν⟩) 3 3),(4,.slice A4 n4 c4),(5,ξ κ 0),(6,ξ κ 4),(7,ξ κ 0),(8,ξ κ 8),(9,ξ κ 0),(10,.bool θ),(11,ξ κ 0),(12,.bool χ),(13,ξ κ 0),(14,ξ κ 2),(15,ξ κ 0)] a)(hc:Bk w gE 26 #[ξ κ 1,ζ (φ ⟨gp,0,ν⟩) 3 3,ζ (φ ⟨gb,0,ν⟩) 2 2,ζ (φ ⟨gt,0,ν⟩) 1 1])
 (aE:ύ prog 24 #[η #[ξ κ 1,ζ (φ ⟨gp,0,ν⟩) 3 3,ζ (φ ⟨gb,0,ν⟩) 2 2,ζ (φ ⟨gt,0,ν⟩) 1 1],ξ κ 0] w λe w'=>∃q9 n16 c16,e=Ω (μ #[.slice q9 n16 c16,ξ κ 0])/\W q9 n16 c16 w'):zf.wp prog (fG λa w=>∃q9 n16 c16,Sl [(0,.bool χ),(1,π (φ ⟨gE,0,ν⟩)),(2,ζ (φ ⟨gc,0,ν⟩) 3 3),(3,ζ (φ ⟨g3,0,ν⟩) 3 3),(4,.slice A4 n4 c4),(5,ξ κ 0),(6,ξ κ 4),(7,ξ κ 0),(8,ξ κ 8),(9,ξ κ 0),(10,.bool θ),(11,ξ κ 0),(12,.bool χ),(13,ξ κ 0),(14,ξ κ 2),(15,ξ κ 0),(16,.slice q9 n16 c16),(17,ξ κ 0)] a/\W q9 n16 c16 w) a w:=by
 obtain⟨x,rfl,hx⟩:=hs.lit;simp only[Al] at hx;have q0:=hc.cell 0;have q1:=hc.cell 1;have q2:=hc.cell 2;have q3:=hc.cell 3;have aE:=ψ aE;clear hc;unfold lit;simp only[hx];simp only[zf,rK,qZ,qL,pV,pG,pf,oQ,oh,oe,od,oy,Tryz.f21,aT,aG,ϭ];go_wp2_with (go_at_call 24;refine aE.e.mono ?_;rintro e w1 ⟨q9,n16,c16,rfl,hp⟩;have HP:=ψ hp;clear hp)
 exact⟨q9,n16,c16,⟨rfl,rfl,(by repeat first|exact pe|refine jC rfl ?_)⟩,HP.e⟩
def aqF{W:Ψ->Prop}(hs:Sl [(0,.bool χ),(1,π (φ ⟨gE,0,ν⟩)),(2,ζ (φ ⟨gc,0,ν⟩) 3 3),(3,ζ (φ ⟨g3,0,ν⟩) 3 3)] a)(hc:Bk w gE 26 #[ξ κ 1,ζ (φ ⟨gp,0,ν⟩) 3 3,ζ (φ ⟨gb,0,ν⟩) 2 2,ζ (φ ⟨gt,0,ν⟩) 1 1])
 (aE:ύ prog 28 #[η #[ξ κ 1,ζ (φ ⟨gp,0,ν⟩) 3 3,ζ (φ ⟨gb,0,ν⟩) 2 2,ζ (φ ⟨gt,0,ν⟩) 1 1],ζ (φ ⟨gc,0,ν⟩) 3 3] w λe w'=>e=Ω (μ #[ξ κ 1,ξ κ 0])/\W w'):yS.wp prog (fG λa w=>Sl [(0,.bool χ),(1,π (φ ⟨gE,0,ν⟩)),(2,ζ (φ ⟨gc,0,ν⟩) 3 3),(3,ζ (φ ⟨g3,0,ν⟩) 3 3),(5,ξ κ 0),(20,ξ κ 1)] a/\W w) a w:=by
 obtain⟨x,rfl,hx⟩:=hs.lit;simp only[Al] at hx;have q0:=hc.cell 0;have q1:=hc.cell 1;have q2:=hc.cell 2;have q3:=hc.cell 3;have aE:=ψ aE;clear hc;unfold lit;simp only[hx];simp only[yS,ur,tk,sA,rK,qZ,qL,pV,pG,pf,oQ,oh,oe,od,oy,Tryz.f21,aT,aG,ϭ];go_wp2_with (go_at_call 28;refine aE.e.mono ?_;rintro e w1 ⟨rfl,hp⟩;have HP:=ψ hp;clear hp)
 exact⟨⟨rfl,rfl,(by repeat first|exact pe|refine jC rfl ?_)⟩,HP.e⟩
def aqG{W:Ψ->Prop}(hs:Sl [(0,.bool χ),(1,π (φ ⟨gE,0,ν⟩)),(2,ζ (φ ⟨gc,0,ν⟩) 3 3),(3,ζ (φ ⟨g3,0,ν⟩) 3 3),(5,ξ κ 0),(20,ξ κ 1)] a)(hc:Bk w gE 26 #[ξ κ 1,ζ (φ ⟨gp,0,ν⟩) 3 3,ζ (φ ⟨gb,0,ν⟩) 2 2,ζ (φ ⟨gt,0,ν⟩) 1 1])
 (aE:ύ prog 28 #[η #[ξ κ 1,ζ (φ ⟨gp,0,ν⟩) 3 3,ζ (φ ⟨gb,0,ν⟩) 2 2,ζ (φ ⟨gt,0,ν⟩) 1 1],ζ (φ ⟨g3,0,ν⟩) 3 3] w λe w'=>e=Ω (μ #[ξ κ 0,ξ κ 0])/\W w'):yT.wp prog (fG λa w=>Sl [(0,.bool χ),(1,π (φ ⟨gE,0,ν⟩)),(2,ζ (φ ⟨gc,0,ν⟩) 3 3),(3,ζ (φ ⟨g3,0,ν⟩) 3 3),(5,ξ κ 0),(7,ξ κ 0),(20,ξ κ 1),(21,ξ κ 0)] a/\W w) a w:=by
 obtain⟨x,rfl,hx⟩:=hs.lit;simp only[Al] at hx;have q0:=hc.cell 0;have q1:=hc.cell 1;have q2:=hc.cell 2;have q3:=hc.cell 3;have aE:=ψ aE;clear hc;unfold lit;simp only[hx];simp only[yT,vh,ur,tk,sA,rK,qZ,qL,pV,pG,pf,oQ,oh,oe,od,oy,Tryz.f21,aT,aG,ϭ];go_wp2_with (go_at_call 28;refine aE.e.mono ?_;rintro e w1 ⟨rfl,hp⟩;have HP:=ψ hp;clear hp)
 exact⟨⟨rfl,rfl,(by repeat first|exact pe|refine jC rfl ?_)⟩,HP.e⟩
def aqH{W:Option Addr->Nat->Nat->Ψ->Prop}(hs:Sl [(0,.bool χ),(1,π (φ ⟨gE,0,ν⟩)),(2,ζ (φ ⟨gc,0,ν⟩) 3 3),(3,ζ (φ ⟨g3,0,ν⟩) 3 3),(5,ξ κ 0),(7,ξ κ 0),(20,ξ κ 1),(21,ξ κ 0)] a)(hc:Bk w gE 26 #[ξ κ 1,ζ (φ ⟨gp,0,ν⟩) 3 3,ζ (φ ⟨gb,0,ν⟩) 2 2,ζ (φ ⟨gt,0,ν⟩) 1 1])
 (aE:ύ prog 31 #[η #[ξ κ 1,ζ (φ ⟨gp,0,ν⟩) 3 3,ζ (φ ⟨gb,0,ν⟩) 2 2,ζ (φ ⟨gt,0,ν⟩) 1 1],ζ (φ ⟨gc,0,ν⟩) 3 3] w λe w'=>∃fq n22 c22,e=Ω (μ #[.slice fq n22 c22,ξ κ 0])/\W fq n22 c22 w'):yU.wp prog (fG λa w=>∃fq n22 c22,Sl [(0,.bool χ),(1,π (φ ⟨gE,0,ν⟩)),(2,ζ (φ ⟨gc,0,ν⟩) 3 3),(3,ζ (φ ⟨g3,0,ν⟩) 3 3),(5,ξ κ 0),(7,ξ κ 0),(9,ξ κ 0),(20,ξ κ 1),(21,ξ κ 0),(22,.slice fq n22 c22)] a/\W fq n22 c22 w) a w:=by
 obtain⟨x,rfl,hx⟩:=hs.lit;simp only[Al] at hx;have q0:=hc.cell 0;have q1:=hc.cell 1;have q2:=hc.cell 2;have q3:=hc.cell 3;have aE:=ψ aE;clear hc;unfold lit;simp only[hx];simp only[yU,wh,vh,ur,tk,sA,rK,qZ,qL,pV,pG,pf,oQ,oh,oe,od,oy,Tryz.f21,aT,aG,ϭ];go_wp2_with (go_at_call 31;refine aE.e.mono ?_;rintro e w1 ⟨fq,n22,c22,rfl,hp⟩;have HP:=ψ hp;clear hp)
 exact⟨fq,n22,c22,⟨rfl,rfl,(by repeat first|exact pe|refine jC rfl ?_)⟩,HP.e⟩
def aqI{W:Ψ->Prop}(hs:Sl [(0,.bool χ),(1,π (φ ⟨gE,0,ν⟩)),(2,ζ (φ ⟨gc,0,ν⟩) 3 3),(3,ζ (φ ⟨g3,0,ν⟩) 3 3),(5,ξ κ 0),(7,ξ κ 0),(9,ξ κ 0),(20,ξ κ 1),(21,ξ κ 0),(22,.slice fq n22 c22)] a)(hc:Bk w gE 26 #[ξ κ 1,ζ (φ ⟨gp,0,ν⟩) 3 3,ζ (φ ⟨gb,0,ν⟩) 2 2,ζ (φ ⟨gt,0,ν⟩) 1 1])
 (aE:ύ prog 31 #[η #[ξ κ 1,ζ (φ ⟨gp,0,ν⟩) 3 3,ζ (φ ⟨gb,0,ν⟩) 2 2,ζ (φ ⟨gt,0,ν⟩) 1 1],ζ (φ ⟨g3,0,ν⟩) 3 3] w λe w'=>e=Ω (μ #[ζ ν 0 0,ξ κ 8])/\W w'):yV.wp prog (fG λa w=>Sl [(0,.bool χ),(1,π (φ ⟨gE,0,ν⟩)),(2,ζ (φ ⟨gc,0,ν⟩) 3 3),(3,ζ (φ ⟨g3,0,ν⟩) 3 3),(5,ξ κ 0),(7,ξ κ 0),(9,ξ κ 0),(20,ξ κ 1),(21,ξ κ 0),(22,.slice fq n22 c22),(23,ζ ν 0 0),(24,ξ κ 8)] a/\W w) a w:=by
 obtain⟨x,rfl,hx⟩:=hs.lit;simp only[Al] at hx;have q0:=hc.cell 0;have q1:=hc.cell 1;have q2:=hc.cell 2;have q3:=hc.cell 3;have aE:=ψ aE;clear hc;unfold lit;simp only[hx];simp only[yV,xL,wh,vh,ur,tk,sA,rK,qZ,qL,pV,pG,pf,oQ,oh,oe,od,oy,Tryz.f21,aT,aG,ϭ];go_wp2_with (go_at_call 31;refine aE.e.mono ?_;rintro e w1 ⟨rfl,hp⟩;have HP:=ψ hp;clear hp)
 exact⟨⟨rfl,rfl,(by repeat first|exact pe|refine jC rfl ?_)⟩,HP.e⟩
def aqJ{W:Option Addr->Nat->Nat->Ψ->Prop}(hs:Sl [(0,.bool χ),(1,π (φ ⟨gE,0,ν⟩)),(2,ζ (φ ⟨gc,0,ν⟩) 3 3),(3,ζ (φ ⟨g3,0,ν⟩) 3 3),(5,ξ κ 0),(7,ξ κ 0),(9,ξ κ 0),(20,ξ κ 1),(21,ξ κ 0),(22,.slice fq n22 c22),(23,ζ ν 0 0),(24,ξ κ 8)] a)(hc:Bk w gE 26 #[ξ κ 1,ζ (φ ⟨gp,0,ν⟩) 3 3,ζ (φ ⟨gb,0,ν⟩) 2 2,ζ (φ ⟨gt,0,ν⟩) 1 1])
 (aE:ύ prog 33 #[η #[ξ κ 1,ζ (φ ⟨gp,0,ν⟩) 3 3,ζ (φ ⟨gb,0,ν⟩) 2 2,ζ (φ ⟨gt,0,ν⟩) 1 1]] w λe w'=>∃b7 n25 b9,e=Ω (μ #[.slice b7 n25 b9,ξ κ 2,.bool θ,ξ κ 0])/\W b7 n25 b9 w'):yW.wp prog (fG λa w=>∃b7 n25 b9,Sl [(0,.bool χ),(1,π (φ ⟨gE,0,ν⟩)),(2,ζ (φ ⟨gc,0,ν⟩) 3 3),(3,ζ (φ ⟨g3,0,ν⟩) 3 3),(5,ξ κ 0),(7,ξ κ 0),(9,ξ κ 0),(11,ξ κ 0),(20,ξ κ 1),(21,ξ κ 0),(22,.slice fq n22 c22),(23,ζ ν 0 0),(24,ξ κ 8),(25,.slice b7 n25 b9),(26,ξ κ 2),(27,.bool θ)] a/\W b7 n25 b9 w) a w:=by
 obtain⟨x,rfl,hx⟩:=hs.lit;simp only[Al] at hx;have q0:=hc.cell 0;have q1:=hc.cell 1;have q2:=hc.cell 2;have q3:=hc.cell 3;have aE:=ψ aE;clear hc;unfold lit;simp only[hx];simp only[yW,zk,xL,wh,vh,ur,tk,sA,rK,qZ,qL,pV,pG,pf,oQ,oh,oe,od,oy,Tryz.f21,aT,aG,ϭ];go_wp2_with (go_at_call 33;refine aE.e.mono ?_;rintro e w1 ⟨b7,n25,b9,rfl,hp⟩;have HP:=ψ hp;clear hp)
 exact⟨b7,n25,b9,⟨rfl,rfl,(by repeat first|exact pe|refine jC rfl ?_)⟩,HP.e⟩
def aqK{W:Option Addr->Nat->Nat->Ψ->Prop}(hs:Sl [(0,.bool χ),(1,π (φ ⟨gE,0,ν⟩)),(2,ζ (φ ⟨gc,0,ν⟩) 3 3),(3,ζ (φ ⟨g3,0,ν⟩) 3 3),(5,ξ κ 0),(7,ξ κ 0),(9,ξ κ 0),(11,ξ κ 0),(20,ξ κ 1),(21,ξ κ 0),(22,.slice fq n22 c22),(23,ζ ν 0 0),(24,ξ κ 8),(25,.slice b7 n25 b9),(26,ξ κ 2),(27,.bool θ)] a)(hc:Bk w gE 26 #[ξ κ 1,ζ (φ ⟨gp,0,ν⟩) 3 3,ζ (φ ⟨gb,0,ν⟩) 2 2,ζ (φ ⟨gt,0,ν⟩) 1 1])
 (aE:ύ prog 36 #[η #[ξ κ 1,ζ (φ ⟨gp,0,ν⟩) 3 3,ζ (φ ⟨gb,0,ν⟩) 2 2,ζ (φ ⟨gt,0,ν⟩) 1 1]] w λe w'=>∃ik n28 im,e=Ω (μ #[.slice ik n28 im,ξ κ 14,.bool θ,ξ κ 0])/\W ik n28 im w'):yX.wp prog (fG λa w=>∃ik n28 im,Sl [(0,.bool χ),(1,π (φ ⟨gE,0,ν⟩)),(2,ζ (φ ⟨gc,0,ν⟩) 3 3),(3,ζ (φ ⟨g3,0,ν⟩) 3 3),(5,ξ κ 0),(7,ξ κ 0),(9,ξ κ 0),(11,ξ κ 0),(13,ξ κ 0),(20,ξ κ 1),(21,ξ κ 0),(22,.slice fq n22 c22),(23,ζ ν 0 0),(24,ξ κ 8),(25,.slice b7 n25 b9),(26,ξ κ 2),(27,.bool θ),(28,.slice ik n28 im),(29,ξ κ 14),(30,.bool θ)] a/\W ik n28 im w) a w:=by
 obtain⟨x,rfl,hx⟩:=hs.lit;simp only[Al] at hx;have q0:=hc.cell 0;have q1:=hc.cell 1;have q2:=hc.cell 2;have q3:=hc.cell 3;have aE:=ψ aE;clear hc;unfold lit;simp only[hx];simp only[yX,AM,zk,xL,wh,vh,ur,tk,sA,rK,qZ,qL,pV,pG,pf,oQ,oh,oe,od,oy,Tryz.f21,aT,aG,ϭ];go_wp2_with (go_at_call 36;refine aE.e.mono ?_;rintro e w1 ⟨ik,n28,im,rfl,hp⟩;have HP:=ψ hp;clear hp)
 exact⟨ik,n28,im,⟨rfl,rfl,(by repeat first|exact pe|refine jC rfl ?_)⟩,HP.e⟩
def aqL{pg:Option Addr}{W:Ψ->Prop}(hs:Sl [(0,.bool χ),(1,π (φ ⟨gE,0,ν⟩)),(2,ζ (φ ⟨gc,0,ν⟩) 3 3),(3,ζ (φ ⟨g3,0,ν⟩) 3 3),(5,ξ κ 0),(7,ξ κ 0),(9,ξ κ 0),(11,ξ κ 0),(13,ξ κ 0),(15,ξ κ 0),(20,ξ κ 1),(21,ξ κ 0),(22,.slice fq n22 c22),(23,ζ ν 0 0),(24,ξ κ 8),(25,.slice b7 n25 b9),(26,ξ κ 2),(27,.bool θ),(28,.slice ik n28 im),(29,ξ κ 14),(30,.bool θ),(31,.slice pg n31 pn)] a)(hc:Bk w gE 26 #[ξ κ 1,ζ (φ ⟨gp,0,ν⟩) 3 3,ζ (φ ⟨gb,0,ν⟩) 2 2,ζ (φ ⟨gt,0,ν⟩) 1 1])
 (aE:ύ prog 61 #[η #[ξ κ 1,ζ (φ ⟨gp,0,ν⟩) 3 3,ζ (φ ⟨gb,0,ν⟩) 2 2,ζ (φ ⟨gt,0,ν⟩) 1 1]] w λe w'=>e=Ω (μ #[ξ κ 0,ξ κ 1,ξ κ 0])/\W w'):CH.wp prog (fG λa w=>Sl [(0,.bool χ),(1,π (φ ⟨gE,0,ν⟩)),(2,ζ (φ ⟨gc,0,ν⟩) 3 3),(3,ζ (φ ⟨g3,0,ν⟩) 3 3),(5,ξ κ 0),(7,ξ κ 0),(9,ξ κ 0),(11,ξ κ 0),(13,ξ κ 0),(15,ξ κ 0),(17,ξ κ 0),(20,ξ κ 1),(21,ξ κ 0),(22,.slice fq n22 c22),(23,ζ ν 0 0),(24,ξ κ 8),(25,.slice b7 n25 b9),(26,ξ κ 2),(27,.bool θ),(28,.slice ik n28 im),(29,ξ κ 14),(30,.bool θ),(31,.slice pg n31 pn),(32,ξ κ 0),(33,ξ κ 1)] a/\W w) a w:=by
 obtain⟨x,rfl,hx⟩:=hs.lit;simp only[Al] at hx;have q0:=hc.cell 0;have q1:=hc.cell 1;have q2:=hc.cell 2;have q3:=hc.cell 3;have aE:=ψ aE;clear hc;unfold lit;simp only[hx];simp only[CH,CS,CR,AM,zk,xL,wh,vh,ur,tk,sA,rK,qZ,qL,pV,pG,pf,oQ,oh,oe,od,oy,Tryz.f21,aT,aG,ϭ];go_wp2_with (go_at_call 61;refine aE.e.mono ?_;rintro e w1 ⟨rfl,hp⟩;have HP:=ψ hp;clear hp)
 exact⟨⟨rfl,rfl,(by repeat first|exact pe|refine jC rfl ?_)⟩,HP.e⟩
end
end Go.Jn
namespace Go.Jn
open Go
section
variable {P:Program}{md:Region.Mode}{ops:Array Oper}{Q:Exit->Act->Ψ->Prop}
def nf(n i:Nat):Array Bool:=Array.ofFn λk:Fin n=>decide (k.val<i)
def Tu{k:Nat}(h:k<n):(nf n i)[k]?=φ (decide (k<i)):=by
 unfold nf;rw[Ajx,dif_pos h]
def Kl{k:Nat}(d:Bool)(h:k<n):(nf n i).getD k d=decide (k<i):=by
 rw[Ò,Tu h];rfl
def ano(n:Nat):ϱ n χ=nf n 0:=by
 apply Array.ext
 ·simp[nf]
 ·intro k h1 h2
  simp[nf]
def Tv(n i:Nat):(nf n i).size=n:=by simp[nf]
def Ez(h:i<n):(nf n i).setIfInBounds i θ=nf n (i+1):=by
 apply Array.ext_getElem?;intro k;rw[Ó,Tv]
 by_cases hk:k<n
 ·rw[Tu hk,Tu hk]
  split
  ·subst_vars;simp[hk]
  ·rename_i au
   simp only[ï,decide_eq_decide];omega
 ·have h1:(nf n i)[k]?=ν:=by rw[Akp,Tv];omega
  have h2:(nf n (i+1))[k]?=ν:=by rw[Akp,Tv];omega
  rw[h1,h2,if_neg (by omega)]
def aaQ(hj:j=i+1)(h:j<n):((nf n i).setIfInBounds i θ).setIfInBounds j θ=nf n (j+1):=by
 subst hj;rw[Ez (by omega),Ez h]
def ann(hj:j=i+1)(h:j<n):((nf n i).setIfInBounds j θ).setIfInBounds i θ=nf n (j+1):=by
 rw[Array.setIfInBounds_comm _ _ (by omega)]
 exact aaQ hj h
def QH(o:Oper)(j:Nat):Bool:=o.after.toList.all λe=>decide (e.on<j)
def Ro(md:Region.Mode)(o:Oper)(k:Nat):Bool:=o.after.toList.any λe=>Region.binds md e && decide (k<=e.on)
def seqB(md:Region.Mode)(n s e:Nat):List Oper->Nat->Bool
 | [],_=>θ
 |o::l,j=>(decide (e<=j) ||QH o j) && (decide (j<=s) ||Ro md o (min (j - 1) (e - 1))) && (o.after.toList.all λx=>decide (x.on<n)) && seqB md n s e l (j+1)
def ab2{n s e:Nat}:∀(l:List Oper) (j:Nat),seqB md n s e l j=θ->∀(k:Nat) (o:Oper),l[k]?=φ o->(j+k<e->QH o (j+k)=θ)/\(s<j+k->Ro md o (min (j+k - 1) (e - 1))=θ)/\∀x∈o.after.toList,x.on<n
 | [],_,_,k,o,h=>by simp at h
 |p::l,j,hs,k,o,h=>by
  simp only[seqB,Bool.and_eq_true,Bool.or_eq_true,decide_eq_true_eq,ģ] at hs;obtain⟨⟨⟨h1,h2⟩,h3⟩,h4⟩:=hs;cases k with
  |zero=>
   simp only[List.getElem?_cons_zero,ï] at h
   subst h;refine⟨λhj=>h1.resolve_left (by omega),λhj=>h2.resolve_left (by omega),h3⟩
  |succ k=>
   simp only[List.getElem?_cons_succ] at h
   have:=ab2 l (j+1) h4 k o h;rw[show j+1+k=j+(k+1) by omega] at this
   exact this
def filter_one{p:Nat->Bool}(hi:i<n)(h1:p i=θ)(h2:∀j,j<n->j≠i->p j=χ):(Ϯ n).filter p=[i]:=by
 have e:(Ϯ n).filter p=(Ϯ n).filter (λj=>j==i):=by
  apply List.filter_congr;intro j hj;have hj:=ť.1 hj;by_cases e:j=i
  ·subst e;simp[h1]
  ·rw[h2 j hj e];simp[e]
 rw[e];have hn:(Ϯ n).Nodup:=List.nodup_range;have hm:i∈Ϯ n:=by simpa using hi
 have:∀l:List Nat,l.Nodup->i∈l->l.filter (λj=>j==i)=[i]:=by
  intro l;induction l with
  |nil=>intro _ h;cases h
  |cons a l ih=>
   intro tL sP;rw[List.nodup_cons] at tL;by_cases e:a=i
   ·subst e
    rw[List.filter_cons_of_pos (by simp)]
    have:l.filter (λj=>j==a)=[]:=by
     rw[List.filter_eq_nil_iff];intro b hb;simp only[beq_iff_eq];rintro rfl;exact tL.1 hb
    rw[this]
   ·rw[List.filter_cons_of_neg (by simpa using e)]
    exact ih tL.2 ((ϥ.1 sP).resolve_left (Λ e))
 exact this _ hn hm
def arw{s:Nat}(h:seqB md ops.size s e ops.toList 0=θ)(hs:s<=i)(he:i<e)(hi:i<ops.size):Ñ md ops (nf ops.size i)=[i]:=by
 have rY:∀k (hk:k<ops.size),_:=λk hk=>ab2 ops.toList 0 h k ops[k] (by simp[hk])
 simp only[Nat.zero_add] at rY;refine filter_one hi ?_ λj hj au=>?_
 ·rw[Kl _ hi,â hi]
  simp only[Nat.lt_irrefl,decide_false,Bool.not_false,ç,ϭ,Bool.true_and];rw[<-Array.all_toList,ģ];intro x hx;obtain⟨h1,_,h3⟩:=rY i hi;have h1:=h1 he;unfold QH at h1;rw[ģ] at h1;have Z6:x.on<i:=by simpa using h1 x hx
  rw[Kl _ (h3 x hx)];simp[Z6]
 ·by_cases aj:j<i
  ·rw[Kl _ hj];simp[aj]
  ·have Ga:i<j:=by omega
   rw[Kl _ hj,â hj]
   simp only[aj,decide_false,Bool.not_false,ç,ϭ,Bool.true_and];rw[<-Array.all_toList];obtain⟨_,h2,h3⟩:=rY j hj;have h2:=h2 (by omega)
   unfold Ro at h2;rw[List.any_eq_true] at h2;obtain⟨x,hx,Gw⟩:=h2;simp only[Bool.and_eq_true,decide_eq_true_eq] at Gw;rw[List.all_eq_false];refine⟨x,hx,?_⟩
   rw[Kl _ (h3 x hx),Gw.1];have:¬x.on<i:=by have:=Gw.2;omega
   simp[this]
def abl{K K':Act->Ψ->Prop}(h:o.wp P a w K' (Exit.then K Q)):o.wp P a w K' Q:=by
 unfold Oper.wp at *;generalize (execOp a.eval o).run P w=r at *;cases r with
 |ok n w'=>
  cases n<;>simp only[Oper.upon] at h |- <;>
   first
    |exact h
    |exact Calls.mono h (λe bB he=>by cases e<;>exact he)
 |halt x w'=>cases x<;>simp only[Oper.upon] at h |- <;>exact h
def ac5(hi:ops[i]?=φ o){K:Act->Ψ->Prop}{l:List Oper}{R:Exit->Act->Ψ->Prop}(hR:∀a w,ó P ops R l a w->K a w)(hp:∀ {o:Oper} {K':Act->Ψ->Prop} {a:Act} {w:Ψ},o.wp P a w K' R->o.wp P a w K' Q)(hl:LetsOut R->LetsOut Q)
 (h:ó P ops R (o::l) a w):wpOp P ops Q i K a w:=by
 unfold wpOp;simp only[hi];unfold ó at h;split
 ·rename_i hw
  rw[if_pos hw] at h;exact h.imp (λh=>Oper.wp_mono hR (hp h)) (λh=>⟨h.1,hl h.2⟩)
 ·rename_i hw
  rw[if_neg hw] at h;exact hR _ _ h
def Bc{fuel s e N:Nat}(hN:ops.size=N)(h:seqB md N s e ops.toList 0=θ)(he:e<=N):∀(n i:Nat) {a:Act} {w:Ψ},s<=i->i+n=e->
 ó P ops (Exit.then (è P md ops Q fuel (nf N e)) Q) ((ops.toList.drop i).take n) a w->è P md ops Q (fuel+n) (nf N i) a w
 |0,i,a,w,_,hie,h2=>by
  obtain rfl:i=e:=by omega
  have h2:Exit.then (è P md ops Q fuel (nf N i)) Q .normal a w:=by simpa [ó] using h2
  exact h2
 |n+1,i,a,w,hs,hie,h2=>by
  rw[show fuel+(n+1)=(fuel+n)+1 by omega]
  have hi:i<ops.size:=by omega
  subst hN;refine wpAny_all (arw h hs (by omega) hi) (by simp) λj hj=>?_
  obtain rfl:j=i:=by simpa using hj
  have hl:(ops.toList.drop j).take (n+1)=ops[j]::(ops.toList.drop (j+1)).take n:=by
   rw[List.drop_eq_getElem_cons (by simpa using hi),ù]
   simp
  rw[hl] at h2;rw[Ez hi];exact ac5 (â hi) (λa w h2=>Bc rfl h he n (j+1) (by omega) (by omega) h2) abl (λh=>h) h2
def aeJ{id:Nat}(hm:P.follows .mixedOrders=θ)(hN:ops.size=N)(h:è P .any ops Q N (nf N 0) a w.drew):(Code.region id ops θ).wp P Q a w:=by
 refine wp_region_any hm ?_
 rw[ano,hN];exact h
def Ft{l':Array Bool}(h:l=l')(hh:è P md ops Q fuel l' a w):è P md ops Q fuel l a w:=h▸hh
def PZ{listed:Array Bool}(rs:List Nat)(hr:Ñ md ops listed=rs)(au:rs≠ [])(h:∀i∈rs,wpOp P ops Q i (è P md ops Q fuel (listed.setIfInBounds i θ)) a w):è P md ops Q (fuel+1) listed a w:=
 wpAny_all hr au h
def NJ{listed:Array Bool}(o:Oper)(hi:ops[i]?=φ o)(h:ó P ops (Exit.then (è P md ops Q fuel (listed.setIfInBounds i θ)) Q) [o] a w):wpOp P ops Q i (è P md ops Q fuel (listed.setIfInBounds i θ)) a w:=
 ac5 (l:=[]) (R:=Exit.then (è P md ops Q fuel (listed.setIfInBounds i θ)) Q) hi (λ_ _ h=>h) abl (λh=>h) h
def LQ{is:List Nat}{K:Nat->Prop}(h1:K i)(h2:∀k∈is,K k):∀k∈i::is,K k:=by
 intro k hk;rcases ϥ.1 hk with rfl|hk
 ·exact h1
 ·exact h2 k hk
def Qd{K:Nat->Prop}:∀k∈([]:List Nat),K k:=λ_ h=>absurd h ϸ
def sx{rest:List Oper}{og:Oper}{b:Bool}(nI:o.guard=φ (g,b))(ZB:ops.toList[g]?=φ og)(hd:og.dst=φ d)(ht:a.tmps[d]?=φ (.bool b))
 (h:∀K:Act->Ψ->Prop,(∀a w,ó P ops Q rest a w->K a w)->o.wp P a w K Q):ó P ops Q (o::rest) a w:=by
 refine wpList_step λK hK=>?_
 have hw:Ê o (yielded ops a.tmps)=θ:=by
  unfold Ê;rw[nI];rw[Array.getElem?_toList] at ZB
  simp only[yielded,ZB,Option.bind_some,hd,ht,beq_self_eq_true]
 rw[if_pos hw];exact h K hK
end
end Go.Jn
namespace Go.Jn
open Go Go.Proofs Go.Sim Go.Conc Go.Tw Go.RowKit
section
variable [Go.Tw.aJ]
def Dg{sz:Nat}{R:α->List υ->Prop}{f:α->List υ}{xs:List α}(hb:Bk w g e cs)(hx:xs.length<=1000)(hf:∀x,(f x).length=sz)(hR:∀x∈xs,R x (f x))(hc:cs=(xs.flatMap f).toArray):
 Row w w.heap.size sz R (ζ (φ ⟨g,0,ν⟩) xs.length xs.length) xs:=by
 have yn:∀l:List α,(l.flatMap f).length=l.length * sz:=by
  intro l;induction l with
  |nil=>simp
  |cons a l ih=>simp only[List.flatMap_cons,List.length_append,ih,hf,List.length_cons,Nat.succ_mul];omega
 refine tX (f:=f) ?_ hf hR (e:=e) (base:=g)
 refine⟨yn xs,.inr ⟨g,xs.length,cs,rfl,ϊ _,hb,ϊ _,by unfold ϕ;omega,by rw[hc,List.size_toArray,yn],?_⟩⟩
 rw[hc];simp only[List.toList_toArray];rw[List.take_of_length_le (by rw[yn];omega)]
def xZ(xs:List Int)(hx:xs.length<=1000)(h:Bk w g 3 cs)(hc:cs=(xs.flatMap λx=> [ξ κ x]).toArray):Row w w.heap.size 1 cH (ζ (φ ⟨g,0,ν⟩) xs.length xs.length) xs:=
 Dg h hx (λ_=>rfl) (λ_ _=>rfl) hc
def Qe(xs:List Span)(hx:xs.length<=1000)(h:Bk w g 37 cs)(hc:cs=(xs.flatMap Span.vs).toArray):Row w w.heap.size 2 Span.R (ζ (φ ⟨g,0,ν⟩) xs.length xs.length) xs:=
 Dg h hx (λ_=>rfl) (λ_ _=>rfl) hc
def Wu(xs:List Cut)(hx:xs.length<=1000)(h:Bk w g 56 cs)(hc:cs=(xs.flatMap Cut.vs).toArray):Row w w.heap.size 2 Cut.R (ζ (φ ⟨g,0,ν⟩) xs.length xs.length) xs:=
 Dg h hx (λ_=>rfl) (λ_ _=>rfl) hc
def lj{sz:Nat}{R:α->List υ->Prop}{xs:List α}(h:Row w w.heap.size sz R v xs)(hb:Γ w.heap.size w w'):Row w' w'.heap.size sz R v xs:=
 (h.still (Δ.aN hb (ϊ _)) λ_ _ h=>h).more hb.size
def rz6{W:Ψ->Prop}(hs:Sl [(0,.bool χ),(1,π (φ ⟨gE,0,ν⟩)),(2,ζ (φ ⟨gc,0,ν⟩) 3 3),(3,ζ (φ ⟨g3,0,ν⟩) 3 3),(4,.slice A4 n4 c4),(5,ξ κ 0),(6,ξ κ 4),(7,ξ κ 0),(8,ξ κ 8),(9,ξ κ 0)] a)(hc:Bk w gE 26 #[ξ κ 1,ζ (φ ⟨gp,0,ν⟩) 3 3,ζ (φ ⟨gb,0,ν⟩) 2 2,ζ (φ ⟨gt,0,ν⟩) 1 1])
 (aE:ύ prog 43 #[η #[ξ κ 1,ζ (φ ⟨gp,0,ν⟩) 3 3,ζ (φ ⟨gb,0,ν⟩) 2 2,ζ (φ ⟨gt,0,ν⟩) 1 1],ζ (φ ⟨w.heap.size,0,ν⟩) 3 3,ζ (φ ⟨gc,0,ν⟩) 3 3] (w.alloc (Ξ #[ξ κ 4,ξ κ 3,ξ κ 3] 3)) λe w'=>e=Ω (μ #[.bool θ,ξ κ 0])/\W w'):zb.wp prog (fG λa w=>Sl [(0,.bool χ),(1,π (φ ⟨gE,0,ν⟩)),(2,ζ (φ ⟨gc,0,ν⟩) 3 3),(3,ζ (φ ⟨g3,0,ν⟩) 3 3),(4,.slice A4 n4 c4),(5,ξ κ 0),(6,ξ κ 4),(7,ξ κ 0),(8,ξ κ 8),(9,ξ κ 0),(10,.bool θ),(11,ξ κ 0)] a/\W w) a w:=by
 obtain⟨x,rfl,hx⟩:=hs.lit;simp only[Al] at hx;have q0:=hc.cell 0;have q1:=hc.cell 1;have q2:=hc.cell 2;have q3:=hc.cell 3;have aE:=ψ aE;clear hc;unfold lit;simp only[hx];simp only[zb,pV,pG,pf,oQ,oh,oe,od,oy,Tryz.f21,aT,aG,ϭ];go_wp2_with (go_at_call 43;refine aE.e.mono ?_;rintro e w1 ⟨rfl,hp⟩;have HP:=ψ hp;clear hp)
 exact⟨⟨rfl,rfl,(by repeat first|exact pe|refine jC rfl ?_)⟩,HP.e⟩
def rz7{W:Ψ->Prop}(hs:Sl [(0,.bool χ),(1,π (φ ⟨gE,0,ν⟩)),(2,ζ (φ ⟨gc,0,ν⟩) 3 3),(3,ζ (φ ⟨g3,0,ν⟩) 3 3),(4,.slice A4 n4 c4),(5,ξ κ 0),(6,ξ κ 4),(7,ξ κ 0),(8,ξ κ 8),(9,ξ κ 0),(10,.bool θ),(11,ξ κ 0)] a)(hc:Bk w gE 26 #[ξ κ 1,ζ (φ ⟨gp,0,ν⟩) 3 3,ζ (φ ⟨gb,0,ν⟩) 2 2,ζ (φ ⟨gt,0,ν⟩) 1 1])
 (aE:ύ prog 43 #[η #[ξ κ 1,ζ (φ ⟨gp,0,ν⟩) 3 3,ζ (φ ⟨gb,0,ν⟩) 2 2,ζ (φ ⟨gt,0,ν⟩) 1 1],ζ (φ ⟨w.heap.size,0,ν⟩) 3 3,ζ (φ ⟨g3,0,ν⟩) 3 3] (w.alloc (Ξ #[ξ κ 4,ξ κ 3,ξ κ 3] 3)) λe w'=>e=Ω (μ #[.bool χ,ξ κ 0])/\W w'):zd.wp prog (fG λa w=>Sl [(0,.bool χ),(1,π (φ ⟨gE,0,ν⟩)),(2,ζ (φ ⟨gc,0,ν⟩) 3 3),(3,ζ (φ ⟨g3,0,ν⟩) 3 3),(4,.slice A4 n4 c4),(5,ξ κ 0),(6,ξ κ 4),(7,ξ κ 0),(8,ξ κ 8),(9,ξ κ 0),(10,.bool θ),(11,ξ κ 0),(12,.bool χ),(13,ξ κ 0)] a/\W w) a w:=by
 obtain⟨x,rfl,hx⟩:=hs.lit;simp only[Al] at hx;have q0:=hc.cell 0;have q1:=hc.cell 1;have q2:=hc.cell 2;have q3:=hc.cell 3;have aE:=ψ aE;clear hc;unfold lit;simp only[hx];simp only[zd,qL,pV,pG,pf,oQ,oh,oe,od,oy,Tryz.f21,aT,aG,ϭ];go_wp2_with (go_at_call 43;refine aE.e.mono ?_;rintro e w1 ⟨rfl,hp⟩;have HP:=ψ hp;clear hp)
 exact⟨⟨rfl,rfl,(by repeat first|exact pe|refine jC rfl ?_)⟩,HP.e⟩
def aqD{q9:Option Addr}{W:Ψ->Prop}(hs:Sl [(0,.bool χ),(1,π (φ ⟨gE,0,ν⟩)),(2,ζ (φ ⟨gc,0,ν⟩) 3 3),(3,ζ (φ ⟨g3,0,ν⟩) 3 3),(4,.slice A4 n4 c4),(5,ξ κ 0),(6,ξ κ 4),(7,ξ κ 0),(8,ξ κ 8),(9,ξ κ 0),(10,.bool θ),(11,ξ κ 0),(12,.bool χ),(13,ξ κ 0),(14,ξ κ 2),(15,ξ κ 0),(16,.slice q9 n16 c16),(17,ξ κ 0)] a)(hc:Bk w gE 26 #[ξ κ 1,ζ (φ ⟨gp,0,ν⟩) 3 3,ζ (φ ⟨gb,0,ν⟩) 2 2,ζ (φ ⟨gt,0,ν⟩) 1 1])
 (aE:ύ prog 26 #[η #[ξ κ 1,ζ (φ ⟨gp,0,ν⟩) 3 3,ζ (φ ⟨gb,0,ν⟩) 2 2,ζ (φ ⟨gt,0,ν⟩) 1 1]] w λe w'=>e=Ω (μ #[η #[ξ κ 10,ξ κ 10],ξ κ 0])/\W w'):
 yQ.wp prog (fG λa w=>∃w1,W w1/\(∃g8,g8=w1.heap.size/\Sl [(0,.bool χ),(1,π (φ ⟨gE,0,ν⟩)),(2,ζ (φ ⟨gc,0,ν⟩) 3 3),(3,ζ (φ ⟨g3,0,ν⟩) 3 3),(4,.slice A4 n4 c4),(5,ξ κ 0),(6,ξ κ 4),(7,ξ κ 0),(8,ξ κ 8),(9,ξ κ 0),(10,.bool θ),(11,ξ κ 0),(12,.bool χ),(13,ξ κ 0),(14,ξ κ 2),(15,ξ κ 0),(16,.slice q9 n16 c16),(17,ξ κ 0),(18,π (φ ⟨g8,0,ν⟩)),(19,ξ κ 0)] a)/\w=w1.alloc (Ξ #[ξ κ 10,ξ κ 10] 37)) a w:=by
 obtain⟨x,rfl,hx⟩:=hs.lit;simp only[Al] at hx;have q0:=hc.cell 0;have q1:=hc.cell 1;have q2:=hc.cell 2;have q3:=hc.cell 3;have aE:=ψ aE;clear hc;unfold lit;simp only[hx];simp only[yQ,sA,rK,qZ,qL,pV,pG,pf,oQ,oh,oe,od,oy,Tryz.f21,aT,aG,ϭ];go_wp2_with (go_at_call 26;refine aE.e.mono ?_;rintro e w1 ⟨rfl,hp⟩;have HP:=ψ hp;clear hp)
 exact⟨_,HP.e,⟨_,rfl,⟨rfl,rfl,(by repeat first|exact pe|refine jC rfl ?_)⟩⟩,rfl⟩
def WD{t:TypeId}(h:Bk w g t cs):Bk w.drew g t cs:=h
def aqE{gp gb gt g8:Nat}{q9:Option Addr}(hs:Sl [(0,.bool χ),(1,π (φ ⟨gE,0,ν⟩)),(2,ζ (φ ⟨gc,0,ν⟩) 3 3),(3,ζ (φ ⟨g3,0,ν⟩) 3 3),(4,.slice A4 n4 c4),(5,ξ κ 0),(6,ξ κ 4),(7,ξ κ 0),(8,ξ κ 8),(9,ξ κ 0),(10,.bool θ),(11,ξ κ 0),(12,.bool χ),(13,ξ κ 0),(14,ξ κ 2),(15,ξ κ 0),(16,.slice q9 n16 c16),(17,ξ κ 0),(18,π (φ ⟨g8,0,ν⟩)),(19,ξ κ 0)] a)(h8:Bk w g8 37 #[ξ κ 10,ξ κ 10])
 (dc:Row w w.heap.size 2 Span.R (.slice A4 n4 c4) [⟨0,2⟩,⟨4,7⟩])(Gm:Row w w.heap.size 1 cH (.slice q9 n16 c16) [4,5]):
 yR.wp prog (fG λa w'=>Sl [(0,.bool χ),(1,π (φ ⟨gE,0,ν⟩)),(2,ζ (φ ⟨gc,0,ν⟩) 3 3),(3,ζ (φ ⟨g3,0,ν⟩) 3 3)] a/\Γ w.heap.size w w') a w:=by
 obtain⟨x,rfl,hx⟩:=hs.lit;simp only[Al] at hx;have q0:=h8.cell 0;have q1:=h8.cell 1;have lt8:g8<w.heap.size:=h8.lt;have le8:g8<=w.heap.size:=Nat.le_of_lt lt8;have Vs:Hid (∀W,Γ w.heap.size w W->∀g,Bk W g 37 #[ξ κ 0,ξ κ 2,ξ κ 4,ξ κ 7]->ύ prog 75 #[.slice A4 n4 c4,ζ (φ ⟨g,0,ν⟩) 2 2] W λe w'=>e=Ω (.bool θ)/\Γ W.heap.size W w'):=ψ λW hb g hg=>by
  have:=ahs (lj dc hb) (Qe [⟨0,2⟩,⟨4,7⟩] (by decide) hg rfl) (ϊ _)
  exact this
 have Vo:Hid (∀W,Γ w.heap.size w W->∀g,Bk W g 3 #[ξ κ 4,ξ κ 5]->ύ prog 30 #[.slice q9 n16 c16,ζ (φ ⟨g,0,ν⟩) 2 2] W λe w'=>e=Ω (.bool θ)/\Γ W.heap.size W w'):=ψ λW hb g hg=>by
  have:=L8 (lj Gm hb) (xZ [4,5] (by decide) hg rfl) (ϊ _)
  exact this
 clear h8 dc Gm;unfold lit;simp only[hx];simp only[yR,tk,sA,rK,qZ,qL,pV,pG,pf,oQ,oh,oe,od,oy,Tryz.f21,aT,aG,ϭ];refine wp_seq (aeJ (N:=68) (by kernel_rfl) rfl ?_)
 refine Bc (N:=68) (s:=0) (e:=50) (fuel:=18) rfl (by kernel_rfl) (by omega) 50 0 (by omega) rfl ?_
 generalize hQ:Exit.then _ _=Q';simp only[ĉ];repeat(first| (refine sx rfl rfl rfl (by kernel_rfl) (λ_ _=>?_)) |go_step)
 subst hQ;show è _ _ _ _ _ _ _ _;have hcut:∀x:Act,x=x:=λ_=>rfl
 refine PZ (fuel:=17) [50,51] (by kernel_rfl) (by simp) (LQ (NJ _ rfl ?_) (LQ (NJ _ rfl ?_) Qd))
 ·generalize hQ:Exit.then _ _=Q'
  repeat(first
   | (refine sx rfl rfl rfl (by kernel_rfl) (λ_ _=>?_))
   |go_step
   | (go_at_call 50;refine(EG _ _).mono ?_;rintro e w1 ⟨rfl,rfl⟩)
   | (dsimp only)
   |go_upon
   |go_back
   |go_values)
  subst hQ;show è _ _ _ _ _ _ _ _;refine PZ (fuel:=16) [51] (by kernel_rfl) (by simp) (LQ (NJ _ rfl ?_) Qd)
  generalize hQ:Exit.then _ _=Q';repeat(first
   | (refine sx rfl rfl rfl (by kernel_rfl) (λ_ _=>?_))
   |go_step
   | (go_at_call 50;refine(EG _ _).mono ?_;rintro e w1 ⟨rfl,rfl⟩)
   | (dsimp only)
   |go_upon
   |go_back
   |go_values)
  subst hQ;show è _ _ _ _ _ _ _ _;refine Ft (l':=nf 68 52) (aaQ (n:=68) (i:=50) (j:=51) rfl (by omega)) ?_
  refine Bc (N:=68) (s:=52) (e:=55) (fuel:=13) rfl (by kernel_rfl) (by omega) 3 52 (by omega) rfl ?_
  generalize hQ:Exit.then _ _=Q';simp only[ý,ĉ,ù,ú];repeat(first
   | (refine sx rfl rfl rfl (by kernel_rfl) (λ_ _=>?_))
   |go_step
   | (dsimp only)
   |go_upon
   |go_back
   |go_values)
  subst hQ;show è _ _ _ _ _ _ _ _;refine Aks (fuel:=12) (i:=55) (v:=.slice A4 n4 c4) rfl (by kernel_rfl) (by kernel_rfl) (by kernel_rfl) (λ_ _ _ h=>h) (Or.inl ⟨by kernel_rfl,λw=>by kernel_rfl⟩) ?_
  refine Ft (l':=nf 68 (55+1)) (Ez (by omega)) ?_
  simp only[Act.put,ë,ì,Û];refine Bc (N:=68) (s:=56) (e:=63) (fuel:=5) rfl (by kernel_rfl) (by omega) 7 56 (by omega) rfl ?_
  generalize hQ:Exit.then _ _=Q';simp only[ý,ĉ,ù,ú];repeat(first
   | (refine sx rfl rfl rfl (by kernel_rfl) (λ_ _=>?_))
   |go_step
   | (go_at_call 67;refine(UK _ _ _).mono ?_;rintro e w1 ⟨rfl,rfl⟩)
   | (go_at_call 75;refine(Vs.e _ (by repeat first|exact Ý _ _|refine oT ?_|refine ž ?_ (by simp<;>omega) _) _ (by first|exact WD (Bk.cD (by simp) _ _) |exact Bk.cD (by simp) _ _)).mono ?_;rintro e w5 ⟨rfl,mF⟩;have H5:Hid (Γ w.heap.size w w5):=ψ (Akx (B:=w.heap.size) (by repeat first|exact Ý _ _|refine oT ?_|refine ž ?_ (by simp<;>omega) _) (mF.mono (by simp<;>omega)));clear mF)
   | (dsimp only)
   |go_upon
   |go_back
   |go_values)
  subst hQ;show è _ _ _ _ _ _ _ _;refine Aks (fuel:=4) (i:=63) (v:=.slice q9 n16 c16) rfl (by kernel_rfl) (by kernel_rfl) (by kernel_rfl) (λ_ _ _ h=>h) (Or.inl ⟨by kernel_rfl,λw=>by kernel_rfl⟩) ?_
  refine Ft (l':=nf 68 (63+1)) (Ez (by omega)) ?_
  simp only[Act.put,ë,ì,Û];refine Bc (N:=68) (s:=64) (e:=68) (fuel:=0) rfl (by kernel_rfl) (by omega) 4 64 (by omega) rfl ?_
  generalize hQ:Exit.then _ _=Q';simp only[ý,ĉ,ù,ú];repeat(first
   | (refine sx rfl rfl rfl (by kernel_rfl) (λ_ _=>?_))
   |go_step
   | (go_at_call 30;have wZ:=Vo.e (w5.alloc (Obj.cells #[ϛ ϗ 4,ϛ ϗ 5] 3)) (H5.e.alloc H5.e.size _) w5.heap.size (Bk.new _ _ _);refine wZ.mono ?_;rintro e w6 ⟨rfl,mQ⟩;have H6:=ψ ((H5.e.alloc H5.e.size _).trans (mQ.mono (by have:=H5.e.size;simp;omega)));clear mQ)
   | (dsimp only)
   |go_upon
   |go_back
   |go_values)
  subst hQ;show è _ _ _ _ _ _ _ _;refine wpAny_done (by kernel_rfl) ?_ _
  go_wp2;exact⟨⟨rfl,rfl,jC rfl (jC rfl (jC rfl (jC rfl (pe))))⟩,H6.e⟩
 ·generalize hQ:Exit.then _ _=Q'
  repeat(first
   | (refine sx rfl rfl rfl (by kernel_rfl) (λ_ _=>?_))
   |go_step
   | (go_at_call 50;refine(EG _ _).mono ?_;rintro e w1 ⟨rfl,rfl⟩)
   | (dsimp only)
   |go_upon
   |go_back
   |go_values)
  subst hQ;show è _ _ _ _ _ _ _ _;refine PZ (fuel:=16) [50] (by kernel_rfl) (by simp) (LQ (NJ _ rfl ?_) Qd)
  generalize hQ:Exit.then _ _=Q';repeat(first
   | (refine sx rfl rfl rfl (by kernel_rfl) (λ_ _=>?_))
   |go_step
   | (go_at_call 50;refine(EG _ _).mono ?_;rintro e w1 ⟨rfl,rfl⟩)
   | (dsimp only)
   |go_upon
   |go_back
   |go_values)
  subst hQ;show è _ _ _ _ _ _ _ _;refine Ft (l':=nf 68 52) (ann (n:=68) (i:=50) (j:=51) rfl (by omega)) ?_
  refine Bc (N:=68) (s:=52) (e:=55) (fuel:=13) rfl (by kernel_rfl) (by omega) 3 52 (by omega) rfl ?_
  generalize hQ:Exit.then _ _=Q';simp only[ý,ĉ,ù,ú];repeat(first
   | (refine sx rfl rfl rfl (by kernel_rfl) (λ_ _=>?_))
   |go_step
   | (dsimp only)
   |go_upon
   |go_back
   |go_values)
  subst hQ;show è _ _ _ _ _ _ _ _;refine Aks (fuel:=12) (i:=55) (v:=.slice A4 n4 c4) rfl (by kernel_rfl) (by kernel_rfl) (by kernel_rfl) (λ_ _ _ h=>h) (Or.inl ⟨by kernel_rfl,λw=>by kernel_rfl⟩) ?_
  refine Ft (l':=nf 68 (55+1)) (Ez (by omega)) ?_
  simp only[Act.put,ë,ì,Û];refine Bc (N:=68) (s:=56) (e:=63) (fuel:=5) rfl (by kernel_rfl) (by omega) 7 56 (by omega) rfl ?_
  generalize hQ:Exit.then _ _=Q';simp only[ý,ĉ,ù,ú];repeat(first
   | (refine sx rfl rfl rfl (by kernel_rfl) (λ_ _=>?_))
   |go_step
   | (go_at_call 67;refine(UK _ _ _).mono ?_;rintro e w1 ⟨rfl,rfl⟩)
   | (go_at_call 75;refine(Vs.e _ (by repeat first|exact Ý _ _|refine oT ?_|refine ž ?_ (by simp<;>omega) _) _ (by first|exact WD (Bk.cD (by simp) _ _) |exact Bk.cD (by simp) _ _)).mono ?_;rintro e w5 ⟨rfl,mF⟩;have H5:Hid (Γ w.heap.size w w5):=ψ (Akx (B:=w.heap.size) (by repeat first|exact Ý _ _|refine oT ?_|refine ž ?_ (by simp<;>omega) _) (mF.mono (by simp<;>omega)));clear mF)
   | (dsimp only)
   |go_upon
   |go_back
   |go_values)
  subst hQ;show è _ _ _ _ _ _ _ _;refine Aks (fuel:=4) (i:=63) (v:=.slice q9 n16 c16) rfl (by kernel_rfl) (by kernel_rfl) (by kernel_rfl) (λ_ _ _ h=>h) (Or.inl ⟨by kernel_rfl,λw=>by kernel_rfl⟩) ?_
  refine Ft (l':=nf 68 (63+1)) (Ez (by omega)) ?_
  simp only[Act.put,ë,ì,Û];refine Bc (N:=68) (s:=64) (e:=68) (fuel:=0) rfl (by kernel_rfl) (by omega) 4 64 (by omega) rfl ?_
  generalize hQ:Exit.then _ _=Q';simp only[ý,ĉ,ù,ú];repeat(first
   | (refine sx rfl rfl rfl (by kernel_rfl) (λ_ _=>?_))
   |go_step
   | (go_at_call 30;have wZ:=Vo.e (w5.alloc (Obj.cells #[ϛ ϗ 4,ϛ ϗ 5] 3)) (H5.e.alloc H5.e.size _) w5.heap.size (Bk.new _ _ _);refine wZ.mono ?_;rintro e w6 ⟨rfl,mQ⟩;have H6:=ψ ((H5.e.alloc H5.e.size _).trans (mQ.mono (by have:=H5.e.size;simp;omega)));clear mQ)
   | (dsimp only)
   |go_upon
   |go_back
   |go_values)
  subst hQ;show è _ _ _ _ _ _ _ _;refine wpAny_done (by kernel_rfl) ?_ _
  go_wp2;exact⟨⟨rfl,rfl,jC rfl (jC rfl (jC rfl (jC rfl (pe))))⟩,H6.e⟩
def FB(w0:Ψ)(a:Act)(w:Ψ):Prop:=∃gE gp gb gk gt gl gc g3,Sl [(0,.bool χ),(1,π (φ ⟨gE,0,ν⟩)),(2,ζ (φ ⟨gc,0,ν⟩) 3 3),(3,ζ (φ ⟨g3,0,ν⟩) 3 3)] a/\pI w0 w gE gp gb gk gt gl gc g3
def FA.fb(h:FA w0 a w):FB w0 a w:=by
 obtain⟨hd,aL,h0,gE,gp,gb,gk,gt,gl,gc,g3,h1,h2,h3,hx⟩:=h;exact⟨gE,gp,gb,gk,gt,gl,gc,g3,⟨hd,aL,jC h0 (jC h1 (jC h2 (jC h3 pe)))⟩,hx⟩
def pI.qQ(h:pI w0 w gE gp gb gk gt gl gc g3):Row w w.heap.size 2 Cut.R (ζ (φ ⟨gc,0,ν⟩) 3 3) fM:=agI h.bc
def pI.QB(h:pI w0 w gE gp gb gk gt gl gc g3):Row w w.heap.size 2 Cut.R (ζ (φ ⟨g3,0,ν⟩) 3 3) Bp:=Wu Bp (by decide) h.b3 rfl
def aq6(hf:FB w0 a w):ky prog [yZ,y7,za,zb,zd,ze,zf,yQ,yR] (fG (FB w0)) a w:=by
 obtain⟨gE,gp,gb,gk,gt,gl,gc,g3,hs,hx⟩:=hf;refine pF (rz3 (W:=λA n c w'=>Row w' w'.heap.size 2 Span.R (.slice A n c) [⟨0,2⟩,⟨4,7⟩]/\Γ w.heap.size w w') hs hx.bE ?c3) ?_
 case c3=>
  refine(Xb (ϊ _) (rq hx.ex) Dm (x:=zL) (k:=0) rfl).mono ?_
  rintro e w' ⟨v,rfl,ho,hb⟩;obtain⟨A,n,c,rfl⟩:=qx ho;rw[ahA] at ho;exact⟨A,n,c,rfl,tX ho (λ_=>rfl) (λ_ _=>rfl),hb⟩
 rintro a w1 ⟨A4,n4,c4,hs,dc,hb⟩;replace hx:=hx.grown hb;clear hb;refine pF (rz4 (W:=λw'=>Γ w1.heap.size w1 w') hs hx.bE ?c4) ?_
 case c4=>
  refine(Tt (ϊ _) (rq hx.ex) Dm (x:=zL) (k:=0) (bears:=0) rfl rfl).mono ?_
  rintro e w' ⟨rfl,hb⟩;exact⟨by rw[ahI],hb⟩
 rintro a w2 ⟨hs,hb⟩;replace hx:=hx.grown hb;replace dc:=lj dc hb;clear hb;refine pF (rz5 (W:=λw'=>Γ w2.heap.size w2 w') hs hx.bE ?c5) ?_
 case c5=>
  refine(Tt (ϊ _) (rq hx.ex) Dm (x:=zL) (k:=0) (bears:=1) rfl rfl).mono ?_
  rintro e w' ⟨rfl,hb⟩;exact⟨by rw[ahJ],hb⟩
 rintro a w3 ⟨hs,hb⟩;replace hx:=hx.grown hb;replace dc:=lj dc hb;clear hb;have uN:Γ w3.heap.size w3 (w3.alloc (Ξ #[ξ κ 4,ξ κ 3,ξ κ 3] 3)):=(Ý _ _).alloc (ϊ _) _;have Em:=hx.grown uN;refine pF (rz6 (W:=λw'=>Γ w3.heap.size w3 w') hs hx.bE ?c6) ?_
 case c6=>
  refine(XM (l:=[4,3,3]) (qQ:=fM) (ϊ _) (rq Em.ex) (xZ [4,3,3] (by decide) (Bk.new _ _ _) rfl) Em.qQ Dm ahN).mono ?_
  rintro e w' ⟨rfl,hb⟩;exact⟨by rw[ahF],uN.trans (hb.mono (by simp))⟩
 rintro a w4 ⟨hs,hb⟩;replace hx:=hx.grown hb;replace dc:=lj dc hb;clear hb uN Em;have uN:Γ w4.heap.size w4 (w4.alloc (Ξ #[ξ κ 4,ξ κ 3,ξ κ 3] 3)):=(Ý _ _).alloc (ϊ _) _;have Em:=hx.grown uN;refine pF (rz7 (W:=λw'=>Γ w4.heap.size w4 w') hs hx.bE ?c7) ?_
 case c7=>
  refine(XM (l:=[4,3,3]) (qQ:=Bp) (ϊ _) (rq Em.ex) (xZ [4,3,3] (by decide) (Bk.new _ _ _) rfl) Em.QB Dm ahO).mono ?_
  rintro e w' ⟨rfl,hb⟩;exact⟨by rw[ahG],uN.trans (hb.mono (by simp))⟩
 rintro a w5 ⟨hs,hb⟩;replace hx:=hx.grown hb;replace dc:=lj dc hb;clear hb uN Em;refine pF (rz8 (W:=λw'=>Γ w5.heap.size w5 w') hs hx.bE ?c8) ?_
 case c8=>
  refine(aff (ϊ _) (rq hx.ex)).mono ?_
  rintro e w' ⟨rfl,hb⟩;exact⟨by rw[ahy,Dm],hb⟩
 rintro a w6 ⟨hs,hb⟩;replace hx:=hx.grown hb;replace dc:=lj dc hb;clear hb;refine pF (rz9 (W:=λA n c w'=>Row w' w'.heap.size 1 cH (.slice A n c) [4,5]/\Γ w6.heap.size w6 w') hs hx.bE ?c9) ?_
 case c9=>
  refine(am2 (k:=0) (ϊ _) (rq hx.ex) ahL).mono ?_
  rintro e w' ⟨v,rfl,ho,hb⟩;obtain⟨A,n,c,rfl⟩:=qx ho;rw[ahH] at ho;exact⟨A,n,c,rfl,Nh ho,hb⟩
 rintro a w7 ⟨q9,n16,c16,hs,Gm,hb⟩;replace hx:=hx.grown hb;replace dc:=lj dc hb;clear hb;refine pF (aqD (W:=λw'=>Γ w7.heap.size w7 w') hs hx.bE ?c10) ?_
 case c10=>
  refine(asH (ϊ _) (rq hx.ex) IV).mono ?_
  rintro e w' ⟨rfl,hb⟩;exact⟨by rw[ahU],hb⟩
 rintro a w8 ⟨xG,hb,⟨g8,RX,hs⟩,rfl⟩;have ak:Γ w7.heap.size w7 (xG.alloc (Ξ #[ξ κ 10,ξ κ 10] 37)):=hb.alloc hb.size _;replace hx:=hx.grown ak;replace dc:=lj dc ak;replace Gm:=lj Gm ak;clear hb ak;refine pF (aqE (gp:=0) (gb:=0) (gt:=0) hs (by rw[RX];exact Bk.new _ _ _) dc Gm) ?_
 rintro a w9 ⟨hs,hb⟩;exact⟨gE,gp,gb,gk,gt,gl,gc,g3,hs,hx.grown hb⟩
def FC(w0:Ψ)(a:Act)(w:Ψ):Prop:=∃gE gp gb gk gt gl gc g3 fq n22 c22 b7 n25 b9 ik n28 im,
 Sl [(0,.bool χ),(1,π (φ ⟨gE,0,ν⟩)),(2,ζ (φ ⟨gc,0,ν⟩) 3 3),(3,ζ (φ ⟨g3,0,ν⟩) 3 3),(5,ξ κ 0),(7,ξ κ 0),(9,ξ κ 0),(11,ξ κ 0),(13,ξ κ 0),(20,ξ κ 1),(21,ξ κ 0),(22,.slice fq n22 c22),(23,ζ ν 0 0),(24,ξ κ 8),(25,.slice b7 n25 b9),(26,ξ κ 2),(27,.bool θ),(28,.slice ik n28 im),(29,ξ κ 14),(30,.bool θ)] a/\
 pI w0 w gE gp gb gk gt gl gc g3/\Row w w.heap.size 1 cH (.slice fq n22 c22) [1,1]/\Row w w.heap.size 2 Cut.R (.slice b7 n25 b9) fM/\Row w w.heap.size 2 Cut.R (.slice ik n28 im) fM
def TD(hm:nB w0)(h:pI w0 w gE gp gb gk gt gl gc g3):nB w:=hm.below h.below hm.lt
def XI{mI:List Cut->Int}{n:Int}{e:Ending}(hb:ow bg mI=φ (fM,n))(h:E5 w bg mI e w'):
 ∃A k c,e=Ω (μ #[.slice A k c,ξ κ n,.bool θ,ξ κ 0])/\Row w' w'.heap.size 2 Cut.R (.slice A k c) fM/\Γ w.heap.size w w':=by
 obtain⟨cv,mv,fv,rfl,aW,nv⟩:=h;rw[hb] at aW;obtain⟨ho,rfl,rfl⟩:=aW;obtain⟨A,k,c,rfl⟩:=qx ho;exact⟨A,k,c,by rw[IV],tX (l:=fM) ho (λ_=>rfl) (λ_ _=>rfl),nv⟩
def aq7(hm:nB w0)(hf:FB w0 a w):ky prog [yS,yT,yU,yV,yW,yX] (fG (FC w0)) a w:=by
 obtain⟨gE,gp,gb,gk,gt,gl,gc,g3,hs,hx⟩:=hf;refine pF (aqF (W:=λw'=>Γ w.heap.size w w') hs hx.bE ?c12) ?_
 case c12=>
  refine(Xu (ϊ _) (rq hx.ex) hx.qQ XG).mono ?_
  rintro e w' ⟨rfl,hb⟩;exact⟨by rw[ahC],hb⟩
 rintro a w1 ⟨hs,hb⟩;replace hx:=hx.grown hb;clear hb;refine pF (aqG (W:=λw'=>Γ w1.heap.size w1 w') hs hx.bE ?c13) ?_
 case c13=>
  refine(Xu (ϊ _) (rq hx.ex) hx.QB XH).mono ?_
  rintro e w' ⟨rfl,hb⟩;exact⟨by rw[ahD],hb⟩
 rintro a w2 ⟨hs,hb⟩;replace hx:=hx.grown hb;clear hb;refine pF (aqH (W:=λA n c w'=>Row w' w'.heap.size 1 cH (.slice A n c) [1,1]/\Γ w2.heap.size w2 w') hs hx.bE ?c14) ?_
 case c14=>
  refine(arP (ϊ _) (rq hx.ex) hx.qQ XG ahR).mono ?_
  rintro e w' ⟨v,rfl,ho,hb⟩;obtain⟨A,n,c,rfl⟩:=qx ho;rw[ahQ] at ho;exact⟨A,n,c,rfl,Nh ho,hb⟩
 rintro a w3 ⟨fq,n22,c22,hs,qu,hb⟩;replace hx:=hx.grown hb;clear hb;refine pF (aqI (W:=λw'=>Γ w3.heap.size w3 w') hs hx.bE ?c15) ?_
 case c15=>
  refine(arO (ϊ _) (rq hx.ex) hx.QB XH ahS).mono ?_
  rintro e w' ⟨rfl,hb⟩;exact⟨rfl,hb⟩
 rintro a w4 ⟨hs,hb⟩;replace hx:=hx.grown hb;replace qu:=lj qu hb;clear hb;refine pF (aqJ (W:=λA n c w'=>Row w' w'.heap.size 2 Cut.R (.slice A n c) fM/\Γ w4.heap.size w4 w') hs hx.bE ?c16) ?_
 case c16=>
  refine(QO (ϊ _) (rq hx.ex) (TD hm hx)).mono ?_
  rintro e w' h;exact XI ahE h
 rintro a w5 ⟨b7,n25,b9,hs,nW,hb⟩;replace hx:=hx.grown hb;replace qu:=lj qu hb;clear hb;refine pF (aqK (W:=λA n c w'=>Row w' w'.heap.size 2 Cut.R (.slice A n c) fM/\Γ w5.heap.size w5 w') hs hx.bE ?c17) ?_
 case c17=>
  refine(arE (ϊ _) (rq hx.ex) (TD hm hx)).mono ?_
  rintro e w' h;exact XI ahP h
 rintro a w6 ⟨ik,n28,im,hs,sR,hb⟩;exact⟨gE,gp,gb,gk,gt,gl,gc,g3,fq,n22,c22,b7,n25,b9,ik,n28,im,hs,hx.grown hb,lj qu hb,lj nW hb,sR⟩
def aq5(hm:nB w0)(h:ky prog [AF,AG,AH] (fG (FA w0)) a w0):ky prog [AF,AG,AH,yZ,y7,za,zb,zd,ze,zf,yQ,yR,yS,yT,yU,yV,yW,yX] (fG (FC w0)) a w0:=by
 refine K9 (qf:=[yZ,y7,za,zb,zd,ze,zf,yQ,yR,yS,yT,yU,yV,yW,yX]) (λa w hf=>?_) [AF,AG,AH] h
 exact K9 (qf:=[yS,yT,yU,yV,yW,yX]) (λa w hf=>aq7 hm hf) [yZ,y7,za,zb,zd,ze,zf,yQ,yR] (aq6 hf.fb)
def aqM{pg:Option Addr}(hs:Sl [(0,.bool χ),(1,π (φ ⟨gE,0,ν⟩)),(2,ζ (φ ⟨gc,0,ν⟩) 3 3),(3,ζ (φ ⟨g3,0,ν⟩) 3 3),(5,ξ κ 0),(7,ξ κ 0),(9,ξ κ 0),(11,ξ κ 0),(13,ξ κ 0),(15,ξ κ 0),(17,ξ κ 0),(20,ξ κ 1),(21,ξ κ 0),(22,.slice fq n22 c22),(23,ζ ν 0 0),(24,ξ κ 8),(25,.slice b7 n25 b9),(26,ξ κ 2),(27,.bool θ),(28,.slice ik n28 im),(29,ξ κ 14),(30,.bool θ),(31,.slice pg n31 pn),(32,ξ κ 0),(33,ξ κ 1)] a)
 (hc:Row w w.heap.size 2 Cut.R (ζ (φ ⟨gc,0,ν⟩) 3 3) fM)(qu:Row w w.heap.size 1 cH (.slice fq n22 c22) [1,1])(nW:Row w w.heap.size 2 Cut.R (.slice b7 n25 b9) fM)(sR:Row w w.heap.size 2 Cut.R (.slice ik n28 im) fM)(Ec:Row w w.heap.size 1 cH (.slice pg n31 pn) [0,1]):
 CJ.wp prog (fG λa w'=>Sl [(1,π (φ ⟨gE,0,ν⟩))] a/\Γ w.heap.size w w') a w:=by
 obtain⟨x,rfl,hx⟩:=hs.lit;simp only[Al] at hx;have CA:Hid (∀W,Γ w.heap.size w W->ύ prog 35 #[.slice b7 n25 b9,ζ (φ ⟨gc,0,ν⟩) 3 3] W λe w'=>e=Ω (.bool θ)/\Γ W.heap.size W w'):=ψ λW hb=>by
  have:=Ui (lj nW hb) (lj hc hb) (ϊ _);exact this
 have CB:Hid (∀W,Γ w.heap.size w W->ύ prog 35 #[.slice ik n28 im,ζ (φ ⟨gc,0,ν⟩) 3 3] W λe w'=>e=Ω (.bool θ)/\Γ W.heap.size W w'):=ψ λW hb=>by
  have:=Ui (lj sR hb) (lj hc hb) (ϊ _);exact this
 have CC:Hid (∀W,Γ w.heap.size w W->∀g,Bk W g 3 #[ξ κ 1,ξ κ 1]->ύ prog 30 #[.slice fq n22 c22,ζ (φ ⟨g,0,ν⟩) 2 2] W λe w'=>e=Ω (.bool θ)/\Γ W.heap.size W w'):=ψ λW hb g hg=>by
  have:=L8 (lj qu hb) (xZ [1,1] (by decide) hg rfl) (ϊ _)
  exact this
 have CD:Hid (∀W,Γ w.heap.size w W->∀g,Bk W g 3 #[ξ κ 0,ξ κ 1]->ύ prog 30 #[.slice pg n31 pn,ζ (φ ⟨g,0,ν⟩) 2 2] W λe w'=>e=Ω (.bool θ)/\Γ W.heap.size W w'):=ψ λW hb g hg=>by
  have:=L8 (lj Ec hb) (xZ [0,1] (by decide) hg rfl) (ϊ _)
  exact this
 clear hc qu nW sR Ec;unfold lit;simp only[hx];simp only[CJ,EZ,CS,CR,AM,zk,xL,wh,vh,ur,tk,sA,rK,qZ,qL,pV,pG,pf,oQ,oh,oe,od,oy,Tryz.f21,aT,aG,ϭ];refine wp_seq (wp_region_lit ?_)
 generalize hQ:Exit.then _ _=Q';repeat(first
  | (refine sx rfl rfl rfl (by kernel_rfl) (λ_ _=>?_))
  |go_step
  | (dsimp only)
  |go_upon
  |go_back
  |go_values)
 go_at_call 35
 refine(CA.e _ (Ý _ _)).mono ?_
 rintro e w1 ⟨rfl,ag⟩;have H1:=ψ ag;clear ag CA;repeat(first
  | (refine sx rfl rfl rfl (by kernel_rfl) (λ_ _=>?_))
  |go_step
  | (dsimp only)
  |go_upon
  |go_back
  |go_values)
 go_at_call 35
 refine(CB.e _ H1.e).mono ?_
 rintro e w2 ⟨rfl,ak⟩;have H2:=ψ (H1.e.trans (ak.mono H1.e.size));clear ak CB H1;repeat(first
  | (refine sx rfl rfl rfl (by kernel_rfl) (λ_ _=>?_))
  |go_step
  | (dsimp only)
  |go_upon
  |go_back
  |go_values)
 go_at_call 30
 have wZ:=CC.e (w2.alloc (Obj.cells #[ϛ ϗ 1,ϛ ϗ 1] 3)) (H2.e.alloc H2.e.size _) w2.heap.size (Bk.new _ _ _);refine wZ.mono ?_
 rintro e w3 ⟨rfl,bM⟩;have H3:=ψ ((H2.e.alloc H2.e.size _).trans (bM.mono (by have:=H2.e.size;simp;omega)))
 clear bM wZ H2 CC;repeat(first
  | (refine sx rfl rfl rfl (by kernel_rfl) (λ_ _=>?_))
  |go_step
  | (dsimp only)
  |go_upon
  |go_back
  |go_values)
 go_at_call 30
 have wZ:=CD.e (w3.alloc (Obj.cells #[ϛ ϗ 0,ϛ ϗ 1] 3)) (H3.e.alloc H3.e.size _) w3.heap.size (Bk.new _ _ _);refine wZ.mono ?_
 rintro e w4 ⟨rfl,cx⟩;have H4:=ψ ((H3.e.alloc H3.e.size _).trans (cx.mono (by have:=H3.e.size;simp;omega)))
 clear cx wZ H3 CD;repeat(first
  | (refine sx rfl rfl rfl (by kernel_rfl) (λ_ _=>?_))
  |go_step
  | (dsimp only)
  |go_upon
  |go_back
  |go_values)
 subst hQ;go_wp2;exact⟨⟨rfl,rfl,jC rfl (pe)⟩,H4.e⟩
def aqN{W:Option Addr->Nat->Nat->Option Addr->Nat->Nat->Option Addr->Nat->Nat->Ψ->Prop}(hs:Sl [(1,π (φ ⟨gE,0,ν⟩))] a)(hc:Bk w gE 26 #[ξ κ 1,ζ (φ ⟨gp,0,ν⟩) 3 3,ζ (φ ⟨gb,0,ν⟩) 2 2,ζ (φ ⟨gt,0,ν⟩) 1 1])
 (aE:ύ prog 53 #[η #[ξ κ 1,ζ (φ ⟨gp,0,ν⟩) 3 3,ζ (φ ⟨gb,0,ν⟩) 2 2,ζ (φ ⟨gt,0,ν⟩) 1 1],η #[.string TN,ξ κ 13,ζ ν 0 0]] w λe w'=>∃Ap np cp Ab nb cb At nt ct,e=Ω (μ #[η #[ξ κ 1,.slice Ap np cp,.slice Ab nb cb,.slice At nt ct],ξ κ 0])/\W Ap np cp Ab nb cb At nt ct w'):
 CK.wp prog (fG λa w=>∃Ap np cp Ab nb cb At nt ct w1,W Ap np cp Ab nb cb At nt ct w1/\Sl [(1,π (φ ⟨gE,0,ν⟩)),(5,ξ κ 0),(34,π (φ ⟨w1.heap.size,0,ν⟩))] a/\w=w1.alloc (Ξ #[ξ κ 1,.slice Ap np cp,.slice Ab nb cb,.slice At nt ct] 26)) a w:=by
 obtain⟨x,rfl,hx⟩:=hs.lit;simp only[Al] at hx;have q0:=hc.cell 0;have q1:=hc.cell 1;have q2:=hc.cell 2;have q3:=hc.cell 3;have aE:=ψ aE;clear hc;unfold lit;simp only[hx];simp only[CK,Ie,EZ,CS,CR,AM,zk,xL,wh,vh,ur,tk,sA,rK,qZ,qL,pV,pG,pf,oQ,oh,oe,od,oy,Tryz.f21,aT,aG,ϭ];go_wp2_with (go_at_call 53;refine aE.e.mono ?_;rintro e w1 ⟨Ap,np,cp,Ab,nb,cb,At,nt,ct,rfl,hp⟩;have HP:=ψ hp;clear hp)
 exact⟨_,_,_,_,_,_,_,_,_,_,HP.e,⟨rfl,rfl,jC rfl (jC rfl (jC rfl pe))⟩,rfl⟩
def aqO{X7:Nat}{Ap Ab At:Option Addr}{W:Option Addr->Nat->Nat->Ψ->Prop}(hs:Sl [(1,π (φ ⟨gE,0,ν⟩)),(5,ξ κ 0),(34,π (φ ⟨X7,0,ν⟩))] a)(hc:Bk w X7 26 #[ξ κ 1,.slice Ap np cp,.slice Ab nb cb,.slice At nt ct])
 (aE:ύ prog 33 #[η #[ξ κ 1,.slice Ap np cp,.slice Ab nb cb,.slice At nt ct]] w λe w'=>∃b7 n25 b9,e=Ω (μ #[.slice b7 n25 b9,ξ κ 1,.bool θ,ξ κ 0])/\W b7 n25 b9 w'):CM.wp prog (fG λa w=>∃b7 n25 b9,Sl [(1,π (φ ⟨gE,0,ν⟩)),(5,ξ κ 0),(7,ξ κ 0),(25,.slice b7 n25 b9),(26,ξ κ 1)] a/\W b7 n25 b9 w) a w:=by
 obtain⟨x,rfl,hx⟩:=hs.lit;simp only[Al] at hx;have q0:=hc.cell 0;have q1:=hc.cell 1;have q2:=hc.cell 2;have q3:=hc.cell 3;have aE:=ψ aE;clear hc;unfold lit;simp only[hx];simp only[CM,Lc,Ie,EZ,CS,CR,AM,zk,xL,wh,vh,ur,tk,sA,rK,qZ,qL,pV,pG,pf,oQ,oh,oe,od,oy,Tryz.f21,aT,aG,ϭ];go_wp2_with (go_at_call 33;refine aE.e.mono ?_;rintro e w1 ⟨b7,n25,b9,rfl,hp⟩;have HP:=ψ hp;clear hp)
 exact⟨b7,n25,b9,⟨rfl,rfl,(by repeat first|exact pe|refine jC rfl ?_)⟩,HP.e⟩
def aqQ{Ap Ab At:Option Addr}{W:Option Addr->Nat->Nat->Ψ->Prop}(hs:Sl [(1,π (φ ⟨gE,0,ν⟩)),(5,ξ κ 0),(7,ξ κ 0),(25,.slice b7 n25 b9),(26,ξ κ 1)] a)(hc:Bk w gE 26 #[ξ κ 1,.slice Ap np cp,.slice Ab nb cb,.slice At nt ct])
 (aE:ύ prog 56 #[η #[ξ κ 1,.slice Ap np cp,.slice Ab nb cb,.slice At nt ct]] w λe w'=>∃re n35 po,e=Ω (μ #[.slice re n35 po,ξ κ 0])/\W re n35 po w'):CN.wp prog (fG λa w=>∃re n35 po,Sl [(5,ξ κ 0),(7,ξ κ 0),(9,ξ κ 0),(25,.slice b7 n25 b9),(26,ξ κ 1),(35,.slice re n35 po)] a/\W re n35 po w) a w:=by
 obtain⟨x,rfl,hx⟩:=hs.lit;simp only[Al] at hx;have q0:=hc.cell 0;have q1:=hc.cell 1;have q2:=hc.cell 2;have q3:=hc.cell 3;have aE:=ψ aE;clear hc;unfold lit;simp only[hx];simp only[CN,OS,OR,Lc,Ie,EZ,CS,CR,AM,zk,xL,wh,vh,ur,tk,sA,rK,qZ,qL,pV,pG,pf,oQ,oh,oe,od,oy,Tryz.f21,aT,aG,ϭ];go_wp2_with (go_at_call 56;refine aE.e.mono ?_;rintro e w1 ⟨re,n35,po,rfl,hp⟩;have HP:=ψ hp;clear hp)
 exact⟨re,n35,po,⟨rfl,rfl,(by repeat first|exact pe|refine jC rfl ?_)⟩,HP.e⟩
def aqR{re:Option Addr}{n35 po:Nat}(hs:Sl [(5,ξ κ 0),(7,ξ κ 0),(9,ξ κ 0),(25,.slice b7 n25 b9),(26,ξ κ 1),(35,.slice re n35 po)] a)
 (nW:Row w w.heap.size 2 Cut.R (.slice b7 n25 b9) sJ)(MZ:Row w w.heap.size 1 cH (.slice re n35 po) [0,1,2]):
 CU.wp prog (λe a w'=>e=.ret/\a.defers=[b6]/\a.tmps.size=349/\a.tmps[0]?=φ (.bool θ)/\Γ w.heap.size w w') a w:=by
 obtain⟨x,rfl,hx⟩:=hs.lit;simp only[Al] at hx;have CA:Hid (∀W,Γ w.heap.size w W->∀g,Bk W g 56 #[ξ κ 2,ξ κ 0,ξ κ 2,ξ κ 6,ξ κ 2,ξ κ 10]->ύ prog 35 #[.slice b7 n25 b9,ζ (φ ⟨g,0,ν⟩) 3 3] W λe w'=>e=Ω (.bool θ)/\Γ W.heap.size W w'):=ψ λW hb g hg=>by
  have:=Ui (lj nW hb) (Wu sJ (by decide) hg rfl) (ϊ _)
  exact this
 have CB:Hid (∀W,Γ w.heap.size w W->∀g,Bk W g 3 #[ξ κ 0,ξ κ 1,ξ κ 2]->ύ prog 30 #[.slice re n35 po,ζ (φ ⟨g,0,ν⟩) 3 3] W λe w'=>e=Ω (.bool θ)/\Γ W.heap.size W w'):=ψ λW hb g hg=>by
  have:=L8 (lj MZ hb) (xZ [0,1,2] (by decide) hg rfl) (ϊ _)
  exact this
 clear nW MZ;unfold lit;simp only[hx];simp only[CU,OS,OR,Lc,Ie,EZ,CS,CR,AM,zk,xL,wh,vh,ur,tk,sA,rK,qZ,qL,pV,pG,pf,oQ,oh,oe,od,oy,Tryz.f21,aT,aG,ϭ];go_wp2_with (first
  | (go_at_call 66;refine(fl _ _ _).mono ?_;rintro e w1 ⟨rfl,rfl⟩)
  | (go_at_call 35;refine(CA.e _ (by repeat first|exact Ý _ _|refine ž ?_ (by simp<;>omega) _) _ (Bk.cD (by simp) _ _)).mono ?_;rintro e w5 ⟨rfl,mF⟩;have H5:Hid (Γ w.heap.size w w5):=ψ (Akx (B:=w.heap.size) (by repeat first|exact Ý _ _|refine ž ?_ (by simp<;>omega) _) (mF.mono (by simp<;>omega)));clear mF)
  | (go_at_call 30;have wZ:=CB.e (w5.alloc (Obj.cells #[ϛ ϗ 0,ϛ ϗ 1,ϛ ϗ 2] 3)) (H5.e.alloc H5.e.size _) w5.heap.size (Bk.new _ _ _);refine wZ.mono ?_;rintro e w6 ⟨rfl,mQ⟩;have H6:=ψ ((H5.e.alloc H5.e.size _).trans (mQ.mono (by have:=H5.e.size;simp;omega)));clear mQ))
 exact H6.e
end
end Go.Jn
namespace Go.Jn
open Go Go.Proofs Go.Sim Go.Conc Go.Tw Go.RowKit
def aqs{No:Nat->Prop}{sz:Nat}{R:α->List υ->Prop}{xs:List α}(h:de w No sz R v xs){p:Addr}(hp:No p.block)(u:υ):de (w.setCell p u) No sz R v xs:=by
 obtain⟨A,c,hv,h1,h2,h3⟩:=h;refine⟨A,c,hv,h1,h2,λhx=>?_⟩
 obtain⟨ad,ha,hb,hn,hc⟩:=h3 hx;refine⟨ad,ha,by simpa [World.setCell] using hb,hn,λi x hi=>?_⟩
 obtain⟨cs,r,hl,aq⟩:=hc i x hi;refine⟨cs,r,hl,λj u hu=>?_⟩
 have au:(ad.add (i * sz+j)).block≠p.block:=by rw[cq];intro e;rw[e] at hn;exact hn hp
 exact(World.cell?_of_block (Below.heap_setCell w p _ _ au)).trans (aq j u hu)
section
variable [Go.Tw.aJ]
def FJ(gk:Nat):List (aP×υ):=[(zL,ζ (φ ⟨gk,0,ν⟩) 1 1),(⟨Kq,6,[]⟩,ζ ν 0 0)]
def IW(gl g1 g2:Nat):List (Tw.Tape×υ):=[(⟨[0,2],⟨7,7⟩⟩,ζ (φ ⟨gl,0,ν⟩) 2 2),(⟨[0],⟨4,4⟩⟩,ζ (φ ⟨g1,0,ν⟩) 1 1),(⟨[2],⟨2,2⟩⟩,ζ (φ ⟨g2,0,ν⟩) 1 1)]
def ast{base:Nat}(hp:Bk W gp 72 #[.string Nu,ξ κ 4,ξ κ 5,ξ κ 0,.string Nv,ξ κ 3,ξ κ 3,ξ κ 1,.string Nt,ξ κ 2,ξ κ 3,ξ κ 0])
 (hb:Bk W gb 59 #[.string Kp,ξ κ 8,ζ (φ ⟨gk,0,ν⟩) 1 1,.string Kq,ξ κ 6,ζ ν 0 0])(hk:Bk W gk 37 #[ξ κ 3,ξ κ 3])(hl:Bk W gl 3 #[ξ κ 0,ξ κ 2])
 (h1:Bk W g1 3 #[ξ κ 0])(h2:Bk W g2 3 #[ξ κ 2])(ho:W.ownsRow base 95 3 tv 3 ((IW gl g1 g2).flatMap iC)):
 bq W W.heap.size FK (ζ (φ ⟨gp,0,ν⟩) 3 3) (ζ (φ ⟨gb,0,ν⟩) 2 2) tv:=by
 refine⟨?_,?_,?_⟩
 ·exact Dg (xs:=bg.pieces) (f:=Cv) hp (by decide) (λ_=>rfl) (λx hx=>by
   refine⟨rfl,?_⟩
   simp only[bg,ϥ,ϸ,or_false] at hx;rcases hx with rfl|rfl|rfl<;>decide) rfl
 ·have:=Dg (xs:=FJ gk) (sz:=3) (f:=j5) (R:=λp cs=>cs=j5 p) hb (by show 2<=1000;decide) (λ_=>rfl) (λ_ _=>rfl) rfl
  exact EO (ps:=FJ gk) this (λp hm cs hc=>by
   simp only[FJ,ϥ,ϸ,or_false] at hm;rcases hm with rfl|rfl
   ·exact⟨_,hc,(by show zL.name.size<=ϕ;decide),Qe [⟨3,3⟩] (by decide) hk rfl⟩
   ·exact⟨_,hc,by decide,Row.nil⟩)
 ·have:=tX (l:=IW gl g1 g2) (f:=iC) (R:=λp cs=>cs=iC p) ho (λ_=>rfl) (λ_ _=>rfl)
  exact EO (ps:=IW gl g1 g2) this (λp hm cs hc=>by
   simp only[IW,ϥ,ϸ,or_false] at hm;rcases hm with rfl|rfl|rfl
   ·exact⟨_,hc,xZ [0,2] (by decide) hl rfl⟩
   ·exact⟨_,hc,xZ [0] (by decide) h1 rfl⟩
   ·exact⟨_,hc,xZ [2] (by decide) h2 rfl⟩)
def ri{g':Nat}{t t':TypeId}{bp:Array υ}(h:Bk w g t cs)(h':Bk w g' t' bp)(ht:t≠t'):g≠g':=by
 rintro rfl;have h:w.heap[g]?=_:=h;have h':w.heap[g]?=_:=h';rw[h] at h';simp only[ï,Obj.cells.injEq] at h';exact ht h'.2.1
def apA{base sz:Nat}{e t:TypeId}{xs:List υ}(h:w.ownsRow base e sz v n xs)(hb:Bk w g t cs)(ht:e≠t):∀k,v.ownBlock=φ k->g≠k:=by
 rcases h.2 with⟨rfl,_⟩ | ⟨k,cap,cur,rfl,qm,hk,_⟩
 ·intro k hk;simp[Value.ownBlock] at hk
 ·intro k' vH
  simp[Value.ownBlock] at vH;subst vH
  exactλe=>ri (show Bk w k _ cur from hk) hb ht e.symm
def asu{W4 w6:Ψ}{v':υ}(hx:pI w0 w gE gp gb gk gt gl gc g3)(h4:Γ w.heap.size w W4)(b1:Bk W4 g1 3 #[ξ κ 0])(b2:Bk W4 g2 3 #[ξ κ 2])
 (aK:w6.ownsRow w0.heap.size 95 3 v' 3 ((IW gl g1 g2).flatMap iC))(hg:W4.grownBy w6 (φ gt)):
 Bk w6 gE 26 #[ξ κ 1,ζ (φ ⟨gp,0,ν⟩) 3 3,ζ (φ ⟨gb,0,ν⟩) 2 2,ζ (φ ⟨gt,0,ν⟩) 1 1]/\
 Bk (w6.setCell ⟨gE,3,ν⟩ v') gE 26 #[ξ κ 1,ζ (φ ⟨gp,0,ν⟩) 3 3,ζ (φ ⟨gb,0,ν⟩) 2 2,v']/\
 bq (w6.setCell ⟨gE,3,ν⟩ v') (w6.setCell ⟨gE,3,ν⟩ v').heap.size FK (ζ (φ ⟨gp,0,ν⟩) 3 3) (ζ (φ ⟨gb,0,ν⟩) 2 2) v'/\
 ∀ {A:Option Addr} {n c:Nat},de w (λk=>k=gE\/k=gt) 2 Cut.R (.slice A n c) sJ->de (w6.setCell ⟨gE,3,ν⟩ v') (λk=>k=gE\/k=gt) 2 Cut.R (.slice A n c) sJ:=by
 have up:∀ {g t cs},Bk w g t cs->g≠gt->Bk w6 g t cs:=λh au=>Bk.grown (W:=W4) (h.below h4 h.lt) hg (by simpa using au)
 have ht:=hx.ex.t;have hE:=up hx.bE (ri hx.bE ht (by decide))
 have hp:=up hx.ex.p (ri hx.ex.p ht (by decide))
 have hb:=up hx.ex.b (ri hx.ex.b ht (by decide))
 have hk:=up hx.ex.k (ri hx.ex.k ht (by decide))
 have hl:=up hx.ex.l (ri hx.ex.l ht (by decide))
 have ZX:=ht.below h4 ht.lt;have h1:Bk w6 g1 3 #[ξ κ 0]:=Bk.grown (W:=W4) b1 hg (by simpa using ri b1 ZX (by decide))
 have h2:Bk w6 g2 3 #[ξ κ 2]:=Bk.grown (W:=W4) b2 hg (by simpa using ri b2 ZX (by decide))
 have ho:=rD (u:=v') (p:=⟨gE,3,ν⟩) aK (apA aK hE (by decide))
 refine⟨hE,hE.set 3 v',ast (hp.fS (ri hp hE (by decide)) _) (hb.fS (ri hb hE (by decide)) _) (hk.fS (ri hk hE (by decide)) _) (hl.fS (ri hl hE (by decide)) _) (h1.fS (ri h1 hE (by decide)) _) (h2.fS (ri h2 hE (by decide)) _) ho,λhr=>?_⟩
 have dc:de W4 (λk=>k=gE\/k=gt) 2 Cut.R _ sJ:=hr.below h4 (λk hk=>.inl hk)
 exact aqs (dc.grown hg (λk hk=>.inr (by simpa using hk.symm))) (.inl rfl) _
end
def atx{md:Region.Mode}{Q:Exit->Act->Ψ->Prop}(I:Nat->Array Bool->Act->Ψ->Prop)
 (ft:∀n l a w i (K:Act->Ψ->Prop),I n l a w->i∈Ñ md ops l->(∀a' w',I (n+1) (l.setIfInBounds i θ) a' w'->K a' w')->wpOp P ops Q i K a w)
 (xc:∀n l a w,I n l a w->Ñ md ops l=[]->Q .normal a w)(Jp:∀l a w,I ops.size l a w->Ñ md ops l=[]):
 ∀fuel n l a w,n+fuel=ops.size->I n l a w->è P md ops Q fuel l a w:=by
 intro fuel;induction fuel with
 |zero=>
  intro n l a w hn h;have hn:n=ops.size:=hn;subst hn;exact⟨Jp l a w h,xc _ l a w h (Jp l a w h)⟩
 |succ k ih=>exactλn l a w hn h=>⟨xc n l a w h,λi hi=>ft n l a w i _ h hi λa' w' h'=>ih (n+1) _ a' w' (by omega) h'⟩
def waits(ops:Array Oper)(i:Nat):List Nat:=((ops[i]?).map λo=>(o.after.toList.filter (Region.binds .any ·)).map (·.on)).getD []
def NS:i∈Ñ .any ops l↔i<ops.size/\l.getD i θ=χ/\∀d∈waits ops i,l.getD d χ=θ:=by
 rw[mem_ready];unfold waits;constructor
 ·rintro⟨h,o,ho,ha⟩
  refine⟨(Ϝ.1 ho).1,h,λd hd=>?_⟩
  rw[ho] at hd;simp only[ç,ϭ,List.mem_map,List.mem_filter] at hd;obtain⟨e,⟨he,hb⟩,rfl⟩:=hd;exact ha e (by simpa using he) hb
 ·rintro⟨hi,h,ha⟩
  refine⟨h,ops[i],Ϝ.2 ⟨hi,rfl⟩,λe he hb=>ha _ ?_⟩
  rw[Ϝ.2 ⟨hi,rfl⟩]
  simp only[ç,ϭ,List.mem_map,List.mem_filter];exact⟨e,⟨by simpa using he,hb⟩,rfl⟩
def fu:Array Oper:=opsOf yY
def alH:Nat:=match yY with| .region i _ _=>i|_=>0
def asm:yY=.region alH fu θ:=by kernel_rfl
def GS:fu.size=12:=by kernel_rfl
def agZ:∃o,fu[0]?=φ o/\o.op=.fieldAddr 26 (.tmp 1) 3/\o.dst=φ 306/\o.guard=ν:=⟨_,rfl,rfl,rfl,rfl⟩
def ag0:∃o,fu[1]?=φ o/\o.op=.load 24 (.tmp 306)/\o.dst=φ 307/\o.guard=ν:=⟨_,rfl,rfl,rfl,rfl⟩
def ag3:∃o,fu[2]?=φ o/\o.op=.buildSlice 33 1 #[(0,.const (ξ κ 0))]/\o.dst=φ 308/\o.guard=ν:=⟨_,rfl,rfl,rfl,rfl⟩
def ag4:∃o,fu[3]?=φ o/\o.op=.call {callee:=.value (.func 50),args:=#[.const (ξ κ 4)],argTypes:=#[3]}/\o.dst=φ 309/\o.guard=ν:=⟨_,rfl,rfl,rfl,rfl⟩
def ag5:∃o,fu[4]?=φ o/\o.op=.build 95 #[(0,.tmp 308),(1,.tmp 309)]/\o.dst=φ 310/\o.guard=ν:=⟨_,rfl,rfl,rfl,rfl⟩
def ag6:∃o,fu[5]?=φ o/\o.op=.buildSlice 33 1 #[(0,.const (ξ κ 2))]/\o.dst=φ 311/\o.guard=ν:=⟨_,rfl,rfl,rfl,rfl⟩
def ag7:∃o,fu[6]?=φ o/\o.op=.call {callee:=.value (.func 50),args:=#[.const (ξ κ 2)],argTypes:=#[3]}/\o.dst=φ 312/\o.guard=ν:=⟨_,rfl,rfl,rfl,rfl⟩
def ag8:∃o,fu[7]?=φ o/\o.op=.build 95 #[(0,.tmp 311),(1,.tmp 312)]/\o.dst=φ 313/\o.guard=ν:=⟨_,rfl,rfl,rfl,rfl⟩
def ag9:∃o,fu[8]?=φ o/\o.op=.buildSlice 24 2 #[(0,.tmp 310),(1,.tmp 313)]/\o.dst=φ 314/\o.guard=ν:=⟨_,rfl,rfl,rfl,rfl⟩
def aha:∃o,fu[9]?=φ o/\o.op=.call {callee:=.builtin .append,args:=#[.tmp 307,.tmp 314],argTypes:=#[24,24]}/\o.dst=φ 315/\o.guard=ν:=⟨_,rfl,rfl,rfl,rfl⟩
def ag1:∃o,fu[10]?=φ o/\o.op=.fieldAddr 26 (.tmp 1) 3/\o.dst=φ 316/\o.guard=ν:=⟨_,rfl,rfl,rfl,rfl⟩
def ag2:∃o,fu[11]?=φ o/\o.op=.store 24 (.tmp 316) (.tmp 315)/\o.dst=ν/\o.guard=ν:=⟨_,rfl,rfl,rfl,rfl⟩
def wt1:waits fu 1=[0]:=by kernel_rfl
def OA:waits fu 4=[2,3]:=by kernel_rfl
def U7:waits fu 7=[5,6]:=by kernel_rfl
def U9:waits fu 8=[4,7]:=by kernel_rfl
def Va:waits fu 9=[1,8,6]:=by kernel_rfl
def Lb:waits fu 10=[0,1,2,3,4,5,6,7,8,9]:=by kernel_rfl
def Oz:10∈waits fu 11:=List.contains_iff_mem.1 (by kernel_rfl)
def wlt:(Ϯ 12).all (λi=>(waits fu i).all λd=>decide (d<i))=θ:=by kernel_rfl
def PY(h:Ñ .any fu l=[]):∀i,i<12->l.getD i θ=θ:=by
 intro i;induction i using Nat.strongRecOn with
 |_ i ih=>
  intro hi;cases hb:l.getD i θ with
  |true=>rfl
  |false=>
   have:i∈Ñ .any fu l:=NS.2 ⟨by rw[GS];exact hi,hb,λd hd=>by
    have aj:d<i:=by
     have:=ģ.1 (ģ.1 wlt i (ť.2 hi)) d hd;simpa using this
    have:=ih d aj (by omega)
    have hs:i<l.size:=by
     apply Classical.byContradiction;intro hn;rw[Ò,Ô (by omega)] at hb
     cases hb
    rw[Ò,Ϝ.2 ⟨by omega,rfl⟩] at this |-
    exact this⟩
   rw[h] at this;cases this
def Mf(h:i<l.size)(d e:Bool):l.getD i d=l.getD i e:=by
 rw[Ò,Ò,Ϝ.2 ⟨h,rfl⟩];rfl
def QW(h:i<l.size)(d:Bool):(l.setIfInBounds i θ).getD i d=θ:=by
 rw[Ò,Ó,if_pos rfl,if_pos h];rfl
def ags(hc:l.toList.countP id=n)(hi:i<l.size)(hb:l.getD i θ=χ):(l.setIfInBounds i θ).toList.countP id=n+1:=by
 rw[Array.toList_setIfInBounds,List.countP_set (by simpa using hi)]
 have e:l.toList[i]'(by simpa using hi)=χ:=by
  rw[Ò,Ϝ.2 ⟨hi,rfl⟩] at hb
  simpa using hb
 rw[e,hc];simp
def agr(h:l.toList.countP id=12)(hs:l.size=12):Ñ .any fu l=[]:=by
 rw[List.eq_nil_iff_forall_not_mem];intro i hi;obtain⟨h1,h2,-⟩:=NS.1 hi;rw[GS] at h1;have:=List.countP_eq_length.1 (h.trans (by simpa using hs.symm:12=l.toList.length)) (l[i]'(by omega)) (by simp)
 rw[Ò,Ϝ.2 ⟨by omega,rfl⟩] at h2
 simp only[id,ϭ] at this h2;rw[this] at h2;cases h2
end Go.Jn
namespace Go.Jn
open Go Go.Proofs Go.Sim Go.Conc Go.Tw Go.RowKit
section
variable [Go.Tw.aJ]
def FV(gE gt k:Nat)(W:Ψ)(v:υ):Prop:=match k with
 |0=>v=π (φ ⟨gE,3,ν⟩)
 |1=>v=ζ (φ ⟨gt,0,ν⟩) 1 1
 |2=>∃b,v=ζ (φ ⟨b,0,ν⟩) 1 1/\Bk W b 3 #[ξ κ 0]
 |3=>v=η #[ξ κ 4,ξ κ 4]
 |4=>∃b,v=η #[ζ (φ ⟨b,0,ν⟩) 1 1,ξ κ 4,ξ κ 4]/\Bk W b 3 #[ξ κ 0]
 |5=>∃b,v=ζ (φ ⟨b,0,ν⟩) 1 1/\Bk W b 3 #[ξ κ 2]
 |6=>v=η #[ξ κ 2,ξ κ 2]
 |7=>∃b,v=η #[ζ (φ ⟨b,0,ν⟩) 1 1,ξ κ 2,ξ κ 2]/\Bk W b 3 #[ξ κ 2]
 |_=>∃d b c,v=ζ (φ ⟨d,0,ν⟩) 2 2/\Bk W d 95 #[ζ (φ ⟨b,0,ν⟩) 1 1,ξ κ 4,ξ κ 4,ζ (φ ⟨c,0,ν⟩) 1 1,ξ κ 2,ξ κ 2]/\Bk W b 3 #[ξ κ 0]/\Bk W c 3 #[ξ κ 2]
def FV.below{gE gt k:Nat}{W W':Ψ}{v:υ}(h:FV gE gt k W v)(hb:Γ W.heap.size W W'):FV gE gt k W' v:=by
 have up:∀ {g t cs},Bk W g t cs->Bk W' g t cs:=λh=>h.below hb h.lt
 unfold FV at *;split at h<;>first
  |exact h
  | (obtain⟨b,e,h⟩:=h;exact⟨b,e,up h⟩)
  | (obtain⟨d,b,c,e,h1,h2,h3⟩:=h;exact⟨d,b,c,e,up h1,up h2,up h3⟩)
def BK(W:Ψ)(gE gp gb:Nat)(v:υ):Prop:=Bk W gE 26 #[ξ κ 1,ζ (φ ⟨gp,0,ν⟩) 3 3,ζ (φ ⟨gb,0,ν⟩) 2 2,v]
def Vy(gE gp gb:Nat)(v25:υ)(W:Ψ)(v:υ):Prop:=∃A n c,v=.slice A n c/\BK W gE gp gb (.slice A n c)/\bq W W.heap.size FK (ζ (φ ⟨gp,0,ν⟩) 3 3) (ζ (φ ⟨gb,0,ν⟩) 2 2) (.slice A n c)/\Row W W.heap.size 2 Cut.R v25 sJ
def PM(gE gp gb gt:Nat)(v25:υ)(W:Ψ)(v:υ):Prop:=BK W gE gp gb (ζ (φ ⟨gt,0,ν⟩) 1 1)/\Vy gE gp gb v25 (W.setCell ⟨gE,3,ν⟩ v) v
structure Fb(m:List (Nat×υ))(w:Ψ)(gE gp gb gt:Nat)(v25:υ)(n:Nat)(l:Array Bool)(a:Act)(W:Ψ):Prop where
 sz:l.size=12
 cnt:l.toList.countP id=n
 cl:∀k,l.getD k χ=θ->∀d∈waits fu k,l.getD d χ=θ
 sl:Sl m a
 ph:(l.getD 9 χ=χ/\Γ w.heap.size w W/\∀k,k<9->l.getD k χ=θ->∃v,a.tmps[306+k]?=φ v/\FV gE gt k W v)\/
  (l.getD 9 χ=θ/\l.getD 10 χ=χ/\∃v,a.tmps[315]?=φ v/\PM gE gp gb gt v25 W v)\/
  (l.getD 10 χ=θ/\l.getD 11 χ=χ/\∃v,a.tmps[315]?=φ v/\a.tmps[316]?=φ (π (φ ⟨gE,3,ν⟩))/\PM gE gp gb gt v25 W v)\/
  (l.getD 11 χ=θ/\∃v,Vy gE gp gb v25 W v)
def Ut{m:List (Nat×υ)}(h:Sl m a)(hm:∀p∈m,p.1<306)(hd:306<=d)(v:υ):Sl m (a.put (φ d) v):=by
 refine⟨h.1,by simpa [Act.put] using h.2.1,λp hp=>?_⟩
 have:=h.2.2 p hp;have:=hm p hp;simp only[Act.put];rw[Ó,if_neg (by omega)]
 exact h.2.2 p hp
section
variable {m:List (Nat×υ)}{w:Ψ}{gE gp gb gt:Nat}{v25:υ}{n:Nat}{l:Array Bool}{a:Act}{W:Ψ}
def Fb.next(h:Fb m w gE gp gb gt v25 n l a W)(hi:i∈Ñ .any fu l):
 (l.setIfInBounds i θ).size=12/\(l.setIfInBounds i θ).toList.countP id=n+1/\(∀k,(l.setIfInBounds i θ).getD k χ=θ->∀d∈waits fu k,(l.setIfInBounds i θ).getD d χ=θ):=by
 obtain⟨h1,h2,h3⟩:=NS.1 hi;rw[GS] at h1;have hs:=h.sz;refine⟨by simpa using hs,ags h.cnt (by omega) h2,λk hk d hd=>?_⟩
 by_cases xf:i=k
 ·subst xf
  exact getD_set_true (h3 d hd)
 ·rw[Akt χ xf] at hk
  exact getD_set_true (h.cl k hk d hd)
def Fb.one(h:Fb m w gE gp gb gt v25 n l a W)(hm:∀p∈m,p.1<306)(h9:l.getD 9 χ=χ)(hb:Γ w.heap.size w W)(hf:∀k,k<9->l.getD k χ=θ->∃v,a.tmps[306+k]?=φ v/\FV gE gt k W v)
 (hi:i∈Ñ .any fu l)(Jx:i<9){W':Ψ}(hW:Γ W.heap.size W W')(hv:FV gE gt i W' v):
 Fb m w gE gp gb gt v25 (n+1) (l.setIfInBounds i θ) (a.put (φ (306+i)) v) W':=by
 obtain⟨n1,n2,n3⟩:=h.next hi;refine⟨n1,n2,n3,Ut h.sl hm (by omega) v,.inl ⟨by rw[Akt χ (by omega)];exact h9,hb.trans (hW.mono hb.size),λk hk hl=>?_⟩⟩
 simp only[Act.put];by_cases xf:i=k
 ·subst xf
  have hs:=h.sl.2.1;exact⟨v,by rw[Ó,if_pos rfl,if_pos (by omega)],hv⟩
 ·rw[Akt χ xf] at hl
  obtain⟨u,hu,hfu⟩:=hf k hk hl;exact⟨u,by rw[Ó,if_neg (by omega)];exact hu,hfu.below hW⟩
def ES{K:Act->Ψ->Prop}{Q:Exit->Act->Ψ->Prop}(ho:fu[i]?=φ o)(hg:o.guard=ν)(h:Oper.wp prog o a W K Q):wpOp prog fu Q i K a W:=by
 unfold wpOp;rw[ho];simp only[cg hg,if_true];exact .inl h
def ev{k:Nat}(h:a.tmps[k]?=φ v):a.eval (.tmp k)=v:=by
 unfold Act.eval;simp[h]
def acS{K:Act->Ψ->Prop}{Q:Exit->Act->Ψ->Prop}(ho:fu[i]?=φ o)(ae:o.op=.fieldAddr 26 (.tmp 1) 3)(hd:o.dst=φ d)(hg:o.guard=ν)(h1:a.tmps[1]?=φ (π (φ ⟨gE,0,ν⟩)))(h:K (a.put (φ d) (π (φ ⟨gE,3,ν⟩))) W):wpOp prog fu Q i K a W:=by
 refine ES ho hg ?_
 have e:=ev h1;obtain⟨d,op,ty,ps,af,gu⟩:=o;simp only at ae hd hg;subst ae hd hg;clear ho;go_simp;exact h
def ata{K:Act->Ψ->Prop}{Q:Exit->Act->Ψ->Prop}(h1:a.tmps[306]?=φ (π (φ ⟨gE,3,ν⟩)))(hc: W.cell? ⟨gE,3,ν⟩=φ (ζ (φ ⟨gt,0,ν⟩) 1 1))(h:K (a.put (φ 307) (ζ (φ ⟨gt,0,ν⟩) 1 1)) W):wpOp prog fu Q 1 K a W:=by
 obtain⟨o,ho,ae,hd,hg⟩:=ag0;refine ES ho hg ?_
 have e:=ev h1;obtain⟨d,op,ty,ps,af,gu⟩:=o;simp only at ae hd hg;subst ae hd hg;clear ho;go_simp;exact h
def acT{K:Act->Ψ->Prop}{Q:Exit->Act->Ψ->Prop}(ho:fu[i]?=φ o)(ae:o.op=.buildSlice 33 1 #[(0,.const (ξ κ z))])(hd:o.dst=φ d)(hg:o.guard=ν)(h:K (a.put (φ d) (ζ (φ ⟨W.heap.size,0,ν⟩) 1 1)) (W.alloc (Ξ #[ξ κ z] 3))):wpOp prog fu Q i K a W:=by
 refine ES ho hg ?_
 obtain⟨d,op,ty,ps,af,gu⟩:=o;simp only at ae hd hg;subst ae hd hg;clear ho;go_simp;exact h
def acU{d:Nat}{z:Int}{K:Act->Ψ->Prop}{Q:Exit->Act->Ψ->Prop}(ho:fu[i]?=φ o)(ae:o.op=.call {callee:=.value (.func 50),args:=#[.const (ξ κ z)],argTypes:=#[3]})(hd:o.dst=φ d)(hg:o.guard=ν)(h:K (a.put (φ d) (η #[ξ κ z,ξ κ z])) (W.alloc (Ξ #[ξ κ z,ξ κ z] 37))):wpOp prog fu Q i K a W:=by
 refine ES ho hg ?_
 obtain⟨d,op,ty,ps,af,gu⟩:=o;simp only at ae hd hg;subst ae hd hg;clear ho;go_simp
 go_at_call 50
 refine(EG _ _).mono ?_
 rintro e w1 ⟨rfl,rfl⟩;exact h
def acV{s1 s2:Nat}{b:Nat}{K:Act->Ψ->Prop}{Q:Exit->Act->Ψ->Prop}(ho:fu[i]?=φ o)(ae:o.op=.build 95 #[(0,.tmp s1),(1,.tmp s2)])(hd:o.dst=φ d)(hg:o.guard=ν)(h1:a.tmps[s1]?=φ (ζ (φ ⟨b,0,ν⟩) 1 1))(h2:a.tmps[s2]?=φ (η #[ξ κ z,ξ κ z]))(h:K (a.put (φ d) (η #[ζ (φ ⟨b,0,ν⟩) 1 1,ξ κ z,ξ κ z])) W):wpOp prog fu Q i K a W:=by
 refine ES ho hg ?_
 have e:=ev h1;have e':=ev h2;obtain⟨d,op,ty,ps,af,gu⟩:=o;simp only at ae hd hg;subst ae hd hg;clear ho;go_simp;exact h
def atc{b:Nat}{K:Act->Ψ->Prop}{Q:Exit->Act->Ψ->Prop}(h1:a.tmps[310]?=φ (η #[ζ (φ ⟨b,0,ν⟩) 1 1,ξ κ 4,ξ κ 4]))(h2:a.tmps[313]?=φ (η #[ζ (φ ⟨c,0,ν⟩) 1 1,ξ κ 2,ξ κ 2]))
 (h:K (a.put (φ 314) (ζ (φ ⟨W.heap.size,0,ν⟩) 2 2)) (W.alloc (Ξ #[ζ (φ ⟨b,0,ν⟩) 1 1,ξ κ 4,ξ κ 4,ζ (φ ⟨c,0,ν⟩) 1 1,ξ κ 2,ξ κ 2] 95))):wpOp prog fu Q 8 K a W:=by
 obtain⟨o,ho,ae,hd,hg⟩:=ag9;refine ES ho hg ?_
 have e:=ev h1;have e':=ev h2;obtain⟨d,op,ty,ps,af,gu⟩:=o;simp only at ae hd hg;subst ae hd hg;clear ho;go_simp;exact h
def atb{A:Option Addr}{k:Nat}{u:υ}{K:Act->Ψ->Prop}{Q:Exit->Act->Ψ->Prop}(h1:a.tmps[316]?=φ (π (φ ⟨gE,3,ν⟩)))(h2:a.tmps[315]?=φ (.slice A k c))(hc: W.cell? ⟨gE,3,ν⟩=φ u)(hf: W.frozen? ⟨gE,3,ν⟩=χ)(h:K a (W.setCell ⟨gE,3,ν⟩ (.slice A k c))):wpOp prog fu Q 11 K a W:=by
 obtain⟨o,ho,ae,hd,hg⟩:=ag2;refine ES ho hg ?_
 have e:=ev h1;have e':=ev h2;obtain⟨d,op,ty,ps,af,gu⟩:=o;simp only at ae hd hg;subst ae hd hg;clear ho;go_simp;exact h
def as9{b:Nat}{K:Act->Ψ->Prop}{Q:Exit->Act->Ψ->Prop}(hx:pI w0 w gE gp gb gk gt gl gc g3)(nW:de w (λk=>k=gE\/k=gt) 2 Cut.R (.slice b7 n25 b9) sJ)
 (hb:Γ w.heap.size w W)(h1:a.tmps[307]?=φ (ζ (φ ⟨gt,0,ν⟩) 1 1))(h2:a.tmps[314]?=φ (ζ (φ ⟨b,0,ν⟩) 2 2))
 (hn:Bk W b 95 #[ζ (φ ⟨g1,0,ν⟩) 1 1,ξ κ 4,ξ κ 4,ζ (φ ⟨g2,0,ν⟩) 1 1,ξ κ 2,ξ κ 2])(b1:Bk W g1 3 #[ξ κ 0])(b2:Bk W g2 3 #[ξ κ 2])
 (h:∀v w',PM gE gp gb gt (.slice b7 n25 b9) w' v->K (a.put (φ 315) v) w'):wpOp prog fu Q 9 K a W:=by
 obtain⟨o,ho,ae,hd,hg⟩:=aha;obtain⟨i0,di,dp,aS,bu⟩:=info_parts S4;have avK:w.ownsRow w0.heap.size 95 3 (ζ (φ ⟨gt,0,ν⟩) 1 1) 1 [ζ (φ ⟨gl,0,ν⟩) 2 2,ξ κ 7,ξ κ 7]:=
  ⟨rfl,.inr ⟨gt,1,_,rfl,hx.ex.ht,hx.ex.t,ϊ _,by unfold ϕ;omega,rfl,rfl⟩⟩
 have apz:W.ownsRow w0.heap.size 95 3 (ζ (φ ⟨gt,0,ν⟩) 1 1) 1 [ζ (φ ⟨gl,0,ν⟩) 2 2,ξ κ 7,ξ κ 7]:=
  ⟨rfl,.inr ⟨gt,1,_,rfl,hx.ex.ht,hx.ex.t.below hb hx.ex.t.lt,ϊ _,by unfold ϕ;omega,rfl,rfl⟩⟩
 have lw:w0.heap.size<=W.heap.size:=ϣ hx.below.size hb.size;refine wpOp_step ho λK' hK=>?_
 refine AD (Q:=Q) hg (.tmp 307) (.tmp 314) 24 ae w0.heap.size 95 i0 (η #[ζ ν 0 0,ξ κ 0,ξ κ 0]) 3 40 (U Tryz.underlying24) di dp aS bu rfl (by decide) (ζ (φ ⟨gt,0,ν⟩) 1 1) 1 _ (ev h1) apz ⟨b,0,ν⟩ 2 2
  [ζ (φ ⟨g1,0,ν⟩) 1 1,ξ κ 4,ξ κ 4,ζ (φ ⟨g2,0,ν⟩) 1 1,ξ κ 2,ξ κ 2] (ev h2) rfl (λj u hu=>by
    rw[uG];have:=hn.cell j;exact(by simpa using this.trans (by simpa using hu))) (by simp[Value.oneCell']) (by simp only[ϕ];omega) (by omega) lw ?_
 intro v' w6 aK pz;rw[hd];refine hK _ _ (h _ _ ?_)
 obtain⟨hE,Bw,hB,hR⟩:=asu hx hb b1 b2 aK pz;obtain⟨A',n',c',rfl⟩:=vV aK;exact⟨hE,A',n',c',rfl,Bw,hB,(hR nW).row⟩
end
set_option maxRecDepth 4000 in
def aqP(hs:Sl [(1,π (φ ⟨gE,0,ν⟩)),(5,ξ κ 0),(7,ξ κ 0),(25,.slice b7 n25 b9),(26,ξ κ 1)] a)
 (hx:pI w0 w gE gp gb gk gt gl gc g3)(nW:de w (λk=>k=gE\/k=gt) 2 Cut.R (.slice b7 n25 b9) sJ):
 yY.wp prog (fG λa W=>∃A n c,Sl [(1,π (φ ⟨gE,0,ν⟩)),(5,ξ κ 0),(7,ξ κ 0),(25,.slice b7 n25 b9),(26,ξ κ 1)] a/\
  Bk W gE 26 #[ξ κ 1,ζ (φ ⟨gp,0,ν⟩) 3 3,ζ (φ ⟨gb,0,ν⟩) 2 2,.slice A n c]/\bq W W.heap.size FK (ζ (φ ⟨gp,0,ν⟩) 3 3) (ζ (φ ⟨gb,0,ν⟩) 2 2) (.slice A n c)/\Row W W.heap.size 2 Cut.R (.slice b7 n25 b9) sJ) a w:=by
 rw[asm];refine wp_region_any (by kernel_rfl) ?_
 have hm:∀p∈([(1,π (φ ⟨gE,0,ν⟩)),(5,ξ κ 0),(7,ξ κ 0),(25,.slice b7 n25 b9),(26,ξ κ 1)]:List (Nat×υ)),p.1<306:=by simp
 refine atx (Fb [(1,π (φ ⟨gE,0,ν⟩)),(5,ξ κ 0),(7,ξ κ 0),(25,.slice b7 n25 b9),(26,ξ κ 1)] w gE gp gb gt (.slice b7 n25 b9)) ?step ?fin (λl a w h=>agr (by rw[h.cnt,GS]) h.sz) fu.size 0 _ a _ (by omega) ?start
 case start=>
  rw[GS];exact⟨by simp,by simp,λk hk=>by simp[Akq] at hk;split at hk<;>simp at hk,hs,.inl ⟨by simp,oT (Ý _ _),λk _ hk=>by simp[Akq] at hk;split at hk<;>simp at hk⟩⟩
 case fin=>
  intro n l a W h hr;have Bu:=Mf (l:=l) (i:=11) (by rw[h.sz];omega) θ χ
  have vB:=Mf (l:=l) (i:=10) (by rw[h.sz];omega) θ χ
  have h9:=Mf (l:=l) (i:=9) (by rw[h.sz];omega) θ χ
  rw[PY hr 11 (by omega)] at Bu
  rw[PY hr 10 (by omega)] at vB
  rw[PY hr 9 (by omega)] at h9
  rcases h.ph with h'|h'|h'| ⟨-,v,A,n,c,rfl,h1,h2,h3⟩
  ·rw[<-h9] at h';cases h'.1
  ·rw[<-vB] at h';cases h'.2.1
  ·rw[<-Bu] at h';cases h'.2.1
  ·exact⟨A,n,c,h.sl,h1,h2,h3⟩
 case step=>
  intro n l a W i K h hi hK;obtain⟨Jw,BN,nw⟩:=NS.1 hi;rw[GS] at Jw;have e1:a.tmps[1]?=φ (π (φ ⟨gE,0,ν⟩)):=h.sl.get (by simp)
  have Se:=h.sz;have oH:=h.sl.2.1;have jz:l.getD i χ=χ:=(Mf (by omega) _ _).trans BN
  rcases h.ph with⟨h9,hb,hf⟩ | ⟨h9,vB,v,hv,hM⟩ | ⟨vB,Bu,v,hv,hp,hM⟩ | ⟨Bu,v,hF⟩
  ·have one:=λ{v:υ} {W':Ψ} (Jx:i<9) (hW:Γ W.heap.size W W') (hv:FV gE gt i W' v)=>hK _ _ (h.one hm h9 hb hf hi Jx hW hv)
   match i,Jw with
   |0,_=>obtain⟨o,ho,ae,hd,hg⟩:=agZ;exact acS ho ae hd hg e1 (one (by omega) (Ý _ _) rfl)
   |1,_=>
    obtain⟨v,hv,J1⟩:=hf 0 (by omega) (nw 0 (by rw[wt1];simp))
    exact ata (hv.trans (congrArg φ J1)) ((hx.bE.below hb hx.bE.lt).cell 3) (one (by omega) (Ý _ _) rfl)
   |2,_=>obtain⟨o,ho,ae,hd,hg⟩:=ag3;exact acT ho ae hd hg (one (by omega) ((Ý _ _).alloc (ϊ _) _) ⟨_,rfl,Bk.new _ _ _⟩)
   |3,_=>obtain⟨o,ho,ae,hd,hg⟩:=ag4;exact acU ho ae hd hg (one (by omega) ((Ý _ _).alloc (ϊ _) _) rfl)
   |4,_=>
    obtain⟨v,hv,b,rfl,h1⟩:=hf 2 (by omega) (nw 2 (by rw[OA];simp))
    obtain⟨u,hu,rfl⟩:=hf 3 (by omega) (nw 3 (by rw[OA];simp))
    obtain⟨o,ho,ae,hd,hg⟩:=ag5;exact acV ho ae hd hg hv hu (one (by omega) (Ý _ _) ⟨b,rfl,h1⟩)
   |5,_=>obtain⟨o,ho,ae,hd,hg⟩:=ag6;exact acT ho ae hd hg (one (by omega) ((Ý _ _).alloc (ϊ _) _) ⟨_,rfl,Bk.new _ _ _⟩)
   |6,_=>obtain⟨o,ho,ae,hd,hg⟩:=ag7;exact acU ho ae hd hg (one (by omega) ((Ý _ _).alloc (ϊ _) _) rfl)
   |7,_=>
    obtain⟨v,hv,b,rfl,h1⟩:=hf 5 (by omega) (nw 5 (by rw[U7];simp))
    obtain⟨u,hu,rfl⟩:=hf 6 (by omega) (nw 6 (by rw[U7];simp))
    obtain⟨o,ho,ae,hd,hg⟩:=ag8;exact acV ho ae hd hg hv hu (one (by omega) (Ý _ _) ⟨b,rfl,h1⟩)
   |8,_=>
    obtain⟨v,hv,b,rfl,h1⟩:=hf 4 (by omega) (nw 4 (by rw[U9];simp))
    obtain⟨u,hu,c,rfl,h2⟩:=hf 7 (by omega) (nw 7 (by rw[U9];simp))
    have hB:Γ W.heap.size W (W.alloc (Ξ #[ζ (φ ⟨b,0,ν⟩) 1 1,ξ κ 4,ξ κ 4,ζ (φ ⟨c,0,ν⟩) 1 1,ξ κ 2,ξ κ 2] 95)):=(Ý _ _).alloc (ϊ _) _;exact atc hv hu (one (by omega) hB ⟨_,b,c,rfl,Bk.new _ _ _,h1.below hB h1.lt,h2.below hB h2.lt⟩)
   |9,_=>
    obtain⟨v,hv,rfl⟩:=hf 1 (by omega) (nw 1 (by rw[Va];simp))
    obtain⟨u,hu,d,b,c,rfl,h0,h1,h2⟩:=hf 8 (by omega) (nw 8 (by rw[Va];simp))
    obtain⟨n1,n2,n3⟩:=h.next hi;refine as9 hx nW hb hv hu h0 h1 h2 λv w' hM=>hK _ _ ⟨n1,n2,n3,Ut h.sl hm (by omega) v,.inr (.inl ⟨QW (by omega) _,?_,v,?_,hM⟩)⟩
    ·rw[Akt χ (by omega)]
     cases vB:l.getD 10 χ with
     |false=>rfl
     |true=>rw[h.cl 10 vB 9 (by rw[Lb];simp)] at h9;cases h9
    ·simp only[Act.put]
     rw[Ó,if_pos rfl,if_pos (by omega)]
   |10,_=>rw[nw 9 (by rw[Lb];simp)] at h9;cases h9
   |11,_=>rw[h.cl 10 (nw 10 Oz) 9 (by rw[Lb];simp)] at h9;cases h9
  ·have c8:=h.cl 9 h9
   rw[Va] at c8;have f8:=c8 8 (by simp)
   have f1:=c8 1 (by simp)
   have f6:=c8 6 (by simp)
   have c4:=h.cl 8 f8;rw[U9] at c4;have f4:=c4 4 (by simp)
   have f7:=c4 7 (by simp)
   have f0:=h.cl 1 f1 0 (by rw[wt1];simp)
   have f2:=h.cl 4 f4 2 (by rw[OA];simp)
   have f3:=h.cl 4 f4 3 (by rw[OA];simp)
   have f5:=h.cl 7 f7 5 (by rw[U7];simp)
   match i,Jw with
   |0,_=>rw[f0] at jz;cases jz
   |1,_=>rw[f1] at jz;cases jz
   |2,_=>rw[f2] at jz;cases jz
   |3,_=>rw[f3] at jz;cases jz
   |4,_=>rw[f4] at jz;cases jz
   |5,_=>rw[f5] at jz;cases jz
   |6,_=>rw[f6] at jz;cases jz
   |7,_=>rw[f7] at jz;cases jz
   |8,_=>rw[f8] at jz;cases jz
   |9,_=>rw[h9] at jz;cases jz
   |10,_=>
    obtain⟨n1,n2,n3⟩:=h.next hi;obtain⟨o,ho,ae,hd,hg⟩:=ag1;refine acS ho ae hd hg e1 (hK _ _ ⟨n1,n2,n3,Ut h.sl hm (by omega) _,.inr (.inr (.inl ⟨QW (by omega) _,?_,v,?_,?_,hM⟩))⟩)
    ·rw[Akt χ (by omega)]
     cases Bu:l.getD 11 χ with
     |false=>rfl
     |true=>rw[h.cl 11 Bu 10 Oz] at vB;cases vB
    ·simp only[Act.put]
     rw[Ó,if_neg (by omega)];exact hv
    ·simp only[Act.put]
     rw[Ó,if_pos rfl,if_pos (by omega)]
   |11,_=>rw[nw 10 Oz] at vB;cases vB
  ·have c10:=h.cl 10 vB
   rw[Lb] at c10;have aiX:i=11:=by
    apply Classical.byContradiction;intro au;rcases Nat.lt_or_ge i 10 with h'|h'
    ·have:=c10 i (by simp;omega)
     rw[this] at jz;cases jz
    ·have:i=10:=by omega
     subst this;rw[vB] at jz;cases jz
   subst aiX;obtain⟨n1,n2,n3⟩:=h.next hi;obtain⟨hE,A,k,c,rfl,hF⟩:=hM;have Bw:Bk W gE 26 _:=hE;exact atb hp hv (Bw.cell 3) (Bw.frozen 3) (hK _ _ ⟨n1,n2,n3,h.sl,.inr (.inr (.inr ⟨QW (by omega) _,_,A,k,c,rfl,hF⟩))⟩)
  ·have WR:=h.cl 11 Bu 10 Oz
   have c10:=h.cl 10 WR;rw[Lb] at c10;exfalso;rcases Nat.lt_or_ge i 10 with h'|h'
   ·have:=c10 i (by simp;omega)
    rw[this] at jz;cases jz
   ·have:i=10\/i=11:=by omega
    rcases this with rfl|rfl
    ·rw[WR] at jz;cases jz
    ·rw[Bu] at jz;cases jz
def ara(w:Ψ)(x:Nat->υ):ky prog [AF,AG,AH] (fG (FA w)) ⟨(lit x).toArray,[b6]⟩ w:=by
 unfold lit;unfold ky ky ky ky;simp only[AF,AG,AH,oh,oe,od,oy,Tryz.f21,aT,aG,ϭ];go_wp2_with (first
  | (go_at_call 94;refine(ahW _).mono ?_;rintro e w1 ⟨gp,gb,gk,gt,gl,rfl,hex,ag⟩
     have HX:=ψ (And.intro hex ag);clear hex ag)
  | (go_at_call 95;refine(agK _).mono ?_;rintro e w2 ⟨gc,rfl,DY,gW,ak⟩
     have VU:=ψ (And.intro DY (And.intro gW ak));clear DY gW ak))
 have BB:Bk (w2.alloc (Ξ #[ξ κ 1,ζ (φ ⟨gp,0,ν⟩) 3 3,ζ (φ ⟨gb,0,ν⟩) 2 2,ζ (φ ⟨gt,0,ν⟩) 1 1] 26)) gc 56 #[ξ κ 1,ξ κ 0,ξ κ 0,ξ κ 0,ξ κ 0,ξ κ 4]:=VU.e.2.1.alloc _;have Q7:Bk (w2.alloc (Ξ #[ξ κ 1,ζ (φ ⟨gp,0,ν⟩) 3 3,ζ (φ ⟨gb,0,ν⟩) 2 2,ζ (φ ⟨gt,0,ν⟩) 1 1] 26)) w2.heap.size 26 #[ξ κ 1,ζ (φ ⟨gp,0,ν⟩) 3 3,ζ (φ ⟨gb,0,ν⟩) 2 2,ζ (φ ⟨gt,0,ν⟩) 1 1]:=Bk.new _ _ _;have DN:Γ w2.heap.size w2 (w2.alloc (Ξ #[ξ κ 1,ζ (φ ⟨gp,0,ν⟩) 3 3,ζ (φ ⟨gb,0,ν⟩) 2 2,ζ (φ ⟨gt,0,ν⟩) 1 1] 26)):=(Ý _ _).alloc (ϊ _) _;generalize (w2.alloc (Ξ #[ξ κ 1,ζ (φ ⟨gp,0,ν⟩) 3 3,ζ (φ ⟨gb,0,ν⟩) 2 2,ζ (φ ⟨gt,0,ν⟩) 1 1] 26))=V at BB Q7 DN |-
 have c0: V.cell? ⟨gc,0,ν⟩=φ (ξ κ 1):=BB.cell 0;have c1: V.cell? ⟨gc,1,ν⟩=φ (ξ κ 0):=BB.cell 1;have c2: V.cell? ⟨gc,2,ν⟩=φ (ξ κ 0):=BB.cell 2;have c3: V.cell? ⟨gc,3,ν⟩=φ (ξ κ 0):=BB.cell 3;have lc:gc<V.heap.size:=BB.lt;have lc':gc<=V.heap.size:=by omega
 have HV:=ψ (And.intro BB (And.intro Q7 DN));clear BB Q7 DN;go_region_with (go_at_call 66;refine(fl _ _ _).mono ?_;rintro e w3 ⟨rfl,rfl⟩)
 all_goals
  show FA w _ _;refine⟨rfl,rfl,rfl,_,gp,gb,gk,gt,gl,gc,_,rfl,rfl,rfl,?_⟩
  have iw:=VU.e.2.2;have aS:=HX.e.2.size;have bu:=iw.size;have h0:C7 V w.heap.size gp gb gk gt gl:=⟨(HX.e.1.p.below iw HX.e.1.p.lt).below HV.e.2.2 (HX.e.1.p.below iw HX.e.1.p.lt).lt,(HX.e.1.b.below iw HX.e.1.b.lt).below HV.e.2.2 (HX.e.1.b.below iw HX.e.1.b.lt).lt,(HX.e.1.k.below iw HX.e.1.k.lt).below HV.e.2.2 (HX.e.1.k.below iw HX.e.1.k.lt).lt,(HX.e.1.t.below iw HX.e.1.t.lt).below HV.e.2.2 (HX.e.1.t.below iw HX.e.1.t.lt).lt,(HX.e.1.l.below iw HX.e.1.l.lt).below HV.e.2.2 (HX.e.1.l.below iw HX.e.1.l.lt).lt,HX.e.1.hp,HX.e.1.hb,HX.e.1.hk,HX.e.1.ht,HX.e.1.hl⟩;have fF:Γ w.heap.size w V:=(HX.e.2.trans (iw.mono aS)).trans (HV.e.2.2.mono (by omega))
  exact ah0 h0 HV.e.2.1 HV.e.1 fF (by omega)
def FD(w0:Ψ)(a:Act)(w:Ψ):Prop:=∃gE gp gb gk gt gl gc g3 fq n22 c22 b7 n25 b9 ik n28 im pg n31 pn,
 Sl [(0,.bool χ),(1,π (φ ⟨gE,0,ν⟩)),(2,ζ (φ ⟨gc,0,ν⟩) 3 3),(3,ζ (φ ⟨g3,0,ν⟩) 3 3),(5,ξ κ 0),(7,ξ κ 0),(9,ξ κ 0),(11,ξ κ 0),(13,ξ κ 0),(15,ξ κ 0),(20,ξ κ 1),(21,ξ κ 0),(22,.slice fq n22 c22),(23,ζ ν 0 0),(24,ξ κ 8),(25,.slice b7 n25 b9),(26,ξ κ 2),(27,.bool θ),(28,.slice ik n28 im),(29,ξ κ 14),(30,.bool θ),(31,.slice pg n31 pn)] a/\
 pI w0 w gE gp gb gk gt gl gc g3/\Row w w.heap.size 1 cH (.slice fq n22 c22) [1,1]/\Row w w.heap.size 2 Cut.R (.slice b7 n25 b9) fM/\Row w w.heap.size 2 Cut.R (.slice ik n28 im) fM/\Row w w.heap.size 1 cH (.slice pg n31 pn) [0,1]
def FE(a:Act)(w:Ψ):Prop:=∃b7 n25 b9 re n35 po,Sl [(5,ξ κ 0),(7,ξ κ 0),(9,ξ κ 0),(25,.slice b7 n25 b9),(26,ξ κ 1),(35,.slice re n35 po)] a/\
 Row w w.heap.size 2 Cut.R (.slice b7 n25 b9) sJ/\Row w w.heap.size 1 cH (.slice re n35 po) [0,1,2]
def ahz:Fz FK=[0,1,2]:=by decide+kernel
def NZ{sz:Nat}{R:α->List υ->Prop}{xs:List α}(h:Row w B sz R v xs):∃A n c,v=.slice A n c:=by
 obtain⟨A,c,e,_⟩:=h;exact⟨A,_,c,e⟩
def aq9(hm:nB w0)(hf:FD w0 a w):ky prog [CH,CJ,CK,CM,yY,CN] (fG FE) a w:=by
 obtain⟨gE,gp,gb,gk,gt,gl,gc,g3,fq,n22,c22,b7,n25,b9,ik,n28,im,pg,n31,pn,hs,hx,qu,nW,sR,Ec⟩:=hf;refine pF (aqL (W:=λw'=>Γ w.heap.size w w') hs hx.bE ?c19) ?_
 case c19=>
  refine(aeN (ϊ _) (rq hx.ex) IV).mono ?_
  rintro e w' ⟨rfl,hb⟩;exact⟨by rw[ahx],hb⟩
 rintro a w1 ⟨hs,hb⟩;replace hx:=hx.grown hb;replace qu:=lj qu hb;replace nW:=lj nW hb;replace sR:=lj sR hb;replace Ec:=lj Ec hb;clear hb;refine pF (aqM hs hx.qQ qu nW sR Ec) ?_
 rintro a w2 ⟨hs,hb⟩;replace hx:=hx.grown hb;clear hb qu nW sR Ec;refine pF (aqN (W:=λAp np cp Ab nb cb At nt ct w'=>bq w' w'.heap.size (kZ bg nE) (.slice Ap np cp) (.slice Ab nb cb) (.slice At nt ct)/\Γ w2.heap.size w2 w') hs hx.bE ?c21) ?_
 case c21=>
  refine(aeH (x:=nE) (kv:=ζ ν 0 0) (ϊ _) (rq hx.ex) (by show TN.size<=ϕ;decide) Row.nil Dm ahv).mono ?_
  rintro e w' ⟨oN,oz,mK,rfl,ai,hb⟩;obtain⟨Ap,np,cp,rfl⟩:=NZ ai.pieces;obtain⟨Ab,nb,cb,rfl⟩:=NZ ai.aF;obtain⟨At,nt,ct,rfl⟩:=NZ ai.aM;exact⟨Ap,np,cp,Ab,nb,cb,At,nt,ct,rfl,ai,hb⟩
 rintro a w3 ⟨Ap,np,cp,Ab,nb,cb,At,nt,ct,xG,⟨ai,hb⟩,hs,rfl⟩;have ak:Γ w2.heap.size w2 (xG.alloc (Ξ #[ξ κ 1,.slice Ap np cp,.slice Ab nb cb,.slice At nt ct] 26)):=hb.alloc hb.size _;replace hx:=hx.grown ak;have uN:Γ xG.heap.size xG (xG.alloc (Ξ #[ξ κ 1,.slice Ap np cp,.slice Ab nb cb,.slice At nt ct] 26)):=(Ý _ _).alloc (ϊ _) _;have ajG:=ai.still (Δ.aN uN (ϊ _));have hn:Bk (xG.alloc (Ξ #[ξ κ 1,.slice Ap np cp,.slice Ab nb cb,.slice At nt ct] 26)) xG.heap.size 26 #[ξ κ 1,.slice Ap np cp,.slice Ab nb cb,.slice At nt ct]:=Bk.new _ _ _;have aL:xG.heap.size<=(xG.alloc (Ξ #[ξ κ 1,.slice Ap np cp,.slice Ab nb cb,.slice At nt ct] 26)).heap.size:=uN.size;generalize (xG.alloc (Ξ #[ξ κ 1,.slice Ap np cp,.slice Ab nb cb,.slice At nt ct] 26))=w3 at *;refine pF (aqO (W:=λA n c w'=>de w' (λk=>k=gE\/k=gt) 2 Cut.R (.slice A n c) sJ/\Γ w3.heap.size w3 w') hs hn ?c22) ?_
 case c22=>
  refine(QO aL ajG (TD hm hx)).mono ?_
  rintro e w' ⟨cv,mv,fv,rfl,aW,nv⟩;rw[ahw] at aW;obtain⟨ho,rfl,rfl⟩:=aW;obtain⟨A,k,c,rfl⟩:=qx ho;have h0:cG (kZ bg nE) 0=0:=by decide+kernel
  exact⟨A,k,c,by rw[h0],de.Cp (xs:=sJ) ho (λ_=>rfl) (λ_ _=>rfl) (λk hk=>by
   rcases hk with rfl|rfl
   ·exact hx.bE.lt
   ·exact hx.ex.t.lt),nv⟩
 rintro a w4 ⟨ada,aoL,afr,hs,nW,hb⟩;replace hx:=hx.grown hb;clear hb;refine pF (aqP hs hx nW) ?_
 rintro a w5 ⟨At',nt',ct',hs,hbE,ajH,hr⟩;refine pF (aqQ (W:=λA n c w'=>Row w' w'.heap.size 1 cH (.slice A n c) [0,1,2]/\Γ w5.heap.size w5 w') hs hbE ?c24) ?_
 case c24=>
  refine(afV (ϊ _) ajH ahT).mono ?_
  rintro e w' ⟨v,rfl,kX,hb⟩;rw[ahz] at kX;obtain⟨A,n,c,rfl⟩:=NZ kX;exact⟨A,n,c,rfl,kX,hb⟩
 rintro a w6 ⟨re,n35,po,hs,MZ,hb⟩;exact⟨_,_,_,re,n35,po,hs,lj hr hb,MZ⟩
end
end Go.Jn
namespace Go.Jn
open Go Go.Proofs Go.Sim Go.Conc Go.Tw
def sY:Array Oper:=opsOf Om
def asl:∃id,Om=.region id sY χ:=⟨_,rfl⟩
def n18:sY.size=7:=by decide+kernel
def ao4:∃o,sY[0]?=φ o/\o.op=.load 26 (.tmp 1)/\o.dst=φ 197/\o.guard=ν/\qw ϋ G0 o=θ:=by
 have h:qw ϋ G0 (sY[0]'(by rw[n18];omega))=θ:=by decide+kernel
 exact⟨_,rfl,rfl,rfl,rfl,h⟩
def aa9:∃o,sY[1]?=φ o/\o.op=.call {callee:=.value (.func 38),args:=#[.tmp 197],argTypes:=#[26]}/\o.dst=φ 198/\o.guard=ν:=⟨_,rfl,rfl,rfl,rfl⟩
def ao5:∃o,sY[2]?=φ o/\o.op=.move (.tmp 198)/\o.dst=φ 196/\o.guard=ν:=⟨_,rfl,rfl,rfl,rfl⟩
def ao6:∃o,sY[3]?=φ o/\o.op=.extract (.tmp 196) 0/\o.dst=φ 199/\o.guard=ν:=⟨_,rfl,rfl,rfl,rfl⟩
def ao7:∃o,sY[4]?=φ o/\o.op=.extract (.tmp 196) 1/\o.dst=φ 200/\o.guard=ν:=⟨_,rfl,rfl,rfl,rfl⟩
def ao8:∃o,sY[5]?=φ o/\o.op=.assign (.tmp 199)/\o.dst=φ 31/\o.guard=ν:=⟨_,rfl,rfl,rfl,rfl⟩
def ao9:∃o,sY[6]?=φ o/\o.op=.assign (.tmp 200)/\o.dst=φ 15/\o.guard=ν:=⟨_,rfl,rfl,rfl,rfl⟩
def ar3{fn:FuncId}{k:List Item}{D:List Deferred}{cs:List Frame}{rest:List Nat}{f:FuncId}{args:Array υ}
 (ho:ops[i]?=φ o)(hg:Ê o (yielded ops t)=θ)(hr:(execOp (aX t) o).runT P aa #[]=(.ok (.enter f args) aa,#[])):
 stepG P main (rg fn t (.inRegion ops (i::rest)::k) D .normal cs) aa=.go (aR (Frame.enter P f args .normal) (⟨fn,t,.inRegion ops (i::rest)::k,D,.run,.normal,ν⟩::cs)) aa #[]:=by
 have e1:Frame.eval ⟨fn,t,.inRegion ops (i::rest)::k,D,.run,.normal,ν⟩=aX t:=zM;simp only[stepG,stepG.exec,ho,ç,hg,ϭ,if_true,stepG.oper,Frame.oper?,stepG.apply,e1,hr];simp[Az,GStep.after]
def call38{t:Array υ}(ae:o.op=.call {callee:=.value (.func 38),args:=#[.tmp 197],argTypes:=#[26]})(hv:t.getD 197 ω=v)(aa:Ψ):
 (execOp (aX t) o).runT ϋ aa #[]=(.ok (.enter 38 #[v]) aa,#[]):=by
 have h:=IN (P:=ϋ) Tryz.func38 Ws aoP #[v] aa;unfold execOp;rw[ae];have e:(aX t) (.tmp 197)=v:=hv;have e0:(aX t) (.func 38)=.func (.func 38) #[] #[]:=rfl;simp only[resolve,List.map_toArray,List.map_cons,List.map_nil,e,e0,Deferred.ofValue,Array.append_empty];exact h
section
variable [Go.Tw.aJ]
open Go.RowKit in
def anc{tl:Array υ}(ae:o.op=.load 26 (.tmp 1))(ht:tl.getD 1 ω=π (φ ⟨gE,0,ν⟩)){A1 A2 A3:Option Addr}{n1 c1 n2 c2 n3 c3:Nat}{s:Int}
 (hb:Bk w gE 26 #[ξ κ s,.slice A1 n1 c1,.slice A2 n2 c2,.slice A3 n3 c3]):
 (execOp (aX tl) o).run Tw.prog w=.ok (.value (η #[ξ κ s,.slice A1 n1 c1,.slice A2 n2 c2,.slice A3 n3 c3])) w:=by
 have q0:=hb.cell 0;have q1:=hb.cell 1;have q2:=hb.cell 2;have q3:=hb.cell 3;have e:(aX tl) (.tmp 1)=π (φ ⟨gE,0,ν⟩):=ht;unfold execOp;rw[ae];simp only[e];go_simp
end
def tj(w:Ψ):Ψ:={w with heap:=#[.cells #[.func (.func 234) #[] #[],.func (.func 236) #[] #[]] 146 (0,2)]}
def r0:Ren:=λa b=>a=0/\b=0
def X6(ρ:Ren)(f:FuncId):ah ρ (.func (.func f) #[] #[]) (.func (.func f) #[] #[]):=.func (.func f) rfl (λi hi _=>absurd hi (by simp)) rfl (λi hi _=>absurd hi (by simp))
def atr{C:bS}(h:xT w):bX C r0 (tj w) w:=by
 obtain⟨fr,h⟩:=h;refine⟨?_,?_,?_,?_,?_⟩
 ·rintro a b ⟨rfl,rfl⟩;simp[tj]
 ·rintro a b ⟨rfl,rfl⟩;exact(Ϝ.1 h).1
 ·rintro a b b' ⟨rfl,rfl⟩ ⟨_,rfl⟩;rfl
 ·rintro a a' b ⟨rfl,rfl⟩ ⟨rfl,_⟩;rfl
 ·rintro a b o ⟨rfl,rfl⟩ ho
  have e:o=.cells #[.func (.func 234) #[] #[],.func (.func 236) #[] #[]] 146 (0,2):=by simpa [tj] using ho.symm
  subst e;refine⟨_,h,.cells 146 ⟨rfl,λi h1 h2=>?_⟩ (.inr ⟨rfl,ϊ _⟩)⟩
  match i,h1,h2 with
  |0,_,_=>exact X6 _ _
  |1,_,_=>exact X6 _ _
  |i+2,h1,_=>exact absurd h1 (by simp)
def ats:bN (tj w).heap:=by
 intro o ho hb;have e:o=.cells #[.func (.func 234) #[] #[],.func (.func 236) #[] #[]] 146 (0,2):=by simpa [tj] using ho
 subst e;exact hb
def U5(T:Tape):nB (bh (tj w) T):=⟨(0,2),rfl⟩
def U4(b:Nat):tq r0 (tj w) b:=by
 rintro a ⟨rfl,_⟩;exact⟨_,rfl,rfl,ϊ _⟩
def ap6{u t7:Array υ}(h:aV ρ u t)(hs:t7.size=t.size)(J:Nat->Bool)(hk:∀i,J i=χ->t7[i]?=t[i]?):∃u7:Array υ,aV ρ u7 t7/\∀i,J i=χ->u7[i]?=u[i]?:=by
 have hu:u.size=t7.size:=h.1.trans hs.symm;refine⟨Array.ofFn λi:Fin t7.size=>if J i then Classical.choose (ye ρ t7[i.1]) else u[i.1]'(by rw[hu];exact i.2),⟨by simp,λi h1 h2=>?_⟩,λi hi=>?_⟩
 ·rw[Array.getElem_ofFn]
  by_cases hj:J i=θ
  ·simp only[hj,if_true];exact Classical.choose_spec (ye ρ t7[i])
  ·have hj:J i=χ:=by simpa using hj
   simp only[hj,Bool.false_eq_true,if_false];have e:=hk i hj;have ht:i<t.size:=by rw[<-hs];exact h2
   rw[â h2,â ht] at e
   rw[Ϟ e];exact h.2 i _ ht
 ·by_cases aj:i<t7.size
  ·rw[Ajx,dif_pos aj,â (by rw[hu];exact aj)]
   simp only[hi,Bool.false_eq_true,if_false]
  ·rw[Ô (by simpa using aj),Ô (by rw[hu];omega)]
def atq{Stop:Sim.ay->ϐ->Ψ->Prop}{M:Sim.ay}{cs:List Frame}(hs:t.size=349){k:List Item}
 (h:∀t7:Array υ,t7.size=349->t7[31]?=φ ov->t7[15]?=φ (ξ κ 0)->(∀i,i≠198->i≠196->i≠199->i≠200->i≠31->i≠15->t7[i]?=t[i]?)->Walk ϋ main Stop M (rg 21 t7 k [] .normal cs) w):
 Walk ϋ main Stop M (rg 21 (aA t (φ 198) (μ #[ov,ξ κ 0])) (.inRegion sY [2,3,4,5,6]::k) [] .normal cs) w:=by
 have iu:(aA t (φ 198) (μ #[ov,ξ κ 0])).size=349:=by simp[aA,hs]
 have e0:(aA t (φ 198) (μ #[ov,ξ κ 0])).getD 198 ω=μ #[ov,ξ κ 0]:=oA (by omega)
 have k0:∀i,i≠198->(aA t (φ 198) (μ #[ov,ξ κ 0]))[i]?=t[i]?:=λi h=>bO (Λ h)
 revert iu e0 k0
 generalize aA t (φ 198) (μ #[ov,ξ κ 0])=t1;intro dn e1 k1;obtain⟨o,ho,ae,hd,nI⟩:=ao5;refine fw (v:=μ #[ov,ξ κ 0]) ho (cg nI) rfl (λaa _=>⟨_,(run_move t1 aa ae).trans (by rw[show(aX t1) (.tmp 198)=_ from e1]),ig⟩) ?_
 rw[hd];have fA:(aA t1 (φ 196) (μ #[ov,ξ κ 0])).size=349:=by simp[aA,dn]
 have e2:(aA t1 (φ 196) (μ #[ov,ξ κ 0])).getD 196 ω=μ #[ov,ξ κ 0]:=oA (by omega)
 have k2:∀i,i≠198->i≠196->(aA t1 (φ 196) (μ #[ov,ξ κ 0]))[i]?=t[i]?:=λi h h'=>(bO (Λ h')).trans (k1 i h)
 revert fA e2 k2
 generalize aA t1 (φ 196) (μ #[ov,ξ κ 0])=t2;intro fA e2 k2;obtain⟨o,ho,ae,hd,nI⟩:=ao6;refine fw (v:=ov) ho (cg nI) rfl (λaa _=>⟨_,KP t2 aa ae e2 rfl,ig⟩) ?_
 rw[hd];have nY:(aA t2 (φ 199) ov).size=349:=by simp[aA,fA]
 have e3:(aA t2 (φ 199) ov).getD 199 ω=ov:=oA (by omega)
 have f3:(aA t2 (φ 199) ov).getD 196 ω=μ #[ov,ξ κ 0]:=by
  rw[Ò,show(aA t2 (φ 199) ov)[196]?=t2[196]? from bO (by omega),<- Ò];exact e2
 have k3:∀i,i≠198->i≠196->i≠199->(aA t2 (φ 199) ov)[i]?=t[i]?:=λi h h' fN=>(bO (Λ fN)).trans (k2 i h h')
 revert nY e3 f3 k3
 generalize aA t2 (φ 199) ov=t3;intro nY e3 f3 k3;obtain⟨o,ho,ae,hd,nI⟩:=ao7;refine fw (v:=ξ κ 0) ho (cg nI) rfl (λaa _=>⟨_,KP t3 aa ae f3 rfl,ig⟩) ?_
 rw[hd];have vN:(aA t3 (φ 200) (ξ κ 0)).size=349:=by simp[aA,nY]
 have e4:(aA t3 (φ 200) (ξ κ 0)).getD 200 ω=ξ κ 0:=oA (by omega)
 have f4:(aA t3 (φ 200) (ξ κ 0)).getD 199 ω=ov:=by
  rw[Ò,show(aA t3 (φ 200) (ξ κ 0))[199]?=t3[199]? from bO (by omega),<- Ò];exact e3
 have k4:∀i,i≠198->i≠196->i≠199->i≠200->(aA t3 (φ 200) (ξ κ 0))[i]?=t[i]?:=λi h h' fN h3=>(bO (Λ h3)).trans (k3 i h h' fN)
 revert vN e4 f4 k4
 generalize aA t3 (φ 200) (ξ κ 0)=t4;intro vN e4 f4 k4;obtain⟨o,ho,ae,hd,nI⟩:=ao8;refine fw (v:=ov) ho (cg nI) rfl (λaa _=>⟨_,(run_assign t4 aa ae).trans (by rw[show(aX t4) (.tmp 199)=_ from f4]),ig⟩) ?_
 rw[hd];have Gq:(aA t4 (φ 31) ov).size=349:=by simp[aA,vN]
 have e5:(aA t4 (φ 31) ov)[31]?=φ ov:=jB (by omega)
 have f5:(aA t4 (φ 31) ov).getD 200 ω=ξ κ 0:=by
  rw[Ò,show(aA t4 (φ 31) ov)[200]?=t4[200]? from bO (by omega),<- Ò];exact e4
 have k5:∀i,i≠198->i≠196->i≠199->i≠200->i≠31->(aA t4 (φ 31) ov)[i]?=t[i]?:=λi h h' fN h3 h4=>(bO (Λ h4)).trans (k4 i h h' fN h3)
 revert Gq e5 f5 k5
 generalize aA t4 (φ 31) ov=t5;intro Gq e5 f5 k5;obtain⟨o,ho,ae,hd,nI⟩:=ao9;refine fw (v:=ξ κ 0) ho (cg nI) rfl (λaa _=>⟨_,(run_assign t5 aa ae).trans (by rw[show(aX t5) (.tmp 200)=_ from f5]),ig⟩) ?_
 rw[hd];refine oP (h _ (by simp[aA,Gq]) ((bO (by omega)).trans e5) (jB (by omega)) λi a1 a2 a3 a4 a5 a6=>(bO (Λ a6)).trans (k5 i a1 a2 a3 a4 a5))
def ahV{S:Nat->Prop}{base:Nat}(h:C7 W base gp gb gk gt gl):Lh S W W.heap.size bg (ζ (φ ⟨gp,0,ν⟩) 3 3) (ζ (φ ⟨gb,0,ν⟩) 2 2) (ζ (φ ⟨gt,0,ν⟩) 1 1):=by
 letI:=pa
 have sv:∀(g n c:Nat),n≠0->Sv S (ζ (φ ⟨g,0,ν⟩) n c):=λg n c hn A n' c' e h0=>by
  injection e with _ e2 _;omega
 refine⟨(rq h).pieces,?_,?_,sv _ _ _ (by omega),sv _ _ _ (by omega),sv _ _ _ (by omega)⟩
 ·have:=Dg (xs:=FJ gk) (sz:=3) (f:=j5) (R:=λp cs=>cs=j5 p) h.b (by show 2<=1000;decide) (λ_=>rfl) (λ_ _=>rfl) rfl
  refine EO (ps:=FJ gk) this (λp hm cs hc=>?_)
  subst hc;simp only[FJ,ϥ,ϸ,or_false] at hm;rcases hm with rfl|rfl
  ·refine⟨⟨_,rfl,(by show zL.name.size<=ϕ;decide),Qe [⟨3,3⟩] (by decide) h.k rfl⟩,λu hu=>?_⟩
   simp only[j5,ϥ,ϸ,or_false] at hu;rcases hu with rfl|rfl|rfl
   ·intro A n c e;cases e
   ·intro A n c e;cases e
   ·exact sv _ _ _ (by omega)
  ·refine⟨⟨_,rfl,by decide,Row.nil⟩,λu hu=>?_⟩
   simp only[j5,ϥ,ϸ,or_false] at hu;rcases hu with rfl|rfl|rfl<;>(intro A n c e;cases e)
 ·have:=Dg (xs:=[((⟨[0,2],⟨7,7⟩⟩:Tw.Tape),Value.slice (φ ⟨gl,0,ν⟩) 2 2)]) (sz:=3) (f:=iC) (R:=λp cs=>cs=iC p) h.t (by show 1<=1000;decide) (λ_=>rfl) (λ_ _=>rfl) rfl
  refine EO this (λp hm cs hc=>?_)
  subst hc;simp only[ϥ,ϸ,or_false] at hm;subst hm;refine⟨⟨_,rfl,xZ [0,2] (by decide) h.l rfl⟩,λu hu=>?_⟩
  simp only[iC,ϥ,ϸ,or_false] at hu;rcases hu with rfl|rfl|rfl
  ·exact sv _ _ _ (by omega)
  ·intro A n c e;cases e
  ·intro A n c e;cases e
def aiK(h:ρ 0 0):∀g,G0 g=θ->ρ g g:=λg hg=>by
 have:g=0:=by simpa [G0] using hg
 subst this;exact h
abbrev Vd:ϑ:=chain [CH,CJ,CK,CM,yY,CN] CU
abbrev QM(gp gb gt:Nat):υ:=η #[ξ κ 1,ζ (φ ⟨gp,0,ν⟩) 3 3,ζ (φ ⟨gb,0,ν⟩) 2 2,ζ (φ ⟨gt,0,ν⟩) 1 1]
def StN(w0:Ψ)(cs:List Frame)(_:Sim.ay)(g:ϐ)(w:Ψ):Prop:=
 ∃(t:Array υ) (arg:υ) (a:Act) (wl:Ψ) (ρ:Ren) (T:Tape),∃gE gp gb gk gt gl gc g3 fq n22 c22 b7 n25 b9 ik n28 im,
  g=aR (Frame.enter ϋ 38 #[arg] .normal) (⟨21,t,.inRegion sY [1,2,3,4,5,6]:: [.code Vd],[],.run,.normal,ν⟩::cs)/\t.size=349/\
  Sl [(0,.bool χ),(1,π (φ ⟨gE,0,ν⟩)),(2,ζ (φ ⟨gc,0,ν⟩) 3 3),(3,ζ (φ ⟨g3,0,ν⟩) 3 3),(5,ξ κ 0),(7,ξ κ 0),(9,ξ κ 0),(11,ξ κ 0),(13,ξ κ 0),(20,ξ κ 1),(21,ξ κ 0),(22,.slice fq n22 c22),(23,ζ ν 0 0),(24,ξ κ 8),(25,.slice b7 n25 b9),(26,ξ κ 2),(27,.bool θ),(28,.slice ik n28 im),(29,ξ κ 14),(30,.bool θ)] a/\
  pI (bh (tj w0) T) wl gE gp gb gk gt gl gc g3/\Row wl wl.heap.size 1 cH (.slice fq n22 c22) [1,1]/\Row wl wl.heap.size 2 Cut.R (.slice b7 n25 b9) fM/\Row wl wl.heap.size 2 Cut.R (.slice ik n28 im) fM/\
  (∃t0,aV ρ a.tmps t0/\∀i,i≠197->t[i]?=t0[i]?)/\ah ρ (QM gp gb gt) arg/\bX C0 ρ wl w/\ρ 0 0/\bN wl.heap/\(∀b,b<w0.heap.size->tq ρ wl b)/\∀b,b<w0.heap.size->w.heap[b]?=w0.heap[b]?
def arn(hM:xT w){x:Array υ}(hx:x.size<=1)(cs:List Frame):Walk ϋ θ (StN w cs) (allM w) (aR (Frame.enter ϋ 21 x .normal) cs) w:=by
 letI:=pa
 rw[FH Tryz.func21 aeR x .normal];have hs:(x++ϱ (Tryz.f21.ntmps - x.size) ω).size=349:=by
  rw[Array.size_append,Array.size_replicate,show Tryz.f21.ntmps=349 from rfl];omega
 generalize (x++ϱ (Tryz.f21.ntmps - x.size) ω)=t' at hs |-
 obtain⟨u,hu⟩:=QN r0 t';obtain⟨y,rfl,_⟩:=aaL u (hu.1.trans hs);have hW:bX C0 r0 (tj w) w:=atr hM;refine pieces (S:=⟨.seq Om Vd,[],[],cs,.normal⟩) (cs:=[AF,AG,AH,yZ,y7,za,zb,zd,ze,zf,yQ,yR,yS,yT,yU,yV,yW,yX]) afY (a:=⟨(lit y).toArray,[b6]⟩) rfl rfl
  (QL:=λe bI aa=>e=.normal/\∃T,FC (bh (tj w) T) bI aa) (λe a w h=>.inl h.1) (λT=>?_) hW ⟨rfl,rfl⟩ (Fs hW) (λb hb=>qN.1 hb) ats hu ?_
 ·exact K9 (qf:=[]) (Q:=λe bI aa=>e=.normal/\∃T,FC (bh (tj w) T) bI aa) (λa w hf=>⟨rfl,T,hf⟩) _ (aq5 (U5 T) (ara _ y))
 ·rintro e bI aa bT aI kh aC D' ⟨rfl,T,hF⟩ bZ RL hf oD hg hn ht hD
  refine⟨λ_=>?_,λh=>by cases h⟩
  obtain⟨gE,gp,gb,gk,gt,gl,gc,g3,fq,n22,c22,b7,n25,b9,ik,n28,im,Cb,hex,qu,nW,sR⟩:=hF;have hd:=Cb.1;rw[hd] at hD;have hD:=Dl hD;subst hD;have oH:kh.size=349:=ht.1.symm.trans Cb.2.1;obtain⟨id,e18⟩:=asl;refine mM ?_
  rw[e18];refine nS ?_
  rw[n18];obtain⟨o,ho,ae,aj1,nI,rA⟩:=ao4;have h1:bI.tmps.getD 1 ω=π (φ ⟨gE,0,ν⟩):=cK (Cb.2.2 (1,_) (by simp))
  refine ac1 L7 (rest:=[1,2,3,4,5,6]) ho (cg nI) rfl rA ht RL (aiK hg) hf oD (QL:=λv ao=>v=QM gp gb gt/\∃T,ao=bh aa T) (λT=>⟨_,_,(by rw[UP];exact anc ae h1 (w:=bh aa T) hex.bE),rfl,T,rfl⟩) ?_
  rintro v v' avU bK wN ij ⟨rfl,T2,rfl⟩ hv ajT yD ru akA;rw[aj1];obtain⟨o1,MT,akS,auG,ake⟩:=aa9;have MH:(aA kh (φ 197) v').getD 197 ω=v':=oA (by omega)
  refine qY rfl (λqJ=>ar3 MT (cg ake) (call38 akS MH qJ)) (.stop λqJ hk=>?_)
  refine⟨aA kh (φ 197) v',v',bI,bh aa T2,bK,T2,gE,gp,gb,gk,gt,gl,gc,g3,fq,n22,c22,b7,n25,b9,ik,n28,im,rfl,by simp[aA,oH],Cb,?_,qu,nW,sR,⟨kh,ht.mono yD.le,λi hi=>bO (Λ hi)⟩,hv,ajT.keep ru hk,yD.le _ _ hg,hn,λb hb=>?_,λb hb=>?_⟩
  ·exact⟨⟨hex.ex.p,hex.ex.b,hex.ex.k,hex.ex.t,hex.ex.l,hex.ex.hp,hex.ex.hb,hex.ex.hk,hex.ex.ht,hex.ex.hl⟩,hex.bE,hex.bc,hex.b3,⟨hex.below.os,rfl,hex.below.output,hex.below.size,hex.below.block⟩,hex.lE⟩
  ·exact I0 yD (ϟ hb bZ.ng) (I0 bZ hb (U4 b))
  ·have m1:bT.has b:=ay.zT bZ.R bZ.O (qN.2 hb)
   exact((hk.kept b (ay.zT yD.R yD.O m1)).trans (yD.oJ b m1 (I0 bZ hb (U4 b)))).trans (bZ.oJ b (qN.2 hb) (U4 b))
def afZ:∀c∈ [CH,CJ,CK,CM,yY,CN],C0.clean c:=by
 have h: [CH,CJ,CK,CM,yY,CN].all (cy ϋ G0)=θ:=by decide+kernel
 intro c hc;exact ģ.1 h c hc
def af0:C0.clean CU:=by
 have h:cy ϋ G0 CU=θ:=by decide+kernel
 exact h
def aqf:Tryz.f21.results=#[.tmp 0]:=rfl
def ahK:ED bg=[0,1]:=by decide+kernel
def aih(t:Array υ)(v:υ)(k:List Item):Frame.finish ⟨21,t,.inRegion sY [1,2,3,4,5,6]::k,[],.run,.normal,ν⟩ v=⟨21,aA t (φ 198) v,.inRegion sY [2,3,4,5,6]::k,[],.run,.normal,ν⟩:=by
 obtain⟨o,ho,_,hd,_⟩:=aa9;simp[Frame.finish,ho,hd,aA]
def am0(hW:bX C0 σ wl w)(hr:∀a q,σ a q->q<NR)(hn:bN wl.heap)(ho:w.ownsRow NR 3 1 ov n (zs.map (ϛ .i64))):
 ∃(bP:Ren) (nh:Ψ) (ol:υ),bX C0 bP nh w/\σ.le bP/\(∀a p,bP a p->σ a p\/(wl.heap.size<=a/\NR<=p))/\ah bP ol ov/\nh.ownsRow wl.heap.size 3 1 ol n (zs.map (ϛ .i64))/\Γ wl.heap.size wl nh/\bN nh.heap:=by
 rcases ho.2 with⟨rfl,h0⟩ | ⟨g,cap,cur,rfl,zV,hg,gY,rZ,mR,yE⟩
 ·exact⟨σ,wl,ζ ν 0 0,hW,σ.le_refl,λa p h=>.inl h,.sliceNone 0 0,⟨ho.1,.inl ⟨rfl,h0⟩⟩,Ý _ _,hn⟩
 ·obtain⟨u,hu,J0⟩:=Ua (ext σ wl.heap.size g) cur n zs yE
  have kU:=Bl (o:=.cells u 3) hW hg (λa ha=>by have:=hr a g ha;omega) (.cells 3 hu (.inl rfl))
  refine⟨_,_,ζ (φ ⟨wl.heap.size,0,ν⟩) n cap,kU,Dp _ _ _,?_,.slice _ _ ⟨.inr ⟨rfl,rfl⟩,rfl,rfl⟩,⟨ho.1,.inr ⟨_,cap,u,rfl,ϊ _,qa,gY,rZ,hu.1.trans mR,J0⟩⟩,
   (Ý _ _).alloc (ϊ _) _,bN.push hn (o:=.cells u 3) (λh=>h)⟩
  rintro a p (ha| ⟨rfl,rfl⟩)
  ·exact .inl ha
  ·exact .inr ⟨ϊ _,zV⟩
def ahZ(h:pI w0 w gE gp gb gk gt gl gc g3)(T:Tape):pI (bh w0 T) (bh w T) gE gp gb gk gt gl gc g3:=
 ⟨⟨h.ex.p,h.ex.b,h.ex.k,h.ex.t,h.ex.l,h.ex.hp,h.ex.hb,h.ex.hk,h.ex.ht,h.ex.hl⟩,h.bE,h.bc,h.b3,⟨h.below.os,rfl,h.below.output,h.below.size,h.below.block⟩,h.lE⟩
def ah9(h:FD w0 a w)(T:Tape):FD (bh w0 T) a (bh w T):=by
 obtain⟨gE,gp,gb,gk,gt,gl,gc,g3,fq,n22,c22,b7,n25,b9,ik,n28,im,pg,n31,pn,hs,hx,h1,h2,h3,h4⟩:=h;exact⟨gE,gp,gb,gk,gt,gl,gc,g3,fq,n22,c22,b7,n25,b9,ik,n28,im,pg,n31,pn,hs,ahZ hx T,h1,h2,h3,h4⟩
def aro{cs:List Frame}{T:Tape}(oH:t.size=349)
 (hs:Sl [(0,.bool χ),(1,π (φ ⟨gE,0,ν⟩)),(2,ζ (φ ⟨gc,0,ν⟩) 3 3),(3,ζ (φ ⟨g3,0,ν⟩) 3 3),(5,.int .i64 0),(7,.int .i64 0),(9,.int .i64 0),(11,.int .i64 0),(13,.int .i64 0),(20,.int .i64 1),(21,.int .i64 0),(22,.slice fq n22 c22),(23,ζ ν 0 0),(24,.int .i64 8),(25,.slice b7 n25 b9),(26,.int .i64 2),(27,.bool θ),(28,.slice ik n28 im),(29,.int .i64 14),(30,.bool θ)] a)
 (hx:pI (bh (tj w0) T) wl gE gp gb gk gt gl gc g3)(qu:Row wl wl.heap.size 1 cH (.slice fq n22 c22) [1,1])(nW:Row wl wl.heap.size 2 Cut.R (.slice b7 n25 b9) fM)(sR:Row wl wl.heap.size 2 Cut.R (.slice ik n28 im) fM)
 (Cc:aV ρ a.tmps t0)(F1:∀i,i≠197->t[i]?=t0[i]?)(hW:bX C0 ρ wl w2)(hg:ρ 0 0)(hn:bN wl.heap)(r8:∀b,b<w0.heap.size->tq ρ wl b)(M5:∀a q,ρ a q->q<NR)(Jb:w0.heap.size<=NR)(yj:NR<=w2.heap.size)
 (aK:w2.ownsRow NR 3 1 ov 2 (([0,1]:List Int).map (ϛ .i64))):
 Walk ϋ θ (λ_ g w=>g=aR (fr.finish (.bool θ)) cs/\∀b,b<w0.heap.size->w.heap[b]?=w2.heap[b]?) (allM w2) (rg 21 (aA t (φ 198) (μ #[ov,.int .i64 0])) (.inRegion sY [2,3,4,5,6]:: [.code Vd]) [] .normal (fr::cs)) w2:=by
 letI:=pa
 refine atq oH λt7 SF e31 e15 hk=>?_
 obtain⟨bP,nh,ol,kU,hle,hinv,hv,se,xa,Sk⟩:=am0 hW M5 hn aK;obtain⟨pg,n31,pn,rfl⟩:=qx se;have vO:t0.size=349:=Cc.1.symm.trans hs.2.1;obtain⟨u7,ZZ,hku⟩:=ap6 (Cc.mono hle) (SF.trans vO.symm) (λi=> [197,198,196,199,200,31,15].contains i) (λi hi=>by
  have hi:¬i∈ [197,198,196,199,200,31,15]:=by simpa using hi
  simp only[ϥ,ϸ,or_false,not_or] at hi;obtain⟨a1,a2,a3,a4,a5,a6,a7⟩:=hi;exact(hk i a2 a3 a4 a5 a6 a7).trans (F1 i a1))
 have M9:=KG (KG ZZ hv e31) (.int .i64 0) e15;have SK:((u7.setIfInBounds 31 (.slice pg n31 pn)).setIfInBounds 15 (.int .i64 0)).size=349:=M9.1.trans SF;have avk:u7.size=349:=ZZ.1.trans SF;have Er:((u7.setIfInBounds 31 (.slice pg n31 pn)).setIfInBounds 15 (.int .i64 0))[31]?=φ (.slice pg n31 pn):=(bO (by omega)).trans (jB (by omega))
 have Tb:((u7.setIfInBounds 31 (.slice pg n31 pn)).setIfInBounds 15 (.int .i64 0))[15]?=φ (.int .i64 0):=jB (by rw[ü];omega)
 have kk:∀i,[197,198,196,199,200,31,15].contains i=χ->((u7.setIfInBounds 31 (.slice pg n31 pn)).setIfInBounds 15 (.int .i64 0))[i]?=a.tmps[i]?:=λi hi=>by
  have hj:¬i∈ [197,198,196,199,200,31,15]:=by simpa using hi
  simp only[ϥ,ϸ,or_false,not_or] at hj;exact((bO (Λ hj.2.2.2.2.2.2)).trans (bO (Λ hj.2.2.2.2.2.1))).trans (hku i hi)
 revert M9 SK Er Tb kk
 generalize ((u7.setIfInBounds 31 (.slice pg n31 pn)).setIfInBounds 15 (.int .i64 0))=u8;intro M9 SK Er Tb kk;have hFD:FD (bh (tj w0) T) ⟨u8,[b6]⟩ nh:=by
  refine⟨gE,gp,gb,gk,gt,gl,gc,g3,fq,n22,c22,b7,n25,b9,ik,n28,im,pg,n31,pn,⟨rfl,SK,λp hp=>?_⟩,hx.grown xa,lj qu xa,lj nW xa,lj sR xa,Nh (l:=[0,1]) se⟩
  have old:∀(i:Nat) (v:υ),[197,198,196,199,200,31,15].contains i=χ->a.tmps[i]?=φ v->u8[i]?=φ v:=λi v hc h=>(kk i hc).trans h
  simp only[ϥ,ϸ,or_false] at hp;rcases hp with rfl|rfl|rfl|rfl|rfl|rfl|rfl|rfl|rfl|rfl|rfl|rfl|rfl|rfl|rfl|rfl|rfl|rfl|rfl|rfl|rfl|rfl
  all_goals first
   |exact Er
   |exact Tb
   |exact old _ _ rfl (hs.2.2 (_,_) (by simp))
 have YN:∀b,b<w0.heap.size->tq bP nh b:=λb hb c hc=>by
  rcases hinv c b hc with h| ⟨_,h⟩
  ·obtain⟨o,h1,h2⟩:=r8 b hb c h
   exact⟨o,(xa.block c (Ϝ.1 h1).1).trans h1,h2⟩
  ·omega
 refine pieces (S:=⟨CU,[],[],fr::cs,.normal⟩) (cs:=[CH,CJ,CK,CM,yY,CN]) afZ (a:=⟨u8,[b6]⟩) rfl rfl
  (QL:=λe bI aa=>e=.normal/\FE bI aa) (λe a w h=>.inl h.1) (λT'=>?_) kU (hle _ _ hg) (Fs kU) (λb hb=>qN.1 hb) Sk M9 ?_
 ·exact K9 (qf:=[]) (Q:=λe bI aa=>e=.normal/\FE bI aa) (λa w hf=>⟨rfl,hf⟩) _ (aq9 (w0:=bh (tj w0) T') (U5 T') (ah9 hFD T'))
 ·rintro e bI aa bT aI kh aC D' ⟨rfl,ada,aoL,afr,re,n35,po,Cb,akZ,ak1⟩ bZ RL hf oD kW sa Ei hD
  refine⟨λ_=>?_,λh=>by cases h⟩
  have hd:=Cb.1;rw[hd] at hD;have hD:=Dl hD;subst hD;refine piece (S:=⟨.skip,[],[],fr::cs,.normal⟩) (c:=CU) af0 (a:=bI) rfl hd (QL:=λe a _=>e=.ret/\a.defers=[b6]/\a.tmps[0]?=φ (.bool θ)) (λT'=>?_) RL kW hf oD sa Ei ?_
  ·exact Code.wp_mono (λe a w h=>⟨.inr h.1,h.1,h.2.1,h.2.2.2.1⟩) (aqR Cb (w:=bh aa T') akZ ak1)
  ·rintro e atX qJ wN Ig Ox avV ⟨rfl,mJ,h0⟩ yD auF DV Zo BL sc ht3
   refine⟨λh=>(by cases h),λ_ zh D' hD=>?_⟩
   rw[mJ] at hD;have hD:=Dl hD;subst hD;obtain⟨v',J1,Cf⟩:=NU ht3 h0;cases Cf;have e0:Ox.getD 0 ω=.bool θ:=cK J1;refine qY rfl (λVb=>?_) (.stop λVb hk=>⟨rfl,λb hb=>?_⟩)
   ·have e:unwind ϋ θ ⟨21,Ox,zh,[],.returning,.normal,ν⟩ (fr::cs) ν Vb=.go (aR (fr.finish (.bool θ)) cs) Vb #[]:=by
     unfold unwind;simp only[Tryz.func21,results1 aqf,Az,GStep.after,doReturn,e0];rfl
    exact e
   ·have ak:b<w2.heap.size:=by omega
    have m1:bT.has b:=ay.zT bZ.R bZ.O (qN.2 ak);have m2:wN.has b:=ay.zT yD.R yD.O m1;have f1:=I0 bZ ak (YN b hb);exact((hk.kept b m2).trans (yD.oJ b m1 f1)).trans (bZ.oJ b (qN.2 ak) (YN b hb))
def arV{base:Nat}(hm:nB wl)(hx:C7 wl base gp gb gk gt gl)(ha:ah ρ (QM gp gb gt) arg)(hW:bX C0 ρ wl w)(hg:ρ 0 0):
 OY bg (Cr ρ (nD ρ wl w)) (wU ρ wl w) (ζ (φ ⟨gp,0,ν⟩) 3 3) (ζ (φ ⟨gb,0,ν⟩) 2 2) (ζ (φ ⟨gt,0,ν⟩) 1 1) wl.heap.size arg w:=by
 letI:=pa
 obtain⟨a',b',c',d',rfl,r1,r2,r3,r4⟩:=abz ha;obtain⟨ai,p1,p2,p3⟩:=aiE hW (ahV (S:=nD ρ wl w) hx) ⟨_,r2⟩ ⟨_,r3⟩ ⟨_,r4⟩;have DJ:nD ρ wl w 0:=abE hW (p:=⟨0,0,ν⟩) (hm.cell 0) hg;refine⟨aiG hW,⟨hg,DJ⟩,aiH,λa q h=>?_,Nat.le_of_eq X4.symm,ai,?_⟩
 ·obtain⟨o1,k1,b1,c,c',e,fr,ba,u,h1,h2,h3,h4,h5,h6,rfl⟩:=QV h.2
  exact⟨_,k1,rfl,ϊ _⟩
 ·refine .agg rfl λi h1 h2=>?_
  match i,h1,h2 with
  |0,_,_=>exact Pv.rel r1 trivial
  |1,_,_=>exact Pv.rel r2 p1
  |2,_,_=>exact Pv.rel r3 p2
  |3,_,_=>exact Pv.rel r4 p3
  |i+4,h1,_=>exact absurd h1 (by simp)
def arc:Iz:=by
 letI:=pa
 intro gs w t q x fr cs sl hx hM hF;obtain⟨N1,Yf,M1,g1,w1,Uq,t1,q1,r1,z1,⟨⟨tm,arg,a,wl,ρ,T,gE,gp,gb,gk,gt,gl,gc,g3,fq,n22,c22,b7,n25,b9,ik,n28,im,rfl,oH,hs,hex,qu,nW,sR,⟨t0,Cc,F1⟩,hv,hW,hg,hn,r8,akn⟩,uJ⟩,qi⟩:=
  IE (K7 (arn hM hx (fr::cs)) (LL w)) gs sl t q hF (λb hb=>qN.1 hb)
 have hm:nB wl:=(U5 (w:=w) T).below hex.below (by simp[tj,bh])
 obtain⟨N2,Mj,w2,Ur,t2,q2,g2,aB,M2,r2,Mn,⟨ov,rfl,aK,Y6,aL⟩,tL,sP,Q4⟩:=aoR (arV hm hex.ex hv hW hg) IV qi Uq;have cB:mV (ints aB)=[0,1]:=by rw[arJ tL sP,ahK];rfl
 rw[cB] at aK;rw[aih] at Mn;have kU:=zJ hW aL λa b hab=>Y6 b (hW.du a b hab)
 obtain⟨N3,QY,M3,g3',w3,Us,t3,q3,r3,z3,⟨⟨rfl,ako⟩,hB3⟩,Q8⟩:=
  IE (K7 (aro (w0:=w) (fr:=fr) (cs:=cs) oH hs hex qu nW sR Cc F1 kU hg hn r8 hW.du uJ.size aL aK) Q4) Mj Ur t2 q2 Mn (λb hb=>qN.1 hb)
 exact⟨N1+(N2+N3),QY,w3,Us,t3,q3,Ax _ _ _ r1 (Ax _ _ _ r2 r3),Q8,xW uJ hB3,λb hb=>(ako b hb).trans ((Y6 b (ϟ hb uJ.size)).trans (akn b hb))⟩
end Go.Jn
namespace Go.Jn
open Go Go.Proofs Go.Conc
open YtfifdjajcogccaaGreatDoor
def aoa:joinedFacts ϋ 8 Tryz.f8 Rows.mouldKnotsSpec Rows.mouldKnotsRow=θ:=by
 unfold joinedFacts;exact kT (kT (kT (kT (kT (kT (kT (kT (kT (kT (kT (kT (kT (kT (kT (kT (kT (kT (kT (kT (kT (kT (kT (kT (kT (kT (kT (kT (kT (kT (kT aof aoE) aoF) aox) aoA) aoB) aoI) aoC) aoJ) aoD) aog) aoh) aoi) aoj) aok) aol) aom) aon) aoo) aop) aoq) aor) aos) aot) aoG) aoH) aou) aov) (by kernel_rfl)) aow) aoy) aoz
def amt(Ef:Iz):Rows.MouldKnotsSaid:=
 OpenClaim.holds_of_wide_leaving 8 Tryz.f8 rfl rfl rfl rfl rfl rfl rfl ⟨rfl,rfl,rfl,rfl,rfl⟩ rfl rfl rfl rfl rfl (by kernel_rfl) Tryz.func8 aoa
  (of_decide_eq_true (by kernel_rfl)) (by unfold Func.isWrapper;first| (rw[if_pos (by decide+kernel)];kernel_rfl) | (rw[if_neg (by decide+kernel)];exact⟨rfl,rfl⟩))
  (λos started H enc _=>amq Ef os started H enc)
def aoe:Rows.mouldKnotsRow.wfByText (OpenSpec.ofChange Rows.mouldKnotsSpec)=θ:=by kernel_rfl
def aob:θ=Rows.mouldKnotsRow.goesBy Tryz.pinned.checked.prog:=by kernel_rfl
def aoc:ϋ.funcNamed Rows.mouldKnotsRow.func=φ 8:=by kernel_rfl
def aod:Tryz.f8.params=#[26,5,5]:=by kernel_rfl
def ao2:([26,5,5].all λu=> !ϋ.wantsStandIn u)=θ:=by kernel_rfl
def arj:ϋ.laidByTextLater Rows.mouldKnotsRow.laid [.funcs] θ:=ari
def amk(h:Rows.MouldKnotsSaid):Rows.MouldKnotsCardSaid:=
 asv .later [.funcs] θ (θ,"8b4c60804a89a2dc1775d2d899c432f4b3d9a7cd22d2b16114beb87ecc832d7f") χ h aoe (OpenClaim.laidByTextAt_later rfl rfl arj apE) rfl ⟨rfl,rfl⟩ anW rfl
  (λf fn hf Jt=>by
    obtain rfl:f=8:=(Ϟ (aoc.symm.trans hf)).symm;obtain rfl:fn=Tryz.f8:=(Ϟ (Tryz.func8.symm.trans Jt)).symm;refine⟨ao1,λj t ht=>?_⟩
    rw[aod] at ht;have hm:t∈ [26,5,5]:=by
     have:= Array.mem_of_getElem? ht;simp at this;simp[this]
    have:=ģ.1 ao2 t hm;exact(show ϋ.wantsStandIn t=χ by simpa using this)) aob
end Go.Jn
namespace Go.Proofs.YtfifdjajcogccaaGreatDoor
theorem mouldKnots_holds:Rows.MouldKnotsCardSaid:=Go.Jn.amk (Go.Jn.amt Go.Jn.arc)
end Go.Proofs.YtfifdjajcogccaaGreatDoor
end
