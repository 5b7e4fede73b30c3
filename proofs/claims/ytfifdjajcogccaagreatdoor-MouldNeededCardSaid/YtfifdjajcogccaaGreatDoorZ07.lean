/- A board is needed just if nothing does without it: MouldNeeded returns true for every book and board. Conditions: the card's own (mould.measures is as the program's text lays it). -/
import Derived.Test.YtfifdjajcogccaaGreatDoorZ06
import Derived.Test.YtfifdjajcogccaaGreatDoorZ05
import Derived.Test.YtfifdjajcogccaaGreatDoorCards
import Derived.SevenTiedAt
import Derived.LaidOnce
set_option linter.all false
set_option maxHeartbeats 0
set_option maxRecDepth 400000
open And renaming intro -> Ϗ
open Array renaming replicate -> ϭ, getD_eq_getD_getElem? -> î, getElem?_setIfInBounds -> Ù, getElem?_eq_none_iff -> Akv, getElem?_eq_getElem -> õ, getElem?_eq_some_iff -> ϛ, getElem?_replicate -> Akw
open Go renaming maxLen -> ϑ, Calls -> ύ, wpList -> û, wpAny -> ä, wpAny_take -> Aky, getD_set_ne -> Akz
open Go.Act renaming put -> É
open Go.IntKind renaming i64 -> ϙ
open Go.Proofs.Tryz renaming prog -> ϋ
open Go.Region renaming ready -> Ç
open Go.RowKit.Below renaming refl -> ώ, refl -> í, alloc -> Ak1, trans -> Ak2
open Go.Value renaming int -> Ϝ
open List renaming setIfInBounds_toArray -> Ö, set_cons_zero -> Ø, set_cons_succ -> Ì, range -> ε, all_eq_true -> ġ, mem_cons -> Ϧ, not_mem_nil -> Λ, take_succ_cons -> ê, drop_zero -> ò, drop_succ_cons -> ñ, take_zero -> ë
open Nat renaming le_refl -> ϊ
open Option renaming getD_some -> ϻ, map_some -> é
open Bool renaming true -> θ, false -> χ
open Go renaming Value -> υ, undef -> ω, World -> Ψ
open Go.Ending renaming returned -> Ω
open Go.IntKind renaming i64 -> κ
open Go.Lib renaming hid -> ψ
open Go.Obj renaming cells -> Ξ
open Go.RowKit renaming Below -> Γ, Below -> Γ
open Go.Value renaming slice -> ζ, pointer -> π, tuple -> μ, agg -> η, int -> ξ
open Option renaming some -> φ, none -> ν
variable{α:Type}{l:Array Bool}{ops:Array Go.Oper}{cs u:Array υ}{a:Go.Act}{o:Go.Oper}{ρ:Go.Sim.Ren}{b:Go.Tw.eR}{t:Go.TypeId}{z:Int}{gE gp gb i gt gc g3 gk gl c n4 c4 n g n25 cw m np nt n22 c22 d p B k pc tc fuel g1 g2 e0 e1 d0 d1 n28 eI n31 jN j e n16 cp nb cb ct:Nat}{A4 cu dF TA:Option Go.Addr}{w w0 W w' wl:Ψ}{v x ov s tv:υ}
noncomputable section
namespace Go.Jn
open Go Go.Proofs Go.Sim Go.Conc Go.Tw Go.RowKit
def t16(v:υ)(p:Nat):Array υ:=#[v,.int .u8 p,ω,ω,ω,ω,ω,ω,ω,ω,ω,ω,ω,ω,ω,ω,ω,ω,ω,ω,ω,ω,ω,ω,ω,ω,ω,ω,ω,ω,ω,ω,ω,ω,ω,ω,ω,ω,ω,ω,ω,ω,ω,ω,ω,ω,ω,ω,ω,ω,ω,ω,ω,ω,ω,ω,ω,ω,ω,ω,ω,ω,ω,ω,ω,ω,ω,ω,ω,ω,ω,ω,ω,ω,ω,ω,ω,ω,ω,ω,ω,ω,ω,ω,ω,ω,ω,ω,ω,ω,ω,ω,ω,ω,ω,ω,ω,ω,ω,ω,ω,ω,ω,ω,ω,ω,ω,ω,ω,ω,ω,ω,ω,ω,ω,ω,ω,ω,ω,ω,ω,ω,ω,ω,ω,ω,ω,ω,ω,ω,ω]
def Sc(v:υ)(p i g:Nat)(tY tZ ua ub uc ud ue uf ug uh ui uj uk um uo uq:υ):Array υ:=#[v,.int .u8 p,π (φ ⟨g,0,ν⟩),ω,.bool χ,ξ κ i,ω,ω,ω,ω,ω,ω,ω,ω,ω,ω,ω,ω,tY,tZ,ua,ub,uc,ud,ue,uf,ug,uh,ui,uj,uk,um,uo,uq,ω,ω,ω,ω,ω,ω,ω,ω,ω,ω,ω,ω,ω,ω,ω,ω,ω,ω,ω,ω,ω,ω,ω,ω,ω,ω,ω,ω,ω,ω,ω,ω,ω,ω,ω,ω,ω,ω,ω,ω,ω,ω,ω,ω,ω,ω,ω,ω,ω,ω,ω,ω,ω,ω,ω,ω,ω,ω,ω,ω,ω,ω,ω,ω,ω,ω,ω,ω,ω,ω,ω,ω,ω,ω,ω,ω,ω,ω,ω,ω,ω,ω,ω,ω,ω,ω,ω,ω,ω,ω,ω,ω,ω,ω,ω,ω,ω]
def yK(w:Ψ)(b:eR)(PA A TA:Option Addr)(np pc m c nt tc:Nat)(W:Ψ):Prop:=Γ (w.heap.size+1) (w.alloc (Ξ #[ξ κ b.ab,.slice PA np pc,.slice A m c,.slice TA nt tc] 26)) W
def aic{PA A:Option Addr}(ah:aQ w B b (.slice PA np pc) (.slice A m c) (.slice TA nt tc))(hB:B<=w.heap.size)(hp:p<256)(br:zl b=θ->b.aC.length=0):
 c16.wp lp (GS 4) ⟨t16 (η #[ξ κ b.ab,.slice PA np pc,.slice A m c,.slice TA nt tc]) p,[cQ]⟩ w:=by
 letI:=jU
 have e2:b.aC.length=m:=by
  obtain⟨A',n',c',e,h,-⟩:=ah.aC.Φ;cases e;exact h
 have e3:m<=c/\c<=ϑ:=by
  obtain⟨A',n',c',e,h,h1,h2,-⟩:=ah.aC.Φ;cases e;exact⟨h1,h2⟩
 unfold ϑ at e3;have bD:=ψ ah;obtain⟨W0,bY⟩:∃W0,W0=w.alloc (Ξ #[ξ κ b.ab,.slice PA np pc,.slice A m c,.slice TA nt tc] 26):=⟨_,rfl⟩
 have Z0:W0.heap.size=w.heap.size+1:=by rw[bY];simp
 have BW:Hid (Below w.heap.size w W0):=ψ (by rw[bY];exact(ώ _ _).alloc (ϊ _) _)
 have KB:Hid (Bk W0 w.heap.size 26 #[ξ κ b.ab,.slice PA np pc,.slice A m c,.slice TA nt tc]):=ψ (by rw[bY];exact Bk.new _ _ _)
 have ST:Hid (∀W,Below (w.heap.size+1) W0 W->Δ B w W/\w.heap.size+1<=W.heap.size):=ψ λW hW=>by
  have hs:=hW.size;exact⟨Δ.aJ (BW.e.trans (hW.mono (by omega))) hB,by omega⟩
 have SX:Hid (∀W,Below (w.heap.size+1) W0 W-> W.cell? ⟨w.heap.size,0,ν⟩=φ (ξ κ b.ab)/\ W.cell? ⟨w.heap.size,1,ν⟩=φ (.slice PA np pc)/\ W.cell? ⟨w.heap.size,2,ν⟩=φ (.slice A m c)/\ W.cell? ⟨w.heap.size,3,ν⟩=φ (.slice TA nt tc)/\w.heap.size<W.heap.size):=ψ λW hW=>
  have k:=KB.e.below hW (by omega)
  ⟨k.cell 0,k.cell 1,k.cell 2,k.cell 3,k.lt⟩
 have yc:Hid (∀W,Below (w.heap.size+1) W0 W->ύ lp 40 #[η #[ξ κ b.ab,.slice PA np pc,.slice A m c,.slice TA nt tc]] W λe w'=>e=Ω (.bool (zl b))/\Below (w.heap.size+1) W0 w'):=ψ λW hW=>by
  obtain⟨st,hs⟩:=ST.e W hW;exact(fit (bD.e.still st) (by omega)).mono λe w' ⟨h,hb⟩=>⟨h,hW.trans (hb.mono hs)⟩
 clear ah;unfold c16 t16;simp only[Tryz.f16,ϻ];go_wp2;rw[<-bY]
 go_at_call 40
 refine(yc.e _ (ώ _ _)).mono ?_
 rintro e w1 ⟨rfl,ai⟩;obtain⟨g0,g1,g2,g3,gl⟩:=SX.e w1 ai;clear ai bY;cases hf:zl b with
 |false=>
  go_wp2
  go_at_call 21
  refine(J9 _).mono ?_
  rintro e w' ⟨rfl,rfl⟩;go_wp2;exact⟨rfl,rfl,rfl⟩
 |true=>
 obtain rfl:m=0:=by rw[<-e2];exact br hf
 go_wp2
 go_at_call 21
 refine(J9 _).mono ?_
 rintro e w' ⟨rfl,rfl⟩;go_wp2;exact⟨rfl,rfl,rfl⟩
def Gt(w:Ψ)(b:eR)(v:υ)(p i:Nat)(PA A TA:Option Addr)(np pc m c nt tc:Nat)(u:Array υ)(W:Ψ):Prop:=(∃tY tZ ua ub uc ud ue uf ug uh ui uj uk um uo uq:υ,u=Sc v p i w.heap.size tY tZ ua ub uc ud ue uf ug uh ui uj uk um uo uq)/\yK w b PA A TA np pc m c nt tc W
section
variable [Go.Tw.aK]
def aii{PA A:Option Addr}(ah:aQ w B b (.slice PA np pc) (.slice A m c) (.slice TA nt tc))(hB:B<=w.heap.size)(hp:p<256)(hf:zl b=θ)(hm:0<b.aC.length):
 fu prog [bp c16,bp (aS c16),bp (aS (aS c16))] (dK λa W=>a.defers=[cQ]/\Gt w b (η #[ξ κ b.ab,.slice PA np pc,.slice A m c,.slice TA nt tc]) p (p % b.aC.length) PA A TA np pc m c nt tc a.tmps W) ⟨t16 (η #[ξ κ b.ab,.slice PA np pc,.slice A m c,.slice TA nt tc]) p,[cQ]⟩ w:=by
 have e2:b.aC.length=m:=by
  obtain⟨A',n',c',e,h,-⟩:=ah.aC.Φ;cases e;exact h
 have e3:m<=c/\c<=ϑ:=by
  obtain⟨A',n',c',e,h,h1,h2,-⟩:=ah.aC.Φ;cases e;exact⟨h1,h2⟩
 unfold ϑ at e3;have bD:=ψ ah;obtain⟨W0,bY⟩:∃W0,W0=w.alloc (Ξ #[ξ κ b.ab,.slice PA np pc,.slice A m c,.slice TA nt tc] 26):=⟨_,rfl⟩
 have Z0:W0.heap.size=w.heap.size+1:=by rw[bY];simp
 have BW:Hid (Below w.heap.size w W0):=ψ (by rw[bY];exact(ώ _ _).alloc (ϊ _) _)
 have KB:Hid (Bk W0 w.heap.size 26 #[ξ κ b.ab,.slice PA np pc,.slice A m c,.slice TA nt tc]):=ψ (by rw[bY];exact Bk.new _ _ _)
 have ST:Hid (∀W,Below (w.heap.size+1) W0 W->Δ B w W/\w.heap.size+1<=W.heap.size):=ψ λW hW=>by
  have hs:=hW.size;exact⟨Δ.aJ (BW.e.trans (hW.mono (by omega))) hB,by omega⟩
 have SX:Hid (∀W,Below (w.heap.size+1) W0 W-> W.cell? ⟨w.heap.size,0,ν⟩=φ (ξ κ b.ab)/\ W.cell? ⟨w.heap.size,1,ν⟩=φ (.slice PA np pc)/\ W.cell? ⟨w.heap.size,2,ν⟩=φ (.slice A m c)/\ W.cell? ⟨w.heap.size,3,ν⟩=φ (.slice TA nt tc)/\w.heap.size<W.heap.size):=ψ λW hW=>
  have k:=KB.e.below hW (by omega)
  ⟨k.cell 0,k.cell 1,k.cell 2,k.cell 3,k.lt⟩
 have yc:Hid (∀W,Below (w.heap.size+1) W0 W->ύ prog 40 #[η #[ξ κ b.ab,.slice PA np pc,.slice A m c,.slice TA nt tc]] W λe w'=>e=Ω (.bool (zl b))/\Below (w.heap.size+1) W0 w'):=ψ λW hW=>by
  obtain⟨st,hs⟩:=ST.e W hW;exact(fit (bD.e.still st) (by omega)).mono λe w' ⟨h,hb⟩=>⟨h,hW.trans (hb.mono hs)⟩
 have HS:Hid (∀W,Below (w.heap.size+1) W0 W->yK w b PA A TA np pc m c nt tc W):=ψ λW h=>by
  unfold yK;rw[<-bY];exact h
 rw[e2] at hm |-
 rw[hf] at yc;clear ah hf e2;unfold fu fu fu fu t16;unfold c16;simp only[Tryz.f16,ϻ,bp,aS];go_wp2;rw[<-bY]
 go_at_call 40
 refine(yc.e _ (ώ _ _)).mono ?_
 rintro e w1 ⟨rfl,ai⟩;obtain⟨g0,g1,g2,g3,gl⟩:=SX.e w1 ai;have HX:=HS.e w1 ai;clear ai bY;have sZ:((m:Int)==0)=χ:=by simp;omega
 have qy:¬ (m:Int)=0:=by omega
 have acd:((p:Int) % (m:Int))=((p % m:Nat):Int):=by simp
 go_wp2;rw[acd];exact⟨rfl,⟨_,_,_,_,_,_,_,_,_,_,_,_,_,_,_,_,rfl⟩,HX⟩
end
abbrev B4(W:Ψ)(g:Nat)(a b c d:υ):Prop:= W.cell? ⟨g,0,ν⟩=φ a/\ W.cell? ⟨g,1,ν⟩=φ b/\ W.cell? ⟨g,2,ν⟩=φ c/\ W.cell? ⟨g,3,ν⟩=φ d
def KC(v x:υ)(LA:Option Addr)(ln lc:Nat)(s:Int)(p i g:Nat)(tY tZ ua ub uc ud ue uf ug uh ui uj uk um uo uq:υ):Array υ:=#[v,.int .u8 p,π (φ ⟨g,0,ν⟩),ω,.bool χ,ξ κ i,.slice LA ln lc,ξ κ s,ω,ω,ω,ω,ω,ω,ω,ω,ω,ω,tY,tZ,ua,ub,uc,ud,ue,uf,ug,uh,ui,uj,uk,um,uo,uq,μ #[.slice LA ln lc,ξ κ s],x,μ #[.slice LA ln lc,ξ κ s],.slice LA ln lc,ξ κ s,ω,ω,ω,ω,ω,ω,ω,ω,ω,ω,ω,ω,ω,ω,ω,ω,ω,ω,ω,ω,ω,ω,ω,ω,ω,ω,ω,ω,ω,ω,ω,ω,ω,ω,ω,ω,ω,ω,ω,ω,ω,ω,ω,ω,ω,ω,ω,ω,ω,ω,ω,ω,ω,ω,ω,ω,ω,ω,ω,ω,ω,ω,ω,ω,ω,ω,ω,ω,ω,ω,ω,ω,ω,ω,ω,ω,ω,ω,ω,ω,ω,ω,ω,ω,ω,ω,ω,ω,ω,ω,ω,ω]
def aiv{LA:Option Addr}{ln lc:Nat}{s:Int}{PA A:Option Addr}(ah:aQ w B b (.slice PA np pc) (.slice A m c) (.slice TA nt tc))(hB:B<=w.heap.size)(h0:cZ b=0)(hi:i<b.aC.length)(hM:gF w){V:Ψ}(hV:yK w b PA A TA np pc m c nt tc V)(hL:Row V V.heap.size 1 bI (.slice LA ln lc) (je b))(hs:s=bT b 0){tY tZ ua ub uc ud ue uf ug uh ui uj uk um uo uq:υ}:
 Bo.wp lp (GS 4) ⟨KC v (η #[ξ κ b.ab,.slice PA np pc,.slice A m c,.slice TA nt tc]) LA ln lc s p i w.heap.size tY tZ ua ub uc ud ue uf ug uh ui uj uk um uo uq,[cQ]⟩ V:=by
 letI:=jU
 have e2:b.aC.length=m:=by
  obtain⟨A',n',c',e,h,-⟩:=ah.aC.Φ;cases e;exact h
 have e3:m<=c/\c<=ϑ:=by
  obtain⟨A',n',c',e,h,h1,h2,-⟩:=ah.aC.Φ;cases e;exact⟨h1,h2⟩
 unfold ϑ at e3;have bD:=ψ ah;obtain⟨W0,bY⟩:∃W0,W0=w.alloc (Ξ #[ξ κ b.ab,.slice PA np pc,.slice A m c,.slice TA nt tc] 26):=⟨_,rfl⟩
 have Z0:W0.heap.size=w.heap.size+1:=by rw[bY];simp
 have BW:Hid (Below w.heap.size w W0):=ψ (by rw[bY];exact(ώ _ _).alloc (ϊ _) _)
 have KB:Hid (Bk W0 w.heap.size 26 #[ξ κ b.ab,.slice PA np pc,.slice A m c,.slice TA nt tc]):=ψ (by rw[bY];exact Bk.new _ _ _)
 have ST:Hid (∀W,Below (w.heap.size+1) W0 W->Δ B w W/\w.heap.size+1<=W.heap.size):=ψ λW hW=>by
  have hs:=hW.size;exact⟨Δ.aJ (BW.e.trans (hW.mono (by omega))) hB,by omega⟩
 have SX:Hid (∀W,Below (w.heap.size+1) W0 W-> W.cell? ⟨w.heap.size,0,ν⟩=φ (ξ κ b.ab)/\ W.cell? ⟨w.heap.size,1,ν⟩=φ (.slice PA np pc)/\ W.cell? ⟨w.heap.size,2,ν⟩=φ (.slice A m c)/\ W.cell? ⟨w.heap.size,3,ν⟩=φ (.slice TA nt tc)/\w.heap.size<W.heap.size):=ψ λW hW=>
  have k:=KB.e.below hW (by omega)
  ⟨k.cell 0,k.cell 1,k.cell 2,k.cell 3,k.lt⟩
 have u7:Hid (Below (w.heap.size+1) W0 V):=ψ (by rw[bY];exact hV)
 obtain⟨g0,g1,g2,g3,gl⟩:=SX.e V u7.e;have iW:m<=3:=by rw[<-e2];exact(fG h0).nb
 have WC:w.heap.size+1<=V.heap.size:=by have:=u7.e.size;omega
 have zn:Hid (∀U,Below V.heap.size V U->gF U/\Below w.heap.size w U):=ψ λU hU=>by
  have hb:Below w.heap.size w U:=BW.e.trans ((u7.e.trans (hU.mono WC)).mono (by omega))
  exact⟨hM.below hb hM.lt,hb⟩
 have KN:Hid (∀U,Below V.heap.size V U->ύ lp 33 #[η #[ξ κ b.ab,.slice PA np pc,.slice A m c,.slice TA nt tc]] U λe w'=>∃A n c,e=Ω (μ #[.slice A n c,ξ κ (rl b iH),.bool (j8 b iH),ξ κ s])/\Below U.heap.size U w'):=ψ λU hU=>by
  obtain⟨hm,hb⟩:=zn.e U hU;have hz:=hb.size;refine(Hq (B:=B) (by omega) (bD.e.still (Δ.aJ hb hB)) hm).mono λe w' h=>?_
  rw[hs];exact LN h
 have Wp:Hid (∀U,Below V.heap.size V U->ύ lp 80 #[η #[ξ κ b.ab,.slice PA np pc,.slice A m c,.slice TA nt tc],ξ κ i] U λe w'=>∃P4 k4 q4 A4 m4 r4 T4 n4 s4,e=Ω (μ #[η #[ξ κ b.ab,.slice P4 k4 q4,.slice A4 m4 r4,.slice T4 n4 s4],ξ κ 0])/\
  (∀X,oy (λk=>B<=k/\k<U.heap.size) w' X->aQ X X.heap.size (ee b i) (.slice P4 k4 q4) (.slice A4 m4 r4) (.slice T4 n4 s4))/\Below U.heap.size U w'):=ψ λU hU=>by
  obtain⟨-,hb⟩:=zn.e U hU;have hz:=hb.size;have h:=ae5 (B:=B) (k:=(i:Int)) (by omega) (bD.e.still (Δ.aJ hb hB)) h0
  have e1:oi b i=0:=by unfold oi cj;rw[if_pos (by simp;omega)]
  have e2:tf b i=ee b i:=by unfold tf;rw[if_pos e1];rfl
  rw[e1,e2] at h;exact h
 have Wr:Hid (∀U,Below V.heap.size V U->ύ lp 81 #[η #[ξ κ b.ab,.slice PA np pc,.slice A m c,.slice TA nt tc],ξ κ i] U λe w'=>∃T n z,e=Ω (η #[ξ κ b.ab,.slice PA np pc,.slice T n z,.slice TA nt tc])/\aQ w' w'.heap.size (ee b i) (.slice PA np pc) (.slice T n z) (.slice TA nt tc)/\Below U.heap.size U w'):=ψ λU hU=>by
  obtain⟨-,hb⟩:=zn.e U hU;have hz:=hb.size;refine(afN (B:=B) (i:=i) (by omega) (bD.e.still (Δ.aJ hb hB)) hi (by omega)).mono ?_
  rintro e w' ⟨gH,rfl,⟨lT,nh,kU⟩,dv⟩;have eD:aQ w' w'.heap.size (ee b i) (.slice PA np pc) gH (.slice TA nt tc):=kU.book;obtain⟨T,n,z,rfl,-⟩:=eD.aC.Φ;exact⟨T,n,z,rfl,eD,dv⟩
 have e1:b.pieces.length=np:=by
  obtain⟨A',n',c',e,h,-⟩:=ah.pieces.Φ;cases e;exact h
 have hle:(je b).length=ln:=by
  obtain⟨A',n',c',e,h,-⟩:=hL.Φ;cases e;exact h
 have HL:=ψ hL;unfold Bo c16 KC;simp only[Tryz.f16,ϻ,bp,aS];obtain⟨n1,qF⟩:∃n,n=rl b iH:=⟨_,rfl⟩
 obtain⟨p1,ej⟩:∃n,n=j8 b iH:=⟨_,rfl⟩
 rw[<-qF,<-ej] at KN;have HS:=ψ (Ϗ hs (Ϗ qF ej));clear ah hV hL hs qF ej;go_wp2
 go_at_call 33
 refine(KN.e V (ώ _ _)).mono ?_
 rintro e w1 ⟨A5,n5,c5,rfl,ai⟩;have H1:Hid (Below V.heap.size V w1):=ψ ai;clear g0 g1 g2 g3 gl ai;obtain⟨g0,g1,g2,g3,gl⟩:=SX.e w1 (u7.e.trans (H1.e.mono WC));go_wp2
 go_at_call 80
 refine(Wp.e w1 H1.e).mono ?_
 rintro e w2 ⟨P4,k4,q4,A4,m4,r4,T4,n4,s4,rfl,eD,an⟩;have z1:=H1.e.size;have H2:Hid (Below V.heap.size V w2):=ψ (H1.e.trans (an.mono (by omega)))
 have z2:=H2.e.size;obtain⟨W5,sQ⟩:∃W5,W5=w2.alloc (Ξ #[ξ κ b.ab,.slice P4 k4 q4,.slice A4 m4 r4,.slice T4 n4 s4] 26):=⟨_,rfl⟩
 have Z5:W5.heap.size=w2.heap.size+1:=by rw[sQ];simp
 have H5:Hid (Below V.heap.size V W5):=ψ (by rw[sQ];exact H2.e.alloc (by omega) _)
 have K5:Hid (Bk W5 w2.heap.size 26 #[ξ κ b.ab,.slice P4 k4 q4,.slice A4 m4 r4,.slice T4 n4 s4]):=ψ (by rw[sQ];exact Bk.new _ _ _)
 have B5:Hid (aQ W5 W5.heap.size (ee b i) (.slice P4 k4 q4) (.slice A4 m4 r4) (.slice T4 n4 s4)):=ψ (eD W5 ⟨by omega,λy hy _=>by
  have hb:Below w2.heap.size w2 W5:=by rw[sQ];exact(ώ _ _).alloc (ϊ _) _
  exact hb.cell hy⟩)
 clear eD an g0 g1 g2 g3 gl;have KY:Hid (∀U,Below W5.heap.size W5 U->B4 U w.heap.size (ξ κ b.ab) (.slice PA np pc) (.slice A m c) (.slice TA nt tc)/\B4 U w2.heap.size (ξ κ b.ab) (.slice P4 k4 q4) (.slice A4 m4 r4) (.slice T4 n4 s4)/\Hid (Below W5.heap.size W5 U)):=ψ λU hU=>by
  have hz:=H5.e.size;obtain⟨g0,g1,g2,g3,-⟩:=SX.e U (u7.e.trans ((H5.e.trans (hU.mono (by omega))).mono WC))
  have k:=K5.e.below hU (by omega)
  exact⟨⟨g0,g1,g2,g3⟩,⟨k.cell 0,k.cell 1,k.cell 2,k.cell 3⟩,ψ hU⟩
 have VW:Hid (∀U,Below W5.heap.size W5 U->Below V.heap.size V U/\aQ U U.heap.size (ee b i) (.slice P4 k4 q4) (.slice A4 m4 r4) (.slice T4 n4 s4)):=ψ λU hU=>⟨H5.e.trans (hU.mono (by have:=H5.e.size;omega)),zb (B5.e.still (Δ.aJ hU (ϊ _))) hU.size⟩
 have gl:w.heap.size<W5.heap.size:=by omega
 obtain⟨⟨g0,g1,g2,g3⟩,⟨d0,d1,d2,d3⟩,-⟩:=KY.e W5 (ώ _ _);have lx:Hid (Below W5.heap.size W5 W5.drew):=ψ (dT (ώ _ _));have Va:Hid (∀U,Below W5.heap.size W5 U->ύ lp 33 #[η #[ξ κ b.ab,.slice P4 k4 q4,.slice A4 m4 r4,.slice T4 n4 s4]] U λe w'=>∃A n c,e=Ω (μ #[.slice A n c,ξ κ (rl (ee b i) iH),.bool (j8 (ee b i) iH),ξ κ s])/\Below U.heap.size U w'):=ψ λU hU=>by
  obtain⟨hb,hk⟩:=VW.e U hU;refine(Hq (b:=ee b i) (ϊ _) hk (zn.e U hb).1).mono λe w' h=>?_
  rw[HS.e.1,<-P7 h0 i];exact LN h
 have ZR:=ψ sQ;clear sQ;go_wp2;rw[<-ZR.e];refine hstart (S:=(λU=>B4 U w.heap.size (ξ κ b.ab) (.slice PA np pc) (.slice A m c) (.slice TA nt tc)/\B4 U w2.heap.size (ξ κ b.ab) (.slice P4 k4 q4) (.slice A4 m4 r4) (.slice T4 n4 s4)/\Hid (Below W5.heap.size W5 U))) 15 rfl (by kernel_rfl) ?_ (λxB=>?_)
 ·exact KY.e _ lx.e
 refine bh 6 9 rfl (by kernel_rfl) xB ?_
 iterate 6
  apply OT 52 rfl (by kernel_rfl) (by kernel_rfl)
  ·intro W hW
   try dsimp only[B4] at hW
   go_simp;all_goals with_reducible rfl
  try simp only[É,Ö,Ø,Ì]
 apply OO;refine Oe rfl (by kernel_rfl) (by kernel_rfl) (λK Q hK=>?_)
 go_simp
 go_at_call 81
 refine(Wr.e _ (VW.e _ lx.e).1).mono ?_
 rintro e w9 ⟨T9,n9,c9,rfl,OE,jR⟩;have Ln:=ψ OE;have nv:=ψ (lx.e.trans (jR.mono lx.e.size));clear jR OE
 try go_wp2_with fail
 refine hK.out _ _ ?_ (λEG=>?_)
 ·exact KY.e _ nv.e
 clear hK K Q xB
 try simp only[É,Ö,Ø,Ì]
 refine Oe rfl (by kernel_rfl) (by kernel_rfl) (λK Q hK=>?_)
 go_simp
 go_at_call 54
 refine(JV (b:=ee b i) (VW.e _ nv.e).2 Ln.e (ϊ _)).mono ?_
 rintro e Kk ⟨rfl,sR⟩;have nw:=ψ (nv.e.trans (sR.mono nv.e.size));clear sR
 try go_wp2_with fail
 refine hK.out _ _ ?_ (λID=>?_)
 ·exact KY.e _ nw.e
 clear hK K Q EG
 try simp only[É,Ö,Ø,Ì]
 refine bh 7 0 rfl (by kernel_rfl) ID ?_
 iterate 7
  apply OT 52 rfl (by kernel_rfl) (by kernel_rfl)
  ·intro W hW
   try dsimp only[B4] at hW
   go_simp;all_goals with_reducible rfl
  try simp only[É,Ö,Ø,Ì]
 apply OO;refine Cc (by kernel_rfl) ?_
 go_wp2
 go_at_call 33
 refine(Va.e _ nw.e).mono ?_
 rintro e sw ⟨A6,n6,c6,rfl,NC⟩;have tn:Hid (Below W5.heap.size W5 sw):=ψ (nw.e.trans (NC.mono nw.e.size));clear NC ID g0 g1 g2 g3 d0 d1 d2 d3;obtain⟨⟨g0,g1,g2,g3⟩,⟨d0,d1,d2,d3⟩,-⟩:=KY.e sw tn.e;have RL:Row sw sw.heap.size 1 bI (.slice LA ln lc) (je b):=asU HL.e (VW.e _ tn.e).1;have KX:=ψ RL;have VI:ln<=1000:=by
  rw[<-hle];unfold je ints KU;split
  ·rw[List.length_map]
   have:=List.length_filter_le (FW b) (ε b.aC.length);rw[List.length_range] at this;omega
  ·exact Nat.zero_le _
 clear RL;by_cases ag:bT b 0=0
 ·obtain⟨F1,F2,F3,F4⟩:=ahY h0 ag hi
  have Vb:Hid (ύ lp 57 #[.slice LA ln lc,ξ κ m] sw λe w'=>e=Ω (ξ κ 0)/\Hid (Below sw.heap.size sw w')):=ψ (by
   have:=rising (np:=m) KX.e (ϊ _) (by unfold ϑ;omega)
   rw[e2] at F4;rw[F4] at this;exact this.mono λe w' h=>⟨h.1,ψ h.2⟩)
  obtain rfl:s=0:=HS.e.1.trans ag;obtain⟨n3,H7⟩:∃n,n=rl (ee b i) iH:=⟨_,rfl⟩
  obtain⟨p3,iX⟩:∃n,n=j8 (ee b i) iH:=⟨_,rfl⟩
  rw[<-H7,<-iX,<-HS.e.2.1,<-HS.e.2.2] at F2;rw[<-HS.e.2.2,e2,hle] at F3;rw[<-iX] at F1;rw[<-H7,<-iX];have We:Hid (∀U,Below sw.heap.size sw U->ύ lp 79 #[.slice LA ln lc,ξ κ i] U λe w'=>e=Ω (.bool (!p3))/\U=w'):=ψ λU hU=>by
   have:=abw (n:=(i:Int)) (asU KX.e hU) (by omega)
   rw[F1] at this;exact this
  clear F1 F4 H7 iX ag hi h0 e1 e2;go_wp2
  go_at_call 57
  refine Vb.e.mono ?_
  rintro e S0 ⟨rfl,Gw⟩;clear g0 g1 g2 g3 d0 d1 d2 d3 gl;have gl:w.heap.size<S0.heap.size:=by have:=tn.e.size;have:=Gw.e.size;omega
  obtain⟨⟨g0,g1,g2,g3⟩,-,-⟩:=KY.e S0 (tn.e.trans (Gw.e.mono tn.e.size));go_wp2
  go_at_call 79
  refine(We.e _ Gw.e).mono ?_
  rintro e w13 ⟨rfl,rfl⟩;cases p3 with
  |true=>
   obtain⟨rfl,aly⟩:=F2 rfl;have ao:¬n3<n1:=by omega
   clear F2 F3;go_wp2
   go_at_call 21
   refine(J9 _).mono ?_
   rintro e w' ⟨rfl,rfl⟩;go_wp2;exact⟨rfl,rfl,rfl⟩
  |false=>
   clear F2;cases p1 with
   |true=>
    clear F3;go_wp2
    go_at_call 21
    refine(J9 _).mono ?_
    rintro e w' ⟨rfl,rfl⟩;go_wp2;exact⟨rfl,rfl,rfl⟩
   |false=>
    obtain rfl:=F3 rfl;go_wp2
    go_at_call 21
    refine(J9 _).mono ?_
    rintro e w' ⟨rfl,rfl⟩;go_wp2;exact⟨rfl,rfl,rfl⟩
 ·have Cs:bT b 0=9:=by
   unfold bT at ag |-
   rw[if_neg (by simpa using h0),if_neg (by simp)] at ag |-
   split
   ·rfl
   ·rename_i h
    rw[if_neg h] at ag;exact absurd rfl ag
  obtain rfl:s=9:=HS.e.1.trans Cs;obtain rfl:ln=0:=by rw[<-hle,je,if_neg ag];rfl
  clear ag Cs hi h0 e1 e2;go_wp2
  go_at_call 21
  refine(J9 _).mono ?_
  rintro e w' ⟨rfl,rfl⟩;go_wp2;exact⟨rfl,rfl,rfl⟩
end Go.Jn
namespace Go.Jn
open Go Go.Proofs Go.Sim Go.Tw Go.Conc Go.RowKit
def Z7:Tryz.f16.body=φ c16:=by
 unfold c16;rfl
def Z8:cC ϋ G0 c16=θ:=by decide+kernel
def akD:cC ϋ G0 Bo=θ:=by decide+kernel
def aaW:∀c∈ [bp c16,bp (aS c16),bp (aS (aS c16))],C0.clean c:=by
 have h: [bp c16,bp (aS c16),bp (aS (aS c16))].all (cC ϋ G0)=θ:=by decide+kernel
 intro c hc;exact ġ.1 h c hc
def ajM(v:υ)(p:Nat):t16 v p=#[v,.int .u8 p]++ϭ 129 ω:=by kernel_rfl
def ajN(v x:υ)(LA:Option Addr)(ln lc:Nat)(s:Int)(p i g:Nat)(tY tZ ua ub uc ud ue uf ug uh ui uj uk um uo uq:υ):
 ib (Sc v p i g tY tZ ua ub uc ud ue uf ug uh ui uj uk um uo uq) 35 36 34 37 38 6 7 x (.slice LA ln lc) (ξ κ s)=KC v x LA ln lc s p i g tY tZ ua ub uc ud ue uf ug uh ui uj uk um uo uq:=by kernel_rfl
def aih(An:DC){pv bv:υ}(ah:GF (fI W) W W.heap.size b pv bv tv)(hm:sD W)(hp:p<256):
 ∃N last o w' t',runNT ϋ (N+1) (solo (G (Frame.enter ϋ 16 #[η #[ξ κ b.ab,pv,bv,tv],.int .u8 p] .normal) []) W) #[]=(.ended o w',t')/\runN ϋ N (solo (G (Frame.enter ϋ 16 #[η #[ξ κ b.ab,pv,bv,tv],.int .u8 p] .normal) []) W)=.next last/\
  step ϋ last=.ended o w'/\Conc.Good ϋ (λv w'=>v=.bool θ/\Below W.heap.size W w') last o w' t':=by
 letI:=jC
 obtain⟨hM,h00⟩:=af5 hm;obtain⟨hB,q1,q2,q3⟩:=af1 ah;have hrel:aV (tk W) (t16 (η #[ξ κ b.ab,pv,bv,tv]) p) (#[η #[ξ κ b.ab,pv,bv,tv],.int .u8 p]++ϭ (Tryz.f16.ntmps - (#[η #[ξ κ b.ab,pv,bv,tv],.int .u8 p]:Array υ).size) ω):=by
  rw[ajM];exact(aiR (ant q1 q2 q3) (.int _ _)).append (anB _ 129)
 have aH:=λwl=>ah2 (wl:=wl) ah hm
 obtain⟨PA,np,pc,rfl,-⟩:=hB.pieces.Φ;obtain⟨A,m,c,rfl,-⟩:=hB.aC.Φ;obtain⟨TA,nt,tc,rfl,-⟩:=hB.aI.Φ;have Gx:∀T,aQ (bq (oF W) T) W.heap.size b (.slice PA np pc) (.slice A m c) (.slice TA nt tc):=λT=>⟨hB.pieces,hB.aC,hB.aI⟩
 have hz:=Nat.le_of_eq (Uk (W:=W)).symm;by_cases hf:zl b=θ/\0<b.aC.length
 ·have M0:=Qu Tryz.func16 Z1 hrel hm
  obtain⟨cF,u1,mn,⟨T,⟨tY,tZ,ua,ub,uc,ud,ue,uf,ug,uh,ui,uj,uk,um,uo,uq,rfl⟩,hS⟩,M1⟩:=Jb aaW M0 (Q:=λu aa=>∃T,Gt (bq (oF W) T) b (η #[ξ κ b.ab,.slice PA np pc,.slice A m c,.slice TA nt tc]) p (p % b.aC.length) PA A TA np pc m c nt tc u aa)
   (λT=>Gq (ju:=[]) (Q:=λe a w=>e=.normal/\a.defers=[cQ]/\∃T,Gt (bq (oF W) T) b (η #[ξ κ b.ab,.slice PA np pc,.slice A m c,.slice TA nt tc]) p (p % b.aC.length) PA A TA np pc m c nt tc a.tmps w) (λa aa hf=>⟨rfl,hf.1,T,hf.2⟩) _ (aii (w:=bq (oF W) T) (Gx T) hz hp hf.1 hf.2))
  have ahe:Bk mn (oF W).heap.size 26 #[ξ κ b.ab,.slice PA np pc,.slice A m c,.slice TA nt tc]:=(Bk.new (bq (oF W) T) _ _).below hS (Nat.lt_succ_self _);obtain⟨bQ,gQ,T2,ol,M2,dE,rO⟩:=P9 ahP M1 rfl rfl ahe (aH mn);obtain⟨LA,ln,lc,rfl⟩:=iI dE;rw[ajN] at M2;refine P8 An M2 hm Tryz.func16 akD rfl (by omega) (λT'=>aiv (w:=bq (oF W) T') (V:=bq gQ T') (Gx T') hz (afT hf.1) (Nat.mod_lt _ hf.2) hM ⟨rO.os.trans hS.os,rfl,rO.output.trans hS.output,Nat.le_trans hS.size rO.size,λk hk=>(rO.block k (Nat.lt_of_lt_of_le ?_ hS.size)).trans (hS.block k hk)⟩ (CF (w:=bq gQ T') dE) rfl)
  have:((bq (oF W) T).alloc (Ξ #[ξ κ b.ab,.slice PA np pc,.slice A m c,.slice TA nt tc] 26)).heap.size=(bq (oF W) T).heap.size+1:=by simp
  rw[this];exact hk
 ·exact P8 An (Qu Tryz.func16 Z7 hrel hm) hm Tryz.func16 Z8 rfl (by omega) (λT=>aic (w:=bq (oF W) T) (Gx T) hz hp λh=>by
   have:¬0<b.aC.length:=λk=>hf ⟨h,k⟩
   omega)
end Go.Jn
namespace Go.Jn
open Go Go.Proofs Go.Sim Go.Tw Go.Conc Go.ChangeShapes Go.WideShapes Go.ChangeAt Go.RowKit
open YtfifdjajcogccaaGreatDoor
def air(An:DC)(os:Os)(started:os.Started)(H:Type)(enc:TypeId×υ->H):
 ReturnsInLeavingWide {} Tryz.checked os 16 .any (λw args=>(Rows.mouldNeededSpec.pre enc ϋ Tryz.f16 [] χ w args/\laidMetH ϋ FK w)/\sizedMet enc ϋ Tryz.f16 (OpenSpec.ofChange Rows.mouldNeededSpec) χ w args)
  (Rows.mouldNeededSpec.post enc ϋ Tryz.f16 χ θ χ χ):=by
 refine akc (C:=Tryz.checked) (X:=λw _=>laidMetH ϋ FK w) (λ_ _ _ hh h=>laidMetH.of_heap hh h) amS started Tryz.func16
  (ChangeSpec.witness_shaped (enc:=enc) (C:=Tryz.checked) (os:=os) (X:=λw _=>laidMetH ϋ FK w) χ (World.doorLaid ϋ 600 os) #[η #[ξ κ 0,ζ ν 0 0,ζ ν 0 0,ζ ν 0 0],.int .u8 0] 8 rfl (aoX os _) (by kernel_rfl) (by kernel_rfl) (by kernel_rfl) (aeu os _)) ?_
 intro W base args ds gs before Wv hW hS hL;have vD:∀(j:Nat) t v,Tryz.f16.params[j]?=φ t->args[j]?=φ v->Value.okWide ϋ W .any base t v:=Wv
 have B1:=hW;obtain⟨p,q,UH,hV,rfl,Vc,oN⟩:=hW;have hA:DataW.TrodAll enc ϋ W 0 (λ_=>θ) θ Tryz.f16.params.toList args.toList ds p:=UH
 rw[Tryz.params16] at hA vD;obtain⟨v0,v1,d0,d1,p0,p1,rfl,rfl,rfl,h0,h1⟩:=trodAll_two hA;obtain⟨rfl,rfl⟩:=trodVars_none hV;obtain⟨x,rfl,rfl,rfl,wx⟩:=open_int Tryz.underlying5 (vD 1 5 v1 rfl rfl) h1;have O3:=vD 0 26 v0 rfl rfl;unfold Value.okWide at O3;rw[Tryz.underlying26] at O3;obtain⟨cs,rfl,_,_⟩:=O3;have h0k:=h0;obtain⟨fuel,hf⟩:=h0;obtain⟨b,pv,bv,tv,fh,ah⟩:=acR (enc:=enc) (W:=W) hf;have ahr:cs=#[ξ κ b.ab,pv,bv,tv]:=by
  have:cs.toList=_:=fh;rw[<-Array.toList_inj,this]
 subst ahr;clear UH Wv;simp only[List.append_nil] at B1;have ao:∀y∈p0,y.block<W.heap.size:=λy hy=>B1.lt y (by simpa using hy)
 have hm:=ale hS hL;obtain⟨hM,h00⟩:=af5 hm;obtain⟨hB,q1,q2,q3⟩:=af1 ah;obtain⟨xn,rfl,hx⟩:∃m:Nat,x=m/\m<256:=by
  simp[Lit.wf,IntKind.min,IntKind.max,IntKind.signed,IntKind.bits] at wx;exact⟨x.toNat,by omega,by omega⟩
 obtain⟨M,last,o,w',t',r1,r2,r3,r4⟩:=aih An ah hm hx;refine⟨M,last,o,w',t',r1,r2,r3,Conc.Good.mono r4 λv hF=>?_⟩
 obtain⟨rfl,hb⟩:=hF;refine⟨_,_,_,[],p0++ [],[],B1,?_,?_,rfl,hb.frame _,λh=>by cases h⟩
 ·exact trodAll_mk1 (shut_bool Tryz.underlying4 _)
 ·exact trodAll_mk2 (Below.trod Jf (by kernel_rfl) (of_decide_eq_true (by kernel_rfl)) h0k hb ao) (shut_int Tryz.underlying5 wx)
end Go.Jn
namespace Go.Jn
open Go Go.Proofs
open YtfifdjajcogccaaGreatDoor
def apU(Lk:Looks){p:Pinned}{s:OpenSpec}{c:OpenClaim}(kinds:List LaidKind)(QO:Bool)(zI:Bool×String)(lk:Bool)
 (hc:c.holds p s)(hw:c.wfByText s=θ)(aiP:c.laidByTextAt Lk p kinds QO)(eW:c.start=.entering)(eQ:c.noBlocks=χ/\c.again=χ)(hm:p.checked.prog.mainIs=φ (zI.1,zI.2.toList))(hn:(!zI.1 && zI.2.isEmpty && !lk)=χ)
 (hl:∀f fn,p.checked.prog.funcNamed c.func=φ f->p.checked.prog.funcs[f]?=φ fn->lk=p.checked.prog.looks []/\∀(j:Nat) t,fn.params[j]?=φ t->p.checked.prog.wantsStandIn t=χ)
 (hg:θ=c.goesBy p.checked.prog):
 Claim7.holds p (.plain s) {stood:={row:=c,standIns:=[],harness:=zI,looks:=lk},kinds:=[],alts:=[],goes:=θ,laidByText:=θ,laidKinds:=kinds,laidTests:=QO,laidLooks:=Lk}:=by
 have h6:Claim7.isSixth {stood:={row:=c,standIns:=[],harness:=zI,looks:=lk},kinds:=[]}=χ:=by simpa [Claim7.isSixth] using hn
 exact⟨Claim7.tied_new_at Lk kinds QO (Claim7.new_of_sixth hc zI lk eW eQ hm h6 hl) hw,(λD hD=>by cases hD),aiP,(λh=>by cases h),hg⟩
def aoH:ϋ.laidByTextLater Rows.mouldLeastRow.laid [.funcs] θ:=
 Program.laidByTextLater_by_one 16 8 2 (by kernel_rfl) (by kernel_rfl) (by kernel_rfl) (by kernel_rfl) (by kernel_rfl) (by kernel_rfl) (λ_ _=>by kernel_rfl)
def amY:Tryz.pinned.checked.prog.headLifts.contains "ownunsafe" =χ:=by kernel_rfl
def ak8:Tryz.pinned.checked.prog.mainIs=φ (θ,"8b4c60804a89a2dc1775d2d899c432f4b3d9a7cd22d2b16114beb87ecc832d7f".toList):=by kernel_rfl
def amq:χ=Tryz.pinned.checked.prog.looks []:=by kernel_rfl
end Go.Jn
namespace Go.Jn
open Go Go.Proofs Go.Sim Go.Conc Go.Tw Go.RowKit
def lit(x:Nat->υ):List υ:=x 0::x 1::x 2::x 3::x 4::x 5::x 6::x 7::x 8::x 9::x 10::x 11::x 12::x 13::x 14::x 15::x 16::x 17::x 18::x 19::x 20::x 21::x 22::x 23::x 24::x 25::x 26::x 27::x 28::x 29::x 30::x 31::x 32::x 33::x 34::x 35::x 36::x 37::x 38::x 39::x 40::x 41::x 42::x 43::x 44::x 45::x 46::x 47::x 48::x 49::x 50::x 51::x 52::x 53::x 54::x 55::x 56::x 57::x 58::x 59::x 60::x 61::x 62::x 63::x 64::x 65::x 66::x 67::x 68::x 69::x 70::x 71::x 72::x 73::x 74::x 75::x 76::x 77::x 78::x 79::x 80::x 81::x 82::x 83::x 84::x 85::x 86::x 87::x 88::x 89::x 90::x 91::x 92::x 93::x 94::x 95::x 96::x 97::x 98::x 99::x 100::x 101::x 102::x 103::x 104::x 105::x 106::x 107::x 108::x 109::x 110::x 111::x 112::x 113::x 114::x 115::x 116::x 117::x 118::x 119::x 120::x 121::x 122::x 123::x 124::x 125::x 126::x 127::x 128::x 129::x 130::x 131::x 132::x 133::x 134::x 135::x 136::x 137::x 138::x 139::x 140::x 141::x 142::x 143::x 144::x 145::x 146::x 147::x 148::x 149::x 150::x 151::x 152::x 153::x 154::x 155::x 156::x 157::x 158::x 159::x 160::x 161::x 162::x 163::x 164::x 165::x 166::x 167::x 168::x 169::x 170::x 171::x 172::x 173::x 174::x 175::x 176::x 177::x 178::x 179::x 180::x 181::x 182::x 183::x 184::x 185::x 186::x 187::x 188::x 189::x 190::x 191::x 192::x 193::x 194::x 195::x 196::x 197::x 198::x 199::x 200::x 201::x 202::x 203::x 204::x 205::x 206::x 207::x 208::x 209::x 210::x 211::x 212::x 213::x 214::x 215::x 216::x 217::x 218::x 219::x 220::x 221::x 222::x 223::x 224::x 225::x 226::x 227::x 228::x 229::x 230::x 231::x 232::x 233::x 234::x 235::x 236::x 237::x 238::x 239::x 240::x 241::x 242::x 243::x 244::x 245::x 246::x 247::x 248::x 249::x 250::x 251::x 252::x 253::x 254::x 255::x 256::x 257::x 258::x 259::x 260::x 261::x 262::x 263::x 264::x 265::x 266::x 267::x 268::x 269::x 270::x 271::x 272::x 273::x 274::x 275::x 276::x 277::x 278::x 279::x 280::x 281::x 282::x 283::x 284::x 285::x 286::x 287::x 288::x 289::x 290::x 291::x 292::x 293::x 294::x 295::x 296::x 297::x 298::x 299::x 300::x 301::x 302::x 303::x 304::x 305::x 306::x 307::x 308::x 309::x 310::x 311::x 312::x 313::x 314::x 315::x 316::x 317::x 318::x 319::x 320::x 321::x 322::x 323::x 324::x 325::x 326::x 327::x 328::x 329::x 330::x 331::x 332::x 333::x 334::x 335::x 336::x 337::x 338::x 339::x 340::x 341::x 342::x 343::x 344::x 345::x 346::x 347::x 348:: []
def akq(x:Nat->υ):lit x=(ε 349).map x:=rfl
def Xj(u:Array υ)(h:u.size=349):∃x:Nat->υ,u=(lit x).toArray/\∀i v,u[i]?=φ v->x i=v:=by
 refine⟨λi=>u.getD i ω,?_,λi v hv=>?_⟩
 ·rw[akq]
  apply Array.ext
  ·simp[h]
  ·intro i h1 h2
   simp[î,h1]
 ·simp[î,hv]
def Sl(m:List (Nat×υ))(a:Act):Prop:=a.defers=[cQ]/\a.tmps.size=349/\∀p∈m,a.tmps[p.1]?=φ p.2
def Sl.get{m:List (Nat×υ)}(h:Sl m a)(hm:(i,v)∈m):a.tmps[i]?=φ v:=h.2.2 (i,v) hm
def eY{p:α->Prop}{a:α}{l:List α}(h1:p a)(h2:∀x∈l,p x):∀x∈a::l,p x:=λx hx=>(Ϧ.1 hx).elim (λe=>e▸h1) (h2 x)
def jF{p:α->Prop}:∀x∈([]:List α),p x:=λ_ h=>absurd h Λ
def Al:List (Nat×υ)->(Nat->υ)->Prop
 | [],_=>True
 |p::m,x=>x p.1=p.2/\Al m x
def Sl.lit{m:List (Nat×υ)}{a:Act}(h:Sl m a):∃x,a=⟨(lit x).toArray,[cQ]⟩/\Al m x:=by
 obtain⟨u,d⟩:=a;obtain⟨hd,hz,hm⟩:=h;simp only at hd hz hm;subst hd;obtain⟨x,rfl,hx⟩:=Xj u hz;refine⟨x,rfl,?_⟩
 clear hz;induction m with
 |nil=>trivial
 |cons p m ih=>exact⟨hx _ _ (hm p (by simp)),ih λq hq=>hm q (by simp[hq])⟩
def jZ{P:Program}{c:Code}{cs:List Code}{F:Act->Ψ->Prop}{Q:Exit->Act->Ψ->Prop}(h:c.wp P (dK F) a w)(h2:∀a w,F a w->fu P cs Q a w):fu P (c::cs) Q a w:=by
 show c.wp P (Exit.then (fu P cs Q) Q) a w;refine Code.wp_mono (λe a w hq=>?_) h
 cases e with
 |normal=>exact h2 a w hq
 |_=>exact(hq:False).elim
end Go.Jn
namespace Go.Jn
open Go Go.Proofs Go.Sim Go.Conc Go.Tw Go.RowKit
section
variable [Go.Tw.aK]
def rz3{W:Option Addr->Nat->Nat->Ψ->Prop}(hs:Sl [(0,.bool χ),(1,π (φ ⟨gE,0,ν⟩)),(2,ζ (φ ⟨gc,0,ν⟩) 3 3),(3,ζ (φ ⟨g3,0,ν⟩) 3 3)] a)(hc:Bk w gE 26 #[ξ κ 1,ζ (φ ⟨gp,0,ν⟩) 3 3,ζ (φ ⟨gb,0,ν⟩) 2 2,ζ (φ ⟨gt,0,ν⟩) 1 1])
 (aG:ύ prog 47 #[η #[ξ κ 1,ζ (φ ⟨gp,0,ν⟩) 3 3,ζ (φ ⟨gb,0,ν⟩) 2 2,ζ (φ ⟨gt,0,ν⟩) 1 1],ξ κ 0] w λe w'=>∃A4 n4 c4,e=Ω (μ #[.slice A4 n4 c4,ξ κ 0])/\W A4 n4 c4 w'):tO.wp prog (dK λa w=>∃A4 n4 c4,Sl [(0,.bool χ),(1,π (φ ⟨gE,0,ν⟩)),(2,ζ (φ ⟨gc,0,ν⟩) 3 3),(3,ζ (φ ⟨g3,0,ν⟩) 3 3),(4,.slice A4 n4 c4),(5,ξ κ 0)] a/\W A4 n4 c4 w) a w:=by
 obtain⟨x,rfl,hx⟩:=hs.lit;simp only[Al] at hx;have q0:=hc.cell 0;have q1:=hc.cell 1;have q2:=hc.cell 2;have q3:=hc.cell 3;have aG:=ψ aG;clear hc;unfold lit;simp only[hx];simp only[tO,jm,iM,iL,iK,iS,Tryz.f21,bp,aS,ϻ];go_wp2_with (go_at_call 47;refine aG.e.mono ?_;rintro e w1 ⟨A4,n4,c4,rfl,hp⟩;have HP:=ψ hp;clear hp)
 exact⟨A4,n4,c4,⟨rfl,rfl,(by repeat first|exact jF|refine eY rfl ?_)⟩,HP.e⟩
def rz4{W:Ψ->Prop}(hs:Sl [(0,.bool χ),(1,π (φ ⟨gE,0,ν⟩)),(2,ζ (φ ⟨gc,0,ν⟩) 3 3),(3,ζ (φ ⟨g3,0,ν⟩) 3 3),(4,.slice A4 n4 c4),(5,ξ κ 0)] a)(hc:Bk w gE 26 #[ξ κ 1,ζ (φ ⟨gp,0,ν⟩) 3 3,ζ (φ ⟨gb,0,ν⟩) 2 2,ζ (φ ⟨gt,0,ν⟩) 1 1])
 (aG:ύ prog 48 #[η #[ξ κ 1,ζ (φ ⟨gp,0,ν⟩) 3 3,ζ (φ ⟨gb,0,ν⟩) 2 2,ζ (φ ⟨gt,0,ν⟩) 1 1],ξ κ 0,ξ κ 0] w λe w'=>e=Ω (μ #[ξ κ 4,ξ κ 0])/\W w'):tP.wp prog (dK λa w=>Sl [(0,.bool χ),(1,π (φ ⟨gE,0,ν⟩)),(2,ζ (φ ⟨gc,0,ν⟩) 3 3),(3,ζ (φ ⟨g3,0,ν⟩) 3 3),(4,.slice A4 n4 c4),(5,ξ κ 0),(6,ξ κ 4),(7,ξ κ 0)] a/\W w) a w:=by
 obtain⟨x,rfl,hx⟩:=hs.lit;simp only[Al] at hx;have q0:=hc.cell 0;have q1:=hc.cell 1;have q2:=hc.cell 2;have q3:=hc.cell 3;have aG:=ψ aG;clear hc;unfold lit;simp only[hx];simp only[tP,jH,jm,iM,iL,iK,iS,Tryz.f21,bp,aS,ϻ];go_wp2_with (go_at_call 48;refine aG.e.mono ?_;rintro e w1 ⟨rfl,hp⟩;have HP:=ψ hp;clear hp)
 exact⟨⟨rfl,rfl,(by repeat first|exact jF|refine eY rfl ?_)⟩,HP.e⟩
def rz5{W:Ψ->Prop}(hs:Sl [(0,.bool χ),(1,π (φ ⟨gE,0,ν⟩)),(2,ζ (φ ⟨gc,0,ν⟩) 3 3),(3,ζ (φ ⟨g3,0,ν⟩) 3 3),(4,.slice A4 n4 c4),(5,ξ κ 0),(6,ξ κ 4),(7,ξ κ 0)] a)(hc:Bk w gE 26 #[ξ κ 1,ζ (φ ⟨gp,0,ν⟩) 3 3,ζ (φ ⟨gb,0,ν⟩) 2 2,ζ (φ ⟨gt,0,ν⟩) 1 1])
 (aG:ύ prog 48 #[η #[ξ κ 1,ζ (φ ⟨gp,0,ν⟩) 3 3,ζ (φ ⟨gb,0,ν⟩) 2 2,ζ (φ ⟨gt,0,ν⟩) 1 1],ξ κ 0,ξ κ 1] w λe w'=>e=Ω (μ #[ξ κ 8,ξ κ 0])/\W w'):tQ.wp prog (dK λa w=>Sl [(0,.bool χ),(1,π (φ ⟨gE,0,ν⟩)),(2,ζ (φ ⟨gc,0,ν⟩) 3 3),(3,ζ (φ ⟨g3,0,ν⟩) 3 3),(4,.slice A4 n4 c4),(5,ξ κ 0),(6,ξ κ 4),(7,ξ κ 0),(8,ξ κ 8),(9,ξ κ 0)] a/\W w) a w:=by
 obtain⟨x,rfl,hx⟩:=hs.lit;simp only[Al] at hx;have q0:=hc.cell 0;have q1:=hc.cell 1;have q2:=hc.cell 2;have q3:=hc.cell 3;have aG:=ψ aG;clear hc;unfold lit;simp only[hx];simp only[tQ,j4,jH,jm,iM,iL,iK,iS,Tryz.f21,bp,aS,ϻ];go_wp2_with (go_at_call 48;refine aG.e.mono ?_;rintro e w1 ⟨rfl,hp⟩;have HP:=ψ hp;clear hp)
 exact⟨⟨rfl,rfl,(by repeat first|exact jF|refine eY rfl ?_)⟩,HP.e⟩
def rz8{W:Ψ->Prop}(hs:Sl [(0,.bool χ),(1,π (φ ⟨gE,0,ν⟩)),(2,ζ (φ ⟨gc,0,ν⟩) 3 3),(3,ζ (φ ⟨g3,0,ν⟩) 3 3),(4,.slice A4 n4 c4),(5,ξ κ 0),(6,ξ κ 4),(7,ξ κ 0),(8,ξ κ 8),(9,ξ κ 0),(10,.bool θ),(11,ξ κ 0),(12,.bool χ),(13,ξ κ 0)] a)(hc:Bk w gE 26 #[ξ κ 1,ζ (φ ⟨gp,0,ν⟩) 3 3,ζ (φ ⟨gb,0,ν⟩) 2 2,ζ (φ ⟨gt,0,ν⟩) 1 1])
 (aG:ύ prog 22 #[η #[ξ κ 1,ζ (φ ⟨gp,0,ν⟩) 3 3,ζ (φ ⟨gb,0,ν⟩) 2 2,ζ (φ ⟨gt,0,ν⟩) 1 1]] w λe w'=>e=Ω (μ #[ξ κ 2,ξ κ 0])/\W w'):tT.wp prog (dK λa w=>Sl [(0,.bool χ),(1,π (φ ⟨gE,0,ν⟩)),(2,ζ (φ ⟨gc,0,ν⟩) 3 3),(3,ζ (φ ⟨g3,0,ν⟩) 3 3),(4,.slice A4 n4 c4),(5,ξ κ 0),(6,ξ κ 4),(7,ξ κ 0),(8,ξ κ 8),(9,ξ κ 0),(10,.bool θ),(11,ξ κ 0),(12,.bool χ),(13,ξ κ 0),(14,ξ κ 2),(15,ξ κ 0)] a/\W w) a w:=by
 obtain⟨x,rfl,hx⟩:=hs.lit;simp only[Al] at hx;have q0:=hc.cell 0;have q1:=hc.cell 1;have q2:=hc.cell 2;have q3:=hc.cell 3;have aG:=ψ aG;clear hc;unfold lit;simp only[hx];simp only[tT,lM,lr,kK,j4,jH,jm,iM,iL,iK,iS,Tryz.f21,bp,aS,ϻ];go_wp2_with (go_at_call 22;refine aG.e.mono ?_;rintro e w1 ⟨rfl,hp⟩;have HP:=ψ hp;clear hp)
 exact⟨⟨rfl,rfl,(by repeat first|exact jF|refine eY rfl ?_)⟩,HP.e⟩
def rz9{W:Option Addr->Nat->Nat->Ψ->Prop}(hs:Sl [(0,.bool χ),(1,π (φ ⟨gE,0,ν⟩)),(2,ζ (φ ⟨gc,0,ν⟩) 3 3),(3,ζ (φ ⟨g3,0,ν⟩) 3 3),(4,.slice A4 n4 c4),(5,ξ κ 0),(6,ξ κ 4),(7,ξ κ 0),(8,ξ κ 8),(9,ξ κ 0),(10,.bool θ),(11,ξ κ 0),(12,.bool χ),(13,ξ κ 0),(14,ξ κ 2),(15,ξ κ 0)] a)(hc:Bk w gE 26 #[ξ κ 1,ζ (φ ⟨gp,0,ν⟩) 3 3,ζ (φ ⟨gb,0,ν⟩) 2 2,ζ (φ ⟨gt,0,ν⟩) 1 1])
 (aG:ύ prog 24 #[η #[ξ κ 1,ζ (φ ⟨gp,0,ν⟩) 3 3,ζ (φ ⟨gb,0,ν⟩) 2 2,ζ (φ ⟨gt,0,ν⟩) 1 1],ξ κ 0] w λe w'=>∃lN n16 c16,e=Ω (μ #[.slice lN n16 c16,ξ κ 0])/\W lN n16 c16 w'):tU.wp prog (dK λa w=>∃lN n16 c16,Sl [(0,.bool χ),(1,π (φ ⟨gE,0,ν⟩)),(2,ζ (φ ⟨gc,0,ν⟩) 3 3),(3,ζ (φ ⟨g3,0,ν⟩) 3 3),(4,.slice A4 n4 c4),(5,ξ κ 0),(6,ξ κ 4),(7,ξ κ 0),(8,ξ κ 8),(9,ξ κ 0),(10,.bool θ),(11,ξ κ 0),(12,.bool χ),(13,ξ κ 0),(14,ξ κ 2),(15,ξ κ 0),(16,.slice lN n16 c16),(17,ξ κ 0)] a/\W lN n16 c16 w) a w:=by
 obtain⟨x,rfl,hx⟩:=hs.lit;simp only[Al] at hx;have q0:=hc.cell 0;have q1:=hc.cell 1;have q2:=hc.cell 2;have q3:=hc.cell 3;have aG:=ψ aG;clear hc;unfold lit;simp only[hx];simp only[tU,mo,lM,lr,kK,j4,jH,jm,iM,iL,iK,iS,Tryz.f21,bp,aS,ϻ];go_wp2_with (go_at_call 24;refine aG.e.mono ?_;rintro e w1 ⟨lN,n16,c16,rfl,hp⟩;have HP:=ψ hp;clear hp)
 exact⟨lN,n16,c16,⟨rfl,rfl,(by repeat first|exact jF|refine eY rfl ?_)⟩,HP.e⟩
def an4{W:Ψ->Prop}(hs:Sl [(0,.bool χ),(1,π (φ ⟨gE,0,ν⟩)),(2,ζ (φ ⟨gc,0,ν⟩) 3 3),(3,ζ (φ ⟨g3,0,ν⟩) 3 3)] a)(hc:Bk w gE 26 #[ξ κ 1,ζ (φ ⟨gp,0,ν⟩) 3 3,ζ (φ ⟨gb,0,ν⟩) 2 2,ζ (φ ⟨gt,0,ν⟩) 1 1])
 (aG:ύ prog 28 #[η #[ξ κ 1,ζ (φ ⟨gp,0,ν⟩) 3 3,ζ (φ ⟨gb,0,ν⟩) 2 2,ζ (φ ⟨gt,0,ν⟩) 1 1],ζ (φ ⟨gc,0,ν⟩) 3 3] w λe w'=>e=Ω (μ #[ξ κ 1,ξ κ 0])/\W w'):tH.wp prog (dK λa w=>Sl [(0,.bool χ),(1,π (φ ⟨gE,0,ν⟩)),(2,ζ (φ ⟨gc,0,ν⟩) 3 3),(3,ζ (φ ⟨g3,0,ν⟩) 3 3),(5,ξ κ 0),(20,ξ κ 1)] a/\W w) a w:=by
 obtain⟨x,rfl,hx⟩:=hs.lit;simp only[Al] at hx;have q0:=hc.cell 0;have q1:=hc.cell 1;have q2:=hc.cell 2;have q3:=hc.cell 3;have aG:=ψ aG;clear hc;unfold lit;simp only[hx];simp only[tH,pb,oo,nu,mo,lM,lr,kK,j4,jH,jm,iM,iL,iK,iS,Tryz.f21,bp,aS,ϻ];go_wp2_with (go_at_call 28;refine aG.e.mono ?_;rintro e w1 ⟨rfl,hp⟩;have HP:=ψ hp;clear hp)
 exact⟨⟨rfl,rfl,(by repeat first|exact jF|refine eY rfl ?_)⟩,HP.e⟩
def an5{W:Ψ->Prop}(hs:Sl [(0,.bool χ),(1,π (φ ⟨gE,0,ν⟩)),(2,ζ (φ ⟨gc,0,ν⟩) 3 3),(3,ζ (φ ⟨g3,0,ν⟩) 3 3),(5,ξ κ 0),(20,ξ κ 1)] a)(hc:Bk w gE 26 #[ξ κ 1,ζ (φ ⟨gp,0,ν⟩) 3 3,ζ (φ ⟨gb,0,ν⟩) 2 2,ζ (φ ⟨gt,0,ν⟩) 1 1])
 (aG:ύ prog 28 #[η #[ξ κ 1,ζ (φ ⟨gp,0,ν⟩) 3 3,ζ (φ ⟨gb,0,ν⟩) 2 2,ζ (φ ⟨gt,0,ν⟩) 1 1],ζ (φ ⟨g3,0,ν⟩) 3 3] w λe w'=>e=Ω (μ #[ξ κ 0,ξ κ 0])/\W w'):tI.wp prog (dK λa w=>Sl [(0,.bool χ),(1,π (φ ⟨gE,0,ν⟩)),(2,ζ (φ ⟨gc,0,ν⟩) 3 3),(3,ζ (φ ⟨g3,0,ν⟩) 3 3),(5,ξ κ 0),(7,ξ κ 0),(20,ξ κ 1),(21,ξ κ 0)] a/\W w) a w:=by
 obtain⟨x,rfl,hx⟩:=hs.lit;simp only[Al] at hx;have q0:=hc.cell 0;have q1:=hc.cell 1;have q2:=hc.cell 2;have q3:=hc.cell 3;have aG:=ψ aG;clear hc;unfold lit;simp only[hx];simp only[tI,pW,pb,oo,nu,mo,lM,lr,kK,j4,jH,jm,iM,iL,iK,iS,Tryz.f21,bp,aS,ϻ];go_wp2_with (go_at_call 28;refine aG.e.mono ?_;rintro e w1 ⟨rfl,hp⟩;have HP:=ψ hp;clear hp)
 exact⟨⟨rfl,rfl,(by repeat first|exact jF|refine eY rfl ?_)⟩,HP.e⟩
def an6{W:Option Addr->Nat->Nat->Ψ->Prop}(hs:Sl [(0,.bool χ),(1,π (φ ⟨gE,0,ν⟩)),(2,ζ (φ ⟨gc,0,ν⟩) 3 3),(3,ζ (φ ⟨g3,0,ν⟩) 3 3),(5,ξ κ 0),(7,ξ κ 0),(20,ξ κ 1),(21,ξ κ 0)] a)(hc:Bk w gE 26 #[ξ κ 1,ζ (φ ⟨gp,0,ν⟩) 3 3,ζ (φ ⟨gb,0,ν⟩) 2 2,ζ (φ ⟨gt,0,ν⟩) 1 1])
 (aG:ύ prog 31 #[η #[ξ κ 1,ζ (φ ⟨gp,0,ν⟩) 3 3,ζ (φ ⟨gb,0,ν⟩) 2 2,ζ (φ ⟨gt,0,ν⟩) 1 1],ζ (φ ⟨gc,0,ν⟩) 3 3] w λe w'=>∃dF n22 c22,e=Ω (μ #[.slice dF n22 c22,ξ κ 0])/\W dF n22 c22 w'):tJ.wp prog (dK λa w=>∃dF n22 c22,Sl [(0,.bool χ),(1,π (φ ⟨gE,0,ν⟩)),(2,ζ (φ ⟨gc,0,ν⟩) 3 3),(3,ζ (φ ⟨g3,0,ν⟩) 3 3),(5,ξ κ 0),(7,ξ κ 0),(9,ξ κ 0),(20,ξ κ 1),(21,ξ κ 0),(22,.slice dF n22 c22)] a/\W dF n22 c22 w) a w:=by
 obtain⟨x,rfl,hx⟩:=hs.lit;simp only[Al] at hx;have q0:=hc.cell 0;have q1:=hc.cell 1;have q2:=hc.cell 2;have q3:=hc.cell 3;have aG:=ψ aG;clear hc;unfold lit;simp only[hx];simp only[tJ,qV,pW,pb,oo,nu,mo,lM,lr,kK,j4,jH,jm,iM,iL,iK,iS,Tryz.f21,bp,aS,ϻ];go_wp2_with (go_at_call 31;refine aG.e.mono ?_;rintro e w1 ⟨dF,n22,c22,rfl,hp⟩;have HP:=ψ hp;clear hp)
 exact⟨dF,n22,c22,⟨rfl,rfl,(by repeat first|exact jF|refine eY rfl ?_)⟩,HP.e⟩
def an7{W:Ψ->Prop}(hs:Sl [(0,.bool χ),(1,π (φ ⟨gE,0,ν⟩)),(2,ζ (φ ⟨gc,0,ν⟩) 3 3),(3,ζ (φ ⟨g3,0,ν⟩) 3 3),(5,ξ κ 0),(7,ξ κ 0),(9,ξ κ 0),(20,ξ κ 1),(21,ξ κ 0),(22,.slice dF n22 c22)] a)(hc:Bk w gE 26 #[ξ κ 1,ζ (φ ⟨gp,0,ν⟩) 3 3,ζ (φ ⟨gb,0,ν⟩) 2 2,ζ (φ ⟨gt,0,ν⟩) 1 1])
 (aG:ύ prog 31 #[η #[ξ κ 1,ζ (φ ⟨gp,0,ν⟩) 3 3,ζ (φ ⟨gb,0,ν⟩) 2 2,ζ (φ ⟨gt,0,ν⟩) 1 1],ζ (φ ⟨g3,0,ν⟩) 3 3] w λe w'=>e=Ω (μ #[ζ ν 0 0,ξ κ 8])/\W w'):tK.wp prog (dK λa w=>Sl [(0,.bool χ),(1,π (φ ⟨gE,0,ν⟩)),(2,ζ (φ ⟨gc,0,ν⟩) 3 3),(3,ζ (φ ⟨g3,0,ν⟩) 3 3),(5,ξ κ 0),(7,ξ κ 0),(9,ξ κ 0),(20,ξ κ 1),(21,ξ κ 0),(22,.slice dF n22 c22),(23,ζ ν 0 0),(24,ξ κ 8)] a/\W w) a w:=by
 obtain⟨x,rfl,hx⟩:=hs.lit;simp only[Al] at hx;have q0:=hc.cell 0;have q1:=hc.cell 1;have q2:=hc.cell 2;have q3:=hc.cell 3;have aG:=ψ aG;clear hc;unfold lit;simp only[hx];simp only[tK,su,qV,pW,pb,oo,nu,mo,lM,lr,kK,j4,jH,jm,iM,iL,iK,iS,Tryz.f21,bp,aS,ϻ];go_wp2_with (go_at_call 31;refine aG.e.mono ?_;rintro e w1 ⟨rfl,hp⟩;have HP:=ψ hp;clear hp)
 exact⟨⟨rfl,rfl,(by repeat first|exact jF|refine eY rfl ?_)⟩,HP.e⟩
def an8{W:Option Addr->Nat->Nat->Ψ->Prop}(hs:Sl [(0,.bool χ),(1,π (φ ⟨gE,0,ν⟩)),(2,ζ (φ ⟨gc,0,ν⟩) 3 3),(3,ζ (φ ⟨g3,0,ν⟩) 3 3),(5,ξ κ 0),(7,ξ κ 0),(9,ξ κ 0),(20,ξ κ 1),(21,ξ κ 0),(22,.slice dF n22 c22),(23,ζ ν 0 0),(24,ξ κ 8)] a)(hc:Bk w gE 26 #[ξ κ 1,ζ (φ ⟨gp,0,ν⟩) 3 3,ζ (φ ⟨gb,0,ν⟩) 2 2,ζ (φ ⟨gt,0,ν⟩) 1 1])
 (aG:ύ prog 33 #[η #[ξ κ 1,ζ (φ ⟨gp,0,ν⟩) 3 3,ζ (φ ⟨gb,0,ν⟩) 2 2,ζ (φ ⟨gt,0,ν⟩) 1 1]] w λe w'=>∃cu n25 cw,e=Ω (μ #[.slice cu n25 cw,ξ κ 2,.bool θ,ξ κ 0])/\W cu n25 cw w'):tL.wp prog (dK λa w=>∃cu n25 cw,Sl [(0,.bool χ),(1,π (φ ⟨gE,0,ν⟩)),(2,ζ (φ ⟨gc,0,ν⟩) 3 3),(3,ζ (φ ⟨g3,0,ν⟩) 3 3),(5,ξ κ 0),(7,ξ κ 0),(9,ξ κ 0),(11,ξ κ 0),(20,ξ κ 1),(21,ξ κ 0),(22,.slice dF n22 c22),(23,ζ ν 0 0),(24,ξ κ 8),(25,.slice cu n25 cw),(26,ξ κ 2),(27,.bool θ)] a/\W cu n25 cw w) a w:=by
 obtain⟨x,rfl,hx⟩:=hs.lit;simp only[Al] at hx;have q0:=hc.cell 0;have q1:=hc.cell 1;have q2:=hc.cell 2;have q3:=hc.cell 3;have aG:=ψ aG;clear hc;unfold lit;simp only[hx];simp only[tL,uA,su,qV,pW,pb,oo,nu,mo,lM,lr,kK,j4,jH,jm,iM,iL,iK,iS,Tryz.f21,bp,aS,ϻ];go_wp2_with (go_at_call 33;refine aG.e.mono ?_;rintro e w1 ⟨cu,n25,cw,rfl,hp⟩;have HP:=ψ hp;clear hp)
 exact⟨cu,n25,cw,⟨rfl,rfl,(by repeat first|exact jF|refine eY rfl ?_)⟩,HP.e⟩
def an9{W:Option Addr->Nat->Nat->Ψ->Prop}(hs:Sl [(0,.bool χ),(1,π (φ ⟨gE,0,ν⟩)),(2,ζ (φ ⟨gc,0,ν⟩) 3 3),(3,ζ (φ ⟨g3,0,ν⟩) 3 3),(5,ξ κ 0),(7,ξ κ 0),(9,ξ κ 0),(11,ξ κ 0),(20,ξ κ 1),(21,ξ κ 0),(22,.slice dF n22 c22),(23,ζ ν 0 0),(24,ξ κ 8),(25,.slice cu n25 cw),(26,ξ κ 2),(27,.bool θ)] a)(hc:Bk w gE 26 #[ξ κ 1,ζ (φ ⟨gp,0,ν⟩) 3 3,ζ (φ ⟨gb,0,ν⟩) 2 2,ζ (φ ⟨gt,0,ν⟩) 1 1])
 (aG:ύ prog 36 #[η #[ξ κ 1,ζ (φ ⟨gp,0,ν⟩) 3 3,ζ (φ ⟨gb,0,ν⟩) 2 2,ζ (φ ⟨gt,0,ν⟩) 1 1]] w λe w'=>∃eG n28 eI,e=Ω (μ #[.slice eG n28 eI,ξ κ 14,.bool θ,ξ κ 0])/\W eG n28 eI w'):tM.wp prog (dK λa w=>∃eG n28 eI,Sl [(0,.bool χ),(1,π (φ ⟨gE,0,ν⟩)),(2,ζ (φ ⟨gc,0,ν⟩) 3 3),(3,ζ (φ ⟨g3,0,ν⟩) 3 3),(5,ξ κ 0),(7,ξ κ 0),(9,ξ κ 0),(11,ξ κ 0),(13,ξ κ 0),(20,ξ κ 1),(21,ξ κ 0),(22,.slice dF n22 c22),(23,ζ ν 0 0),(24,ξ κ 8),(25,.slice cu n25 cw),(26,ξ κ 2),(27,.bool θ),(28,.slice eG n28 eI),(29,ξ κ 14),(30,.bool θ)] a/\W eG n28 eI w) a w:=by
 obtain⟨x,rfl,hx⟩:=hs.lit;simp only[Al] at hx;have q0:=hc.cell 0;have q1:=hc.cell 1;have q2:=hc.cell 2;have q3:=hc.cell 3;have aG:=ψ aG;clear hc;unfold lit;simp only[hx];simp only[tM,vZ,uA,su,qV,pW,pb,oo,nu,mo,lM,lr,kK,j4,jH,jm,iM,iL,iK,iS,Tryz.f21,bp,aS,ϻ];go_wp2_with (go_at_call 36;refine aG.e.mono ?_;rintro e w1 ⟨eG,n28,eI,rfl,hp⟩;have HP:=ψ hp;clear hp)
 exact⟨eG,n28,eI,⟨rfl,rfl,(by repeat first|exact jF|refine eY rfl ?_)⟩,HP.e⟩
def aoa{eG:Option Addr}{jI:Option Addr}{W:Ψ->Prop}(hs:Sl [(0,.bool χ),(1,π (φ ⟨gE,0,ν⟩)),(2,ζ (φ ⟨gc,0,ν⟩) 3 3),(3,ζ (φ ⟨g3,0,ν⟩) 3 3),(5,ξ κ 0),(7,ξ κ 0),(9,ξ κ 0),(11,ξ κ 0),(13,ξ κ 0),(15,ξ κ 0),(20,ξ κ 1),(21,ξ κ 0),(22,.slice dF n22 c22),(23,ζ ν 0 0),(24,ξ κ 8),(25,.slice cu n25 cw),(26,ξ κ 2),(27,.bool θ),(28,.slice eG n28 eI),(29,ξ κ 14),(30,.bool θ),(31,.slice jI n31 jN)] a)(hc:Bk w gE 26 #[ξ κ 1,ζ (φ ⟨gp,0,ν⟩) 3 3,ζ (φ ⟨gb,0,ν⟩) 2 2,ζ (φ ⟨gt,0,ν⟩) 1 1])
 (aG:ύ prog 61 #[η #[ξ κ 1,ζ (φ ⟨gp,0,ν⟩) 3 3,ζ (φ ⟨gb,0,ν⟩) 2 2,ζ (φ ⟨gt,0,ν⟩) 1 1]] w λe w'=>e=Ω (μ #[ξ κ 0,ξ κ 1,ξ κ 0])/\W w'):yB.wp prog (dK λa w=>Sl [(0,.bool χ),(1,π (φ ⟨gE,0,ν⟩)),(2,ζ (φ ⟨gc,0,ν⟩) 3 3),(3,ζ (φ ⟨g3,0,ν⟩) 3 3),(5,ξ κ 0),(7,ξ κ 0),(9,ξ κ 0),(11,ξ κ 0),(13,ξ κ 0),(15,ξ κ 0),(17,ξ κ 0),(20,ξ κ 1),(21,ξ κ 0),(22,.slice dF n22 c22),(23,ζ ν 0 0),(24,ξ κ 8),(25,.slice cu n25 cw),(26,ξ κ 2),(27,.bool θ),(28,.slice eG n28 eI),(29,ξ κ 14),(30,.bool θ),(31,.slice jI n31 jN),(32,ξ κ 0),(33,ξ κ 1)] a/\W w) a w:=by
 obtain⟨x,rfl,hx⟩:=hs.lit;simp only[Al] at hx;have q0:=hc.cell 0;have q1:=hc.cell 1;have q2:=hc.cell 2;have q3:=hc.cell 3;have aG:=ψ aG;clear hc;unfold lit;simp only[hx];simp only[yB,yI,yH,vZ,uA,su,qV,pW,pb,oo,nu,mo,lM,lr,kK,j4,jH,jm,iM,iL,iK,iS,Tryz.f21,bp,aS,ϻ];go_wp2_with (go_at_call 61;refine aG.e.mono ?_;rintro e w1 ⟨rfl,hp⟩;have HP:=ψ hp;clear hp)
 exact⟨⟨rfl,rfl,(by repeat first|exact jF|refine eY rfl ?_)⟩,HP.e⟩
end
end Go.Jn
namespace Go.Jn
open Go
section
variable {P:Program}{md:Region.Mode}{ops:Array Oper}{Q:Exit->Act->Ψ->Prop}
def gL(n i:Nat):Array Bool:=Array.ofFn λk:Fin n=>decide (k.val<i)
def PF(h:k<n):(gL n i)[k]?=φ (decide (k<i)):=by
 unfold gL;rw[Array.getElem?_ofFn,dif_pos h]
def FN(d:Bool)(h:k<n):(gL n i).getD k d=decide (k<i):=by
 rw[î,PF h];rfl
def akC(n:Nat):ϭ n χ=gL n 0:=by
 apply Array.ext
 ·simp[gL]
 ·intro k h1 h2
  simp[gL]
def PG(n i:Nat):(gL n i).size=n:=by simp[gL]
def AG(h:i<n):(gL n i).setIfInBounds i θ=gL n (i+1):=by
 apply Array.ext_getElem?;intro k;rw[Ù,PG]
 by_cases hk:k<n
 ·rw[PF hk,PF hk]
  split
  ·subst_vars;simp[hk]
  ·rename_i aw
   simp only[Option.some.injEq,decide_eq_decide];omega
 ·have h1:(gL n i)[k]?=ν:=by rw[Akv,PG];omega
  have h2:(gL n (i+1))[k]?=ν:=by rw[Akv,PG];omega
  rw[h1,h2,if_neg (by omega)]
def Xo(hj:j=i+1)(h:j<n):((gL n i).setIfInBounds i θ).setIfInBounds j θ=gL n (j+1):=by
 subst hj;rw[AG (by omega),AG h]
def akB(hj:j=i+1)(h:j<n):((gL n i).setIfInBounds j θ).setIfInBounds i θ=gL n (j+1):=by
 rw[Array.setIfInBounds_comm _ _ (by omega)]
 exact Xo hj h
def MQ(o:Oper)(j:Nat):Bool:=o.after.toList.all λe=>decide (e.on<j)
def ND(md:Region.Mode)(o:Oper)(k:Nat):Bool:=o.after.toList.any λe=>Region.binds md e && decide (k<=e.on)
def seqB(md:Region.Mode)(n s e:Nat):List Oper->Nat->Bool
 | [],_=>θ
 |o::l,j=>(decide (e<=j) ||MQ o j) && (decide (j<=s) ||ND md o (min (j - 1) (e - 1))) && (o.after.toList.all λx=>decide (x.on<n)) && seqB md n s e l (j+1)
def Yz{n s e:Nat}:∀(l:List Oper) (j:Nat),seqB md n s e l j=θ->∀(k:Nat) (o:Oper),l[k]?=φ o->(j+k<e->MQ o (j+k)=θ)/\(s<j+k->ND md o (min (j+k - 1) (e - 1))=θ)/\∀x∈o.after.toList,x.on<n
 | [],_,_,k,o,h=>by simp at h
 |p::l,j,hs,k,o,h=>by
  simp only[seqB,Bool.and_eq_true,Bool.or_eq_true,decide_eq_true_eq,ġ] at hs;obtain⟨⟨⟨h1,h2⟩,h3⟩,h4⟩:=hs;cases k with
  |zero=>
   simp only[List.getElem?_cons_zero,Option.some.injEq] at h
   subst h;refine⟨λhj=>h1.resolve_left (by omega),λhj=>h2.resolve_left (by omega),h3⟩
  |succ k=>
   simp only[List.getElem?_cons_succ] at h
   have:=Yz l (j+1) h4 k o h;rw[show j+1+k=j+(k+1) by omega] at this
   exact this
def filter_one{p:Nat->Bool}(hi:i<n)(h1:p i=θ)(h2:∀j,j<n->j≠i->p j=χ):(ε n).filter p=[i]:=by
 have e:(ε n).filter p=(ε n).filter (λj=>j==i):=by
  apply List.filter_congr;intro j hj;have hj:=List.mem_range.1 hj;by_cases e:j=i
  ·subst e;simp[h1]
  ·rw[h2 j hj e];simp[e]
 rw[e];have hn:(ε n).Nodup:=List.nodup_range;have hm:i∈ε n:=by simpa using hi
 have:∀l:List Nat,l.Nodup->i∈l->l.filter (λj=>j==i)=[i]:=by
  intro l;induction l with
  |nil=>intro _ h;cases h
  |cons a l ih=>
   intro oN ma;rw[List.nodup_cons] at oN;by_cases e:a=i
   ·subst e
    rw[List.filter_cons_of_pos (by simp)]
    have:l.filter (λj=>j==a)=[]:=by
     rw[List.filter_eq_nil_iff];intro b hb;simp only[beq_iff_eq];rintro rfl;exact oN.1 hb
    rw[this]
   ·rw[List.filter_cons_of_neg (by simpa using e)]
    exact ih oN.2 ((Ϧ.1 ma).resolve_left (Ne.symm e))
 exact this _ hn hm
def aoT{s:Nat}(h:seqB md ops.size s e ops.toList 0=θ)(hs:s<=i)(he:i<e)(hi:i<ops.size):Ç md ops (gL ops.size i)=[i]:=by
 have mN:∀k (hk:k<ops.size),_:=λk hk=>Yz ops.toList 0 h k ops[k] (by simp[hk])
 simp only[Nat.zero_add] at mN;refine filter_one hi ?_ λj hj aw=>?_
 ·rw[FN _ hi,õ hi]
  simp only[Nat.lt_irrefl,decide_false,Bool.not_false,é,ϻ,Bool.true_and];rw[<-Array.all_toList,ġ];intro x hx;obtain⟨h1,_,h3⟩:=mN i hi;have h1:=h1 he;unfold MQ at h1;rw[ġ] at h1;have O6:x.on<i:=by simpa using h1 x hx
  rw[FN _ (h3 x hx)];simp[O6]
 ·by_cases ao:j<i
  ·rw[FN _ hj];simp[ao]
  ·have vk:i<j:=by omega
   rw[FN _ hj,õ hj]
   simp only[ao,decide_false,Bool.not_false,é,ϻ,Bool.true_and];rw[<-Array.all_toList];obtain⟨_,h2,h3⟩:=mN j hj;have h2:=h2 (by omega)
   unfold ND at h2;rw[List.any_eq_true] at h2;obtain⟨x,hx,Cw⟩:=h2;simp only[Bool.and_eq_true,decide_eq_true_eq] at Cw;rw[List.all_eq_false];refine⟨x,hx,?_⟩
   rw[FN _ (h3 x hx),Cw.1];have:¬x.on<i:=by have:=Cw.2;omega
   simp[this]
def XT{K K':Act->Ψ->Prop}(h:o.wp P a w K' (Exit.then K Q)):o.wp P a w K' Q:=by
 unfold Oper.wp at *;generalize (execOp a.eval o).run P w=r at *;cases r with
 |ok n w'=>
  cases n<;>simp only[Oper.upon] at h |- <;>
   first
    |exact h
    |exact Calls.mono h (λe bz he=>by cases e<;>exact he)
 |halt x w'=>cases x<;>simp only[Oper.upon] at h |- <;>exact h
def ZG(hi:ops[i]?=φ o){K:Act->Ψ->Prop}{l:List Oper}{R:Exit->Act->Ψ->Prop}(hR:∀a w,û P ops R l a w->K a w)(hp:∀ {o:Oper} {K':Act->Ψ->Prop} {a:Act} {w:Ψ},o.wp P a w K' R->o.wp P a w K' Q)(hl:LetsOut R->LetsOut Q)
 (h:û P ops R (o::l) a w):wpOp P ops Q i K a w:=by
 unfold wpOp;simp only[hi];unfold û at h;split
 ·rename_i hw
  rw[if_pos hw] at h;exact h.imp (λh=>Oper.wp_mono hR (hp h)) (λh=>⟨h.1,hl h.2⟩)
 ·rename_i hw
  rw[if_neg hw] at h;exact hR _ _ h
def wJ{fuel s e N:Nat}(hN:ops.size=N)(h:seqB md N s e ops.toList 0=θ)(he:e<=N):∀(n i:Nat) {a:Act} {w:Ψ},s<=i->i+n=e->
 û P ops (Exit.then (ä P md ops Q fuel (gL N e)) Q) ((ops.toList.drop i).take n) a w->ä P md ops Q (fuel+n) (gL N i) a w
 |0,i,a,w,_,hie,h2=>by
  obtain rfl:i=e:=by omega
  have h2:Exit.then (ä P md ops Q fuel (gL N i)) Q .normal a w:=by simpa [û] using h2
  exact h2
 |n+1,i,a,w,hs,hie,h2=>by
  rw[show fuel+(n+1)=(fuel+n)+1 by omega]
  have hi:i<ops.size:=by omega
  subst hN;refine wpAny_all (aoT h hs (by omega) hi) (by simp) λj hj=>?_
  obtain rfl:j=i:=by simpa using hj
  have hl:(ops.toList.drop j).take (n+1)=ops[j]::(ops.toList.drop (j+1)).take n:=by
   rw[List.drop_eq_getElem_cons (by simpa using hi),ê]
   simp
  rw[hl] at h2;rw[AG hi];exact ZG (õ hi) (λa w h2=>wJ rfl h he n (j+1) (by omega) (by omega) h2) XT (λh=>h) h2
def aci{id N:Nat}(hm:P.follows .mixedOrders=θ)(hN:ops.size=N)(h:ä P .any ops Q N (gL N 0) a w.drew):(Code.region id ops θ).wp P Q a w:=by
 refine wp_region_any hm ?_
 rw[akC,hN];exact h
def Bv{l':Array Bool}(h:l=l')(hh:ä P md ops Q fuel l' a w):ä P md ops Q fuel l a w:=h▸hh
def L6{listed:Array Bool}(rs:List Nat)(hr:Ç md ops listed=rs)(aw:rs≠ [])(h:∀i∈rs,wpOp P ops Q i (ä P md ops Q fuel (listed.setIfInBounds i θ)) a w):ä P md ops Q (fuel+1) listed a w:=
 wpAny_all hr aw h
def JE{listed:Array Bool}(o:Oper)(hi:ops[i]?=φ o)(h:û P ops (Exit.then (ä P md ops Q fuel (listed.setIfInBounds i θ)) Q) [o] a w):wpOp P ops Q i (ä P md ops Q fuel (listed.setIfInBounds i θ)) a w:=
 ZG (l:=[]) (R:=Exit.then (ä P md ops Q fuel (listed.setIfInBounds i θ)) Q) hi (λ_ _ h=>h) XT (λh=>h) h
def Hb{is:List Nat}{K:Nat->Prop}(h1:K i)(h2:∀k∈is,K k):∀k∈i::is,K k:=by
 intro k hk;rcases Ϧ.1 hk with rfl|hk
 ·exact h1
 ·exact h2 k hk
def Ml{K:Nat->Prop}:∀k∈([]:List Nat),K k:=λ_ h=>absurd h Λ
def nj{rest:List Oper}{og:Oper}{b:Bool}(ig:o.guard=φ (g,b))(V2:ops.toList[g]?=φ og)(hd:og.dst=φ d)(ht:a.tmps[d]?=φ (.bool b))
 (h:∀K:Act->Ψ->Prop,(∀a w,û P ops Q rest a w->K a w)->o.wp P a w K Q):û P ops Q (o::rest) a w:=by
 refine wpList_step λK hK=>?_
 have hw:Region.wanted o (yielded ops a.tmps)=θ:=by
  unfold Region.wanted;rw[ig];rw[Array.getElem?_toList] at V2
  simp only[yielded,V2,Option.bind_some,hd,ht,beq_self_eq_true]
 rw[if_pos hw];exact h K hK
end
end Go.Jn
namespace Go.Jn
open Go Go.Proofs Go.Sim Go.Conc Go.Tw Go.RowKit
section
variable [Go.Tw.aK]
def za{sz:Nat}{R:α->List υ->Prop}{f:α->List υ}{xs:List α}(hb:Bk w g e cs)(hx:xs.length<=1000)(hf:∀x,(f x).length=sz)(hR:∀x∈xs,R x (f x))(hc:cs=(xs.flatMap f).toArray):
 Row w w.heap.size sz R (ζ (φ ⟨g,0,ν⟩) xs.length xs.length) xs:=by
 have sT:∀l:List α,(l.flatMap f).length=l.length * sz:=by
  intro l;induction l with
  |nil=>simp
  |cons a l ih=>simp only[List.flatMap_cons,List.length_append,ih,hf,List.length_cons,Nat.succ_mul];omega
 refine mZ (f:=f) ?_ hf hR (e:=e) (base:=g)
 refine⟨sT xs,.inr ⟨g,xs.length,cs,rfl,ϊ _,hb,ϊ _,by unfold ϑ;omega,by rw[hc,List.size_toArray,sT],?_⟩⟩
 rw[hc];simp only[List.toList_toArray];rw[List.take_of_length_le (by rw[sT];omega)]
def sJ(xs:List Int)(hx:xs.length<=1000)(h:Bk w g 3 cs)(hc:cs=(xs.flatMap λx=> [ξ κ x]).toArray):Row w w.heap.size 1 bI (ζ (φ ⟨g,0,ν⟩) xs.length xs.length) xs:=
 za h hx (λ_=>rfl) (λ_ _=>rfl) hc
def Mm(xs:List Span)(hx:xs.length<=1000)(h:Bk w g 37 cs)(hc:cs=(xs.flatMap Span.vs).toArray):Row w w.heap.size 2 Span.R (ζ (φ ⟨g,0,ν⟩) xs.length xs.length) xs:=
 za h hx (λ_=>rfl) (λ_ _=>rfl) hc
def SP(xs:List Cut)(hx:xs.length<=1000)(h:Bk w g 56 cs)(hc:cs=(xs.flatMap Cut.vs).toArray):Row w w.heap.size 2 Cut.R (ζ (φ ⟨g,0,ν⟩) xs.length xs.length) xs:=
 za h hx (λ_=>rfl) (λ_ _=>rfl) hc
def fP{sz:Nat}{R:α->List υ->Prop}{xs:List α}(h:Row w w.heap.size sz R v xs)(hb:Γ w.heap.size w w'):Row w' w'.heap.size sz R v xs:=
 (h.still (Δ.aJ hb (ϊ _)) λ_ _ h=>h).more hb.size
def rz6{W:Ψ->Prop}(hs:Sl [(0,.bool χ),(1,π (φ ⟨gE,0,ν⟩)),(2,ζ (φ ⟨gc,0,ν⟩) 3 3),(3,ζ (φ ⟨g3,0,ν⟩) 3 3),(4,.slice A4 n4 c4),(5,ξ κ 0),(6,ξ κ 4),(7,ξ κ 0),(8,ξ κ 8),(9,ξ κ 0)] a)(hc:Bk w gE 26 #[ξ κ 1,ζ (φ ⟨gp,0,ν⟩) 3 3,ζ (φ ⟨gb,0,ν⟩) 2 2,ζ (φ ⟨gt,0,ν⟩) 1 1])
 (aG:ύ prog 43 #[η #[ξ κ 1,ζ (φ ⟨gp,0,ν⟩) 3 3,ζ (φ ⟨gb,0,ν⟩) 2 2,ζ (φ ⟨gt,0,ν⟩) 1 1],ζ (φ ⟨w.heap.size,0,ν⟩) 3 3,ζ (φ ⟨gc,0,ν⟩) 3 3] (w.alloc (Ξ #[ξ κ 4,ξ κ 3,ξ κ 3] 3)) λe w'=>e=Ω (μ #[.bool θ,ξ κ 0])/\W w'):tR.wp prog (dK λa w=>Sl [(0,.bool χ),(1,π (φ ⟨gE,0,ν⟩)),(2,ζ (φ ⟨gc,0,ν⟩) 3 3),(3,ζ (φ ⟨g3,0,ν⟩) 3 3),(4,.slice A4 n4 c4),(5,ξ κ 0),(6,ξ κ 4),(7,ξ κ 0),(8,ξ κ 8),(9,ξ κ 0),(10,.bool θ),(11,ξ κ 0)] a/\W w) a w:=by
 obtain⟨x,rfl,hx⟩:=hs.lit;simp only[Al] at hx;have q0:=hc.cell 0;have q1:=hc.cell 1;have q2:=hc.cell 2;have q3:=hc.cell 3;have aG:=ψ aG;clear hc;unfold lit;simp only[hx];simp only[tR,kK,j4,jH,jm,iM,iL,iK,iS,Tryz.f21,bp,aS,ϻ];go_wp2_with (go_at_call 43;refine aG.e.mono ?_;rintro e w1 ⟨rfl,hp⟩;have HP:=ψ hp;clear hp)
 exact⟨⟨rfl,rfl,(by repeat first|exact jF|refine eY rfl ?_)⟩,HP.e⟩
def rz7{W:Ψ->Prop}(hs:Sl [(0,.bool χ),(1,π (φ ⟨gE,0,ν⟩)),(2,ζ (φ ⟨gc,0,ν⟩) 3 3),(3,ζ (φ ⟨g3,0,ν⟩) 3 3),(4,.slice A4 n4 c4),(5,ξ κ 0),(6,ξ κ 4),(7,ξ κ 0),(8,ξ κ 8),(9,ξ κ 0),(10,.bool θ),(11,ξ κ 0)] a)(hc:Bk w gE 26 #[ξ κ 1,ζ (φ ⟨gp,0,ν⟩) 3 3,ζ (φ ⟨gb,0,ν⟩) 2 2,ζ (φ ⟨gt,0,ν⟩) 1 1])
 (aG:ύ prog 43 #[η #[ξ κ 1,ζ (φ ⟨gp,0,ν⟩) 3 3,ζ (φ ⟨gb,0,ν⟩) 2 2,ζ (φ ⟨gt,0,ν⟩) 1 1],ζ (φ ⟨w.heap.size,0,ν⟩) 3 3,ζ (φ ⟨g3,0,ν⟩) 3 3] (w.alloc (Ξ #[ξ κ 4,ξ κ 3,ξ κ 3] 3)) λe w'=>e=Ω (μ #[.bool χ,ξ κ 0])/\W w'):tS.wp prog (dK λa w=>Sl [(0,.bool χ),(1,π (φ ⟨gE,0,ν⟩)),(2,ζ (φ ⟨gc,0,ν⟩) 3 3),(3,ζ (φ ⟨g3,0,ν⟩) 3 3),(4,.slice A4 n4 c4),(5,ξ κ 0),(6,ξ κ 4),(7,ξ κ 0),(8,ξ κ 8),(9,ξ κ 0),(10,.bool θ),(11,ξ κ 0),(12,.bool χ),(13,ξ κ 0)] a/\W w) a w:=by
 obtain⟨x,rfl,hx⟩:=hs.lit;simp only[Al] at hx;have q0:=hc.cell 0;have q1:=hc.cell 1;have q2:=hc.cell 2;have q3:=hc.cell 3;have aG:=ψ aG;clear hc;unfold lit;simp only[hx];simp only[tS,lr,kK,j4,jH,jm,iM,iL,iK,iS,Tryz.f21,bp,aS,ϻ];go_wp2_with (go_at_call 43;refine aG.e.mono ?_;rintro e w1 ⟨rfl,hp⟩;have HP:=ψ hp;clear hp)
 exact⟨⟨rfl,rfl,(by repeat first|exact jF|refine eY rfl ?_)⟩,HP.e⟩
def an2{lN:Option Addr}{c16:Nat}{W:Ψ->Prop}(hs:Sl [(0,.bool χ),(1,π (φ ⟨gE,0,ν⟩)),(2,ζ (φ ⟨gc,0,ν⟩) 3 3),(3,ζ (φ ⟨g3,0,ν⟩) 3 3),(4,.slice A4 n4 c4),(5,ξ κ 0),(6,ξ κ 4),(7,ξ κ 0),(8,ξ κ 8),(9,ξ κ 0),(10,.bool θ),(11,ξ κ 0),(12,.bool χ),(13,ξ κ 0),(14,ξ κ 2),(15,ξ κ 0),(16,.slice lN n16 c16),(17,ξ κ 0)] a)(hc:Bk w gE 26 #[ξ κ 1,ζ (φ ⟨gp,0,ν⟩) 3 3,ζ (φ ⟨gb,0,ν⟩) 2 2,ζ (φ ⟨gt,0,ν⟩) 1 1])
 (aG:ύ prog 26 #[η #[ξ κ 1,ζ (φ ⟨gp,0,ν⟩) 3 3,ζ (φ ⟨gb,0,ν⟩) 2 2,ζ (φ ⟨gt,0,ν⟩) 1 1]] w λe w'=>e=Ω (μ #[η #[ξ κ 10,ξ κ 10],ξ κ 0])/\W w'):
 tF.wp prog (dK λa w=>∃w1,W w1/\(∃g8,g8=w1.heap.size/\Sl [(0,.bool χ),(1,π (φ ⟨gE,0,ν⟩)),(2,ζ (φ ⟨gc,0,ν⟩) 3 3),(3,ζ (φ ⟨g3,0,ν⟩) 3 3),(4,.slice A4 n4 c4),(5,ξ κ 0),(6,ξ κ 4),(7,ξ κ 0),(8,ξ κ 8),(9,ξ κ 0),(10,.bool θ),(11,ξ κ 0),(12,.bool χ),(13,ξ κ 0),(14,ξ κ 2),(15,ξ κ 0),(16,.slice lN n16 c16),(17,ξ κ 0),(18,π (φ ⟨g8,0,ν⟩)),(19,ξ κ 0)] a)/\w=w1.alloc (Ξ #[ξ κ 10,ξ κ 10] 37)) a w:=by
 obtain⟨x,rfl,hx⟩:=hs.lit;simp only[Al] at hx;have q0:=hc.cell 0;have q1:=hc.cell 1;have q2:=hc.cell 2;have q3:=hc.cell 3;have aG:=ψ aG;clear hc;unfold lit;simp only[hx];simp only[tF,nu,mo,lM,lr,kK,j4,jH,jm,iM,iL,iK,iS,Tryz.f21,bp,aS,ϻ];go_wp2_with (go_at_call 26;refine aG.e.mono ?_;rintro e w1 ⟨rfl,hp⟩;have HP:=ψ hp;clear hp)
 exact⟨_,HP.e,⟨_,rfl,⟨rfl,rfl,(by repeat first|exact jF|refine eY rfl ?_)⟩⟩,rfl⟩
def S4(h:Bk w g t cs):Bk w.drew g t cs:=h
def an3{gp gb gt g8:Nat}{lN:Option Addr}{c16:Nat}(hs:Sl [(0,.bool χ),(1,π (φ ⟨gE,0,ν⟩)),(2,ζ (φ ⟨gc,0,ν⟩) 3 3),(3,ζ (φ ⟨g3,0,ν⟩) 3 3),(4,.slice A4 n4 c4),(5,ξ κ 0),(6,ξ κ 4),(7,ξ κ 0),(8,ξ κ 8),(9,ξ κ 0),(10,.bool θ),(11,ξ κ 0),(12,.bool χ),(13,ξ κ 0),(14,ξ κ 2),(15,ξ κ 0),(16,.slice lN n16 c16),(17,ξ κ 0),(18,π (φ ⟨g8,0,ν⟩)),(19,ξ κ 0)] a)(h8:Bk w g8 37 #[ξ κ 10,ξ κ 10])
 (de:Row w w.heap.size 2 Span.R (.slice A4 n4 c4) [⟨0,2⟩,⟨4,7⟩])(Co:Row w w.heap.size 1 bI (.slice lN n16 c16) [4,5]):
 tG.wp prog (dK λa w'=>Sl [(0,.bool χ),(1,π (φ ⟨gE,0,ν⟩)),(2,ζ (φ ⟨gc,0,ν⟩) 3 3),(3,ζ (φ ⟨g3,0,ν⟩) 3 3)] a/\Γ w.heap.size w w') a w:=by
 obtain⟨x,rfl,hx⟩:=hs.lit;simp only[Al] at hx;have q0:=h8.cell 0;have q1:=h8.cell 1;have lt8:g8<w.heap.size:=h8.lt;have le8:g8<=w.heap.size:=Nat.le_of_lt lt8;have Rw:Hid (∀W,Γ w.heap.size w W->∀g,Bk W g 37 #[ξ κ 0,ξ κ 2,ξ κ 4,ξ κ 7]->ύ prog 75 #[.slice A4 n4 c4,ζ (φ ⟨g,0,ν⟩) 2 2] W λe w'=>e=Ω (.bool θ)/\Γ W.heap.size W w'):=ψ λW hb g hg=>by
  have:=T1 (fP de hb) (Mm [⟨0,2⟩,⟨4,7⟩] (by decide) hg rfl) (ϊ _)
  exact this
 have Ru:Hid (∀W,Γ w.heap.size w W->∀g,Bk W g 3 #[ξ κ 4,ξ κ 5]->ύ prog 30 #[.slice lN n16 c16,ζ (φ ⟨g,0,ν⟩) 2 2] W λe w'=>e=Ω (.bool θ)/\Γ W.heap.size W w'):=ψ λW hb g hg=>by
  have:=D4 (fP Co hb) (sJ [4,5] (by decide) hg rfl) (ϊ _)
  exact this
 clear h8 de Co;unfold lit;simp only[hx];simp only[tG,oo,nu,mo,lM,lr,kK,j4,jH,jm,iM,iL,iK,iS,Tryz.f21,bp,aS,ϻ];refine wp_seq (aci (N:=68) (by kernel_rfl) rfl ?_)
 refine wJ (N:=68) (s:=0) (e:=50) (fuel:=18) rfl (by kernel_rfl) (by omega) 50 0 (by omega) rfl ?_
 generalize hQ:Exit.then _ _=Q';simp only[ò];repeat(first| (refine nj rfl rfl rfl (by kernel_rfl) (λ_ _=>?_)) |go_step)
 subst hQ;show ä _ _ _ _ _ _ _ _;have hcut:∀x:Act,x=x:=λ_=>rfl
 refine L6 (fuel:=17) [50,51] (by kernel_rfl) (by simp) (Hb (JE _ rfl ?_) (Hb (JE _ rfl ?_) Ml))
 ·generalize hQ:Exit.then _ _=Q'
  repeat(first
   | (refine nj rfl rfl rfl (by kernel_rfl) (λ_ _=>?_))
   |go_step
   | (go_at_call 50;refine(CQ _ _).mono ?_;rintro e w1 ⟨rfl,rfl⟩)
   | (dsimp only)
   |go_upon
   |go_back
   |go_values)
  subst hQ;show ä _ _ _ _ _ _ _ _;refine L6 (fuel:=16) [51] (by kernel_rfl) (by simp) (Hb (JE _ rfl ?_) Ml)
  generalize hQ:Exit.then _ _=Q';repeat(first
   | (refine nj rfl rfl rfl (by kernel_rfl) (λ_ _=>?_))
   |go_step
   | (go_at_call 50;refine(CQ _ _).mono ?_;rintro e w1 ⟨rfl,rfl⟩)
   | (dsimp only)
   |go_upon
   |go_back
   |go_values)
  subst hQ;show ä _ _ _ _ _ _ _ _;refine Bv (l':=gL 68 52) (Xo (n:=68) (i:=50) (j:=51) rfl (by omega)) ?_
  refine wJ (N:=68) (s:=52) (e:=55) (fuel:=13) rfl (by kernel_rfl) (by omega) 3 52 (by omega) rfl ?_
  generalize hQ:Exit.then _ _=Q';simp only[ñ,ò,ê,ë];repeat(first
   | (refine nj rfl rfl rfl (by kernel_rfl) (λ_ _=>?_))
   |go_step
   | (dsimp only)
   |go_upon
   |go_back
   |go_values)
  subst hQ;show ä _ _ _ _ _ _ _ _;refine Aky (fuel:=12) (i:=55) (v:=.slice A4 n4 c4) rfl (by kernel_rfl) (by kernel_rfl) (by kernel_rfl) (λ_ _ _ h=>h) (Or.inl ⟨by kernel_rfl,λw=>by kernel_rfl⟩) ?_
  refine Bv (l':=gL 68 (55+1)) (AG (by omega)) ?_
  simp only[É,Ö,Ø,Ì];refine wJ (N:=68) (s:=56) (e:=63) (fuel:=5) rfl (by kernel_rfl) (by omega) 7 56 (by omega) rfl ?_
  generalize hQ:Exit.then _ _=Q';simp only[ñ,ò,ê,ë];repeat(first
   | (refine nj rfl rfl rfl (by kernel_rfl) (λ_ _=>?_))
   |go_step
   | (go_at_call 67;refine(QP _ _ _).mono ?_;rintro e w1 ⟨rfl,rfl⟩)
   | (go_at_call 75;refine(Rw.e _ (by repeat first|exact í _ _|refine dT ?_|refine Ak1 ?_ (by simp<;>omega) _) _ (by first|exact S4 (Bk.bZ (by simp) _ _) |exact Bk.bZ (by simp) _ _)).mono ?_;rintro e w5 ⟨rfl,dB⟩;have H5:Hid (Γ w.heap.size w w5):=ψ (Ak2 (B:=w.heap.size) (by repeat first|exact í _ _|refine dT ?_|refine Ak1 ?_ (by simp<;>omega) _) (dB.mono (by simp<;>omega)));clear dB)
   | (dsimp only)
   |go_upon
   |go_back
   |go_values)
  subst hQ;show ä _ _ _ _ _ _ _ _;refine Aky (fuel:=4) (i:=63) (v:=.slice lN n16 c16) rfl (by kernel_rfl) (by kernel_rfl) (by kernel_rfl) (λ_ _ _ h=>h) (Or.inl ⟨by kernel_rfl,λw=>by kernel_rfl⟩) ?_
  refine Bv (l':=gL 68 (63+1)) (AG (by omega)) ?_
  simp only[É,Ö,Ø,Ì];refine wJ (N:=68) (s:=64) (e:=68) (fuel:=0) rfl (by kernel_rfl) (by omega) 4 64 (by omega) rfl ?_
  generalize hQ:Exit.then _ _=Q';simp only[ñ,ò,ê,ë];repeat(first
   | (refine nj rfl rfl rfl (by kernel_rfl) (λ_ _=>?_))
   |go_step
   | (go_at_call 30;have rM:=Ru.e (w5.alloc (Obj.cells #[Ϝ ϙ 4,Ϝ ϙ 5] 3)) (H5.e.alloc H5.e.size _) w5.heap.size (Bk.new _ _ _);refine rM.mono ?_;rintro e w6 ⟨rfl,eC⟩;have H6:=ψ ((H5.e.alloc H5.e.size _).trans (eC.mono (by have:=H5.e.size;simp;omega)));clear eC)
   | (dsimp only)
   |go_upon
   |go_back
   |go_values)
  subst hQ;show ä _ _ _ _ _ _ _ _;refine wpAny_done (by kernel_rfl) ?_ _
  go_wp2;exact⟨⟨rfl,rfl,eY rfl (eY rfl (eY rfl (eY rfl (jF))))⟩,H6.e⟩
 ·generalize hQ:Exit.then _ _=Q'
  repeat(first
   | (refine nj rfl rfl rfl (by kernel_rfl) (λ_ _=>?_))
   |go_step
   | (go_at_call 50;refine(CQ _ _).mono ?_;rintro e w1 ⟨rfl,rfl⟩)
   | (dsimp only)
   |go_upon
   |go_back
   |go_values)
  subst hQ;show ä _ _ _ _ _ _ _ _;refine L6 (fuel:=16) [50] (by kernel_rfl) (by simp) (Hb (JE _ rfl ?_) Ml)
  generalize hQ:Exit.then _ _=Q';repeat(first
   | (refine nj rfl rfl rfl (by kernel_rfl) (λ_ _=>?_))
   |go_step
   | (go_at_call 50;refine(CQ _ _).mono ?_;rintro e w1 ⟨rfl,rfl⟩)
   | (dsimp only)
   |go_upon
   |go_back
   |go_values)
  subst hQ;show ä _ _ _ _ _ _ _ _;refine Bv (l':=gL 68 52) (akB (n:=68) (i:=50) (j:=51) rfl (by omega)) ?_
  refine wJ (N:=68) (s:=52) (e:=55) (fuel:=13) rfl (by kernel_rfl) (by omega) 3 52 (by omega) rfl ?_
  generalize hQ:Exit.then _ _=Q';simp only[ñ,ò,ê,ë];repeat(first
   | (refine nj rfl rfl rfl (by kernel_rfl) (λ_ _=>?_))
   |go_step
   | (dsimp only)
   |go_upon
   |go_back
   |go_values)
  subst hQ;show ä _ _ _ _ _ _ _ _;refine Aky (fuel:=12) (i:=55) (v:=.slice A4 n4 c4) rfl (by kernel_rfl) (by kernel_rfl) (by kernel_rfl) (λ_ _ _ h=>h) (Or.inl ⟨by kernel_rfl,λw=>by kernel_rfl⟩) ?_
  refine Bv (l':=gL 68 (55+1)) (AG (by omega)) ?_
  simp only[É,Ö,Ø,Ì];refine wJ (N:=68) (s:=56) (e:=63) (fuel:=5) rfl (by kernel_rfl) (by omega) 7 56 (by omega) rfl ?_
  generalize hQ:Exit.then _ _=Q';simp only[ñ,ò,ê,ë];repeat(first
   | (refine nj rfl rfl rfl (by kernel_rfl) (λ_ _=>?_))
   |go_step
   | (go_at_call 67;refine(QP _ _ _).mono ?_;rintro e w1 ⟨rfl,rfl⟩)
   | (go_at_call 75;refine(Rw.e _ (by repeat first|exact í _ _|refine dT ?_|refine Ak1 ?_ (by simp<;>omega) _) _ (by first|exact S4 (Bk.bZ (by simp) _ _) |exact Bk.bZ (by simp) _ _)).mono ?_;rintro e w5 ⟨rfl,dB⟩;have H5:Hid (Γ w.heap.size w w5):=ψ (Ak2 (B:=w.heap.size) (by repeat first|exact í _ _|refine dT ?_|refine Ak1 ?_ (by simp<;>omega) _) (dB.mono (by simp<;>omega)));clear dB)
   | (dsimp only)
   |go_upon
   |go_back
   |go_values)
  subst hQ;show ä _ _ _ _ _ _ _ _;refine Aky (fuel:=4) (i:=63) (v:=.slice lN n16 c16) rfl (by kernel_rfl) (by kernel_rfl) (by kernel_rfl) (λ_ _ _ h=>h) (Or.inl ⟨by kernel_rfl,λw=>by kernel_rfl⟩) ?_
  refine Bv (l':=gL 68 (63+1)) (AG (by omega)) ?_
  simp only[É,Ö,Ø,Ì];refine wJ (N:=68) (s:=64) (e:=68) (fuel:=0) rfl (by kernel_rfl) (by omega) 4 64 (by omega) rfl ?_
  generalize hQ:Exit.then _ _=Q';simp only[ñ,ò,ê,ë];repeat(first
   | (refine nj rfl rfl rfl (by kernel_rfl) (λ_ _=>?_))
   |go_step
   | (go_at_call 30;have rM:=Ru.e (w5.alloc (Obj.cells #[Ϝ ϙ 4,Ϝ ϙ 5] 3)) (H5.e.alloc H5.e.size _) w5.heap.size (Bk.new _ _ _);refine rM.mono ?_;rintro e w6 ⟨rfl,eC⟩;have H6:=ψ ((H5.e.alloc H5.e.size _).trans (eC.mono (by have:=H5.e.size;simp;omega)));clear eC)
   | (dsimp only)
   |go_upon
   |go_back
   |go_values)
  subst hQ;show ä _ _ _ _ _ _ _ _;refine wpAny_done (by kernel_rfl) ?_ _
  go_wp2;exact⟨⟨rfl,rfl,eY rfl (eY rfl (eY rfl (eY rfl (jF))))⟩,H6.e⟩
def FB(w0:Ψ)(a:Act)(w:Ψ):Prop:=∃gE gp gb gk gt gl gc g3,Sl [(0,.bool χ),(1,π (φ ⟨gE,0,ν⟩)),(2,ζ (φ ⟨gc,0,ν⟩) 3 3),(3,ζ (φ ⟨g3,0,ν⟩) 3 3)] a/\j6 w0 w gE gp gb gk gt gl gc g3
def FA.fb(h:FA w0 a w):FB w0 a w:=by
 obtain⟨hd,aN,h0,gE,gp,gb,gk,gt,gl,gc,g3,h1,h2,h3,hx⟩:=h;exact⟨gE,gp,gb,gk,gt,gl,gc,g3,⟨hd,aN,eY h0 (eY h1 (eY h2 (eY h3 jF)))⟩,hx⟩
def j6.lC(h:j6 w0 w gE gp gb gk gt gl gc g3):Row w w.heap.size 2 Cut.R (ζ (φ ⟨gc,0,ν⟩) 3 3) ea:=aej h.bc
def j6.MI(h:j6 w0 w gE gp gb gk gt gl gc g3):Row w w.heap.size 2 Cut.R (ζ (φ ⟨g3,0,ν⟩) 3 3) wV:=SP wV (by decide) h.b3 rfl
def aow(hf:FB w0 a w):fu prog [tO,tP,tQ,tR,tS,tT,tU,tF,tG] (dK (FB w0)) a w:=by
 obtain⟨gE,gp,gb,gk,gt,gl,gc,g3,hs,hx⟩:=hf;refine jZ (rz3 (W:=λA n c w'=>Row w' w'.heap.size 2 Span.R (.slice A n c) [⟨0,2⟩,⟨4,7⟩]/\Γ w.heap.size w w') hs hx.bE ?c3) ?_
 case c3=>
  refine(adH (ϊ _) (l8 hx.ex) zi (x:=uS) (k:=0) rfl).mono ?_
  rintro e w' ⟨v,rfl,ho,hb⟩;obtain⟨A,n,c,rfl⟩:=iI ho;rw[afb] at ho;exact⟨A,n,c,rfl,mZ ho (λ_=>rfl) (λ_ _=>rfl),hb⟩
 rintro a w1 ⟨A4,n4,c4,hs,de,hb⟩;replace hx:=hx.grown hb;clear hb;refine jZ (rz4 (W:=λw'=>Γ w1.heap.size w1 w') hs hx.bE ?c4) ?_
 case c4=>
  refine(Xn (ϊ _) (l8 hx.ex) zi (x:=uS) (k:=0) (bears:=0) rfl rfl).mono ?_
  rintro e w' ⟨rfl,hb⟩;exact⟨by rw[afj],hb⟩
 rintro a w2 ⟨hs,hb⟩;replace hx:=hx.grown hb;replace de:=fP de hb;clear hb;refine jZ (rz5 (W:=λw'=>Γ w2.heap.size w2 w') hs hx.bE ?c5) ?_
 case c5=>
  refine(Xn (ϊ _) (l8 hx.ex) zi (x:=uS) (k:=0) (bears:=1) rfl rfl).mono ?_
  rintro e w' ⟨rfl,hb⟩;exact⟨by rw[afk],hb⟩
 rintro a w3 ⟨hs,hb⟩;replace hx:=hx.grown hb;replace de:=fP de hb;clear hb;have pG:Γ w3.heap.size w3 (w3.alloc (Ξ #[ξ κ 4,ξ κ 3,ξ κ 3] 3)):=(í _ _).alloc (ϊ _) _;have Av:=hx.grown pG;refine jZ (rz6 (W:=λw'=>Γ w3.heap.size w3 w') hs hx.bE ?c6) ?_
 case c6=>
  refine(Ue (l:=[4,3,3]) (lC:=ea) (ϊ _) (l8 Av.ex) (sJ [4,3,3] (by decide) (Bk.new _ _ _) rfl) Av.lC zi afo).mono ?_
  rintro e w' ⟨rfl,hb⟩;exact⟨by rw[afg],pG.trans (hb.mono (by simp))⟩
 rintro a w4 ⟨hs,hb⟩;replace hx:=hx.grown hb;replace de:=fP de hb;clear hb pG Av;have pG:Γ w4.heap.size w4 (w4.alloc (Ξ #[ξ κ 4,ξ κ 3,ξ κ 3] 3)):=(í _ _).alloc (ϊ _) _;have Av:=hx.grown pG;refine jZ (rz7 (W:=λw'=>Γ w4.heap.size w4 w') hs hx.bE ?c7) ?_
 case c7=>
  refine(Ue (l:=[4,3,3]) (lC:=wV) (ϊ _) (l8 Av.ex) (sJ [4,3,3] (by decide) (Bk.new _ _ _) rfl) Av.MI zi afp).mono ?_
  rintro e w' ⟨rfl,hb⟩;exact⟨by rw[afh],pG.trans (hb.mono (by simp))⟩
 rintro a w5 ⟨hs,hb⟩;replace hx:=hx.grown hb;replace de:=fP de hb;clear hb pG Av;refine jZ (rz8 (W:=λw'=>Γ w5.heap.size w5 w') hs hx.bE ?c8) ?_
 case c8=>
  refine(Mh (ϊ _) (l8 hx.ex)).mono ?_
  rintro e w' ⟨rfl,hb⟩;exact⟨by rw[ae9,zi],hb⟩
 rintro a w6 ⟨hs,hb⟩;replace hx:=hx.grown hb;replace de:=fP de hb;clear hb;refine jZ (rz9 (W:=λA n c w'=>Row w' w'.heap.size 1 bI (.slice A n c) [4,5]/\Γ w6.heap.size w6 w') hs hx.bE ?c9) ?_
 case c9=>
  refine(PD (k:=0) (ϊ _) (l8 hx.ex) afm).mono ?_
  rintro e w' ⟨v,rfl,ho,hb⟩;obtain⟨A,n,c,rfl⟩:=iI ho;rw[afi] at ho;exact⟨A,n,c,rfl,CF ho,hb⟩
 rintro a w7 ⟨lN,n16,c16,hs,Co,hb⟩;replace hx:=hx.grown hb;replace de:=fP de hb;clear hb;refine jZ (an2 (W:=λw'=>Γ w7.heap.size w7 w') hs hx.bE ?c10) ?_
 case c10=>
  refine(ap1 (ϊ _) (l8 hx.ex) D5).mono ?_
  rintro e w' ⟨rfl,hb⟩;exact⟨by rw[afv],hb⟩
 rintro a w8 ⟨ss,hb,⟨g8,Oc,hs⟩,rfl⟩;have an:Γ w7.heap.size w7 (ss.alloc (Ξ #[ξ κ 10,ξ κ 10] 37)):=hb.alloc hb.size _;replace hx:=hx.grown an;replace de:=fP de an;replace Co:=fP Co an;clear hb an;refine jZ (an3 (gp:=0) (gb:=0) (gt:=0) hs (by rw[Oc];exact Bk.new _ _ _) de Co) ?_
 rintro a w9 ⟨hs,hb⟩;exact⟨gE,gp,gb,gk,gt,gl,gc,g3,hs,hx.grown hb⟩
def FC(w0:Ψ)(a:Act)(w:Ψ):Prop:=∃gE gp gb gk gt gl gc g3 dF n22 c22 cu n25 cw eG n28 eI,
 Sl [(0,.bool χ),(1,π (φ ⟨gE,0,ν⟩)),(2,ζ (φ ⟨gc,0,ν⟩) 3 3),(3,ζ (φ ⟨g3,0,ν⟩) 3 3),(5,ξ κ 0),(7,ξ κ 0),(9,ξ κ 0),(11,ξ κ 0),(13,ξ κ 0),(20,ξ κ 1),(21,ξ κ 0),(22,.slice dF n22 c22),(23,ζ ν 0 0),(24,ξ κ 8),(25,.slice cu n25 cw),(26,ξ κ 2),(27,.bool θ),(28,.slice eG n28 eI),(29,ξ κ 14),(30,.bool θ)] a/\
 j6 w0 w gE gp gb gk gt gl gc g3/\Row w w.heap.size 1 bI (.slice dF n22 c22) [1,1]/\Row w w.heap.size 2 Cut.R (.slice cu n25 cw) ea/\Row w w.heap.size 2 Cut.R (.slice eG n28 eI) ea
def aal(hm:gF w0)(h:j6 w0 w gE gp gb gk gt gl gc g3):gF w:=hm.below h.below hm.lt
def Ua{mI:List Cut->Int}{n:Int}{e:Ending}(hb:iR bg mI=φ (ea,n))(h:GI w bg mI e w'):
 ∃A k c,e=Ω (μ #[.slice A k c,ξ κ n,.bool θ,ξ κ 0])/\Row w' w'.heap.size 2 Cut.R (.slice A k c) ea/\Γ w.heap.size w w':=by
 obtain⟨cv,mv,fv,rfl,eW,gU⟩:=h;rw[hb] at eW;obtain⟨ho,rfl,rfl⟩:=eW;obtain⟨A,k,c,rfl⟩:=iI ho;exact⟨A,k,c,by rw[D5],mZ (l:=ea) ho (λ_=>rfl) (λ_ _=>rfl),gU⟩
def aox(hm:gF w0)(hf:FB w0 a w):fu prog [tH,tI,tJ,tK,tL,tM] (dK (FC w0)) a w:=by
 obtain⟨gE,gp,gb,gk,gt,gl,gc,g3,hs,hx⟩:=hf;refine jZ (an4 (W:=λw'=>Γ w.heap.size w w') hs hx.bE ?c12) ?_
 case c12=>
  refine(Ho (ϊ _) (l8 hx.ex) hx.lC T5).mono ?_
  rintro e w' ⟨rfl,hb⟩;exact⟨by rw[afd],hb⟩
 rintro a w1 ⟨hs,hb⟩;replace hx:=hx.grown hb;clear hb;refine jZ (an5 (W:=λw'=>Γ w1.heap.size w1 w') hs hx.bE ?c13) ?_
 case c13=>
  refine(Ho (ϊ _) (l8 hx.ex) hx.MI T6).mono ?_
  rintro e w' ⟨rfl,hb⟩;exact⟨by rw[afe],hb⟩
 rintro a w2 ⟨hs,hb⟩;replace hx:=hx.grown hb;clear hb;refine jZ (an6 (W:=λA n c w'=>Row w' w'.heap.size 1 bI (.slice A n c) [1,1]/\Γ w2.heap.size w2 w') hs hx.bE ?c14) ?_
 case c14=>
  refine(ape (ϊ _) (l8 hx.ex) hx.lC T5 afs).mono ?_
  rintro e w' ⟨v,rfl,ho,hb⟩;obtain⟨A,n,c,rfl⟩:=iI ho;rw[afr] at ho;exact⟨A,n,c,rfl,CF ho,hb⟩
 rintro a w3 ⟨dF,n22,c22,hs,kZ,hb⟩;replace hx:=hx.grown hb;clear hb;refine jZ (an7 (W:=λw'=>Γ w3.heap.size w3 w') hs hx.bE ?c15) ?_
 case c15=>
  refine(apd (ϊ _) (l8 hx.ex) hx.MI T6 aft).mono ?_
  rintro e w' ⟨rfl,hb⟩;exact⟨rfl,hb⟩
 rintro a w4 ⟨hs,hb⟩;replace hx:=hx.grown hb;replace kZ:=fP kZ hb;clear hb;refine jZ (an8 (W:=λA n c w'=>Row w' w'.heap.size 2 Cut.R (.slice A n c) ea/\Γ w4.heap.size w4 w') hs hx.bE ?c16) ?_
 case c16=>
  refine(Hq (ϊ _) (l8 hx.ex) (aal hm hx)).mono ?_
  rintro e w' h;exact Ua aff h
 rintro a w5 ⟨cu,n25,cw,hs,iC,hb⟩;replace hx:=hx.grown hb;replace kZ:=fP kZ hb;clear hb;refine jZ (an9 (W:=λA n c w'=>Row w' w'.heap.size 2 Cut.R (.slice A n c) ea/\Γ w5.heap.size w5 w') hs hx.bE ?c17) ?_
 case c17=>
  refine(ao1 (ϊ _) (l8 hx.ex) (aal hm hx)).mono ?_
  rintro e w' h;exact Ua afq h
 rintro a w6 ⟨eG,n28,eI,hs,nO,hb⟩;exact⟨gE,gp,gb,gk,gt,gl,gc,g3,dF,n22,c22,cu,n25,cw,eG,n28,eI,hs,hx.grown hb,fP kZ hb,fP iC hb,nO⟩
def aov(hm:gF w0)(h:fu prog [vV,vW,vX] (dK (FA w0)) a w0):fu prog [vV,vW,vX,tO,tP,tQ,tR,tS,tT,tU,tF,tG,tH,tI,tJ,tK,tL,tM] (dK (FC w0)) a w0:=by
 refine Gq (ju:=[tO,tP,tQ,tR,tS,tT,tU,tF,tG,tH,tI,tJ,tK,tL,tM]) (λa w hf=>?_) [vV,vW,vX] h
 exact Gq (ju:=[tH,tI,tJ,tK,tL,tM]) (λa w hf=>aox hm hf) [tO,tP,tQ,tR,tS,tT,tU,tF,tG] (aow hf.fb)
def aob{eG:Option Addr}{jI:Option Addr}(hs:Sl [(0,.bool χ),(1,π (φ ⟨gE,0,ν⟩)),(2,ζ (φ ⟨gc,0,ν⟩) 3 3),(3,ζ (φ ⟨g3,0,ν⟩) 3 3),(5,ξ κ 0),(7,ξ κ 0),(9,ξ κ 0),(11,ξ κ 0),(13,ξ κ 0),(15,ξ κ 0),(17,ξ κ 0),(20,ξ κ 1),(21,ξ κ 0),(22,.slice dF n22 c22),(23,ζ ν 0 0),(24,ξ κ 8),(25,.slice cu n25 cw),(26,ξ κ 2),(27,.bool θ),(28,.slice eG n28 eI),(29,ξ κ 14),(30,.bool θ),(31,.slice jI n31 jN),(32,ξ κ 0),(33,ξ κ 1)] a)
 (hc:Row w w.heap.size 2 Cut.R (ζ (φ ⟨gc,0,ν⟩) 3 3) ea)(kZ:Row w w.heap.size 1 bI (.slice dF n22 c22) [1,1])(iC:Row w w.heap.size 2 Cut.R (.slice cu n25 cw) ea)(nO:Row w w.heap.size 2 Cut.R (.slice eG n28 eI) ea)(Ak:Row w w.heap.size 1 bI (.slice jI n31 jN) [0,1]):
 yC.wp prog (dK λa w'=>Sl [(1,π (φ ⟨gE,0,ν⟩))] a/\Γ w.heap.size w w') a w:=by
 obtain⟨x,rfl,hx⟩:=hs.lit;simp only[Al] at hx;have CA:Hid (∀W,Γ w.heap.size w W->ύ prog 35 #[.slice cu n25 cw,ζ (φ ⟨gc,0,ν⟩) 3 3] W λe w'=>e=Ω (.bool θ)/\Γ W.heap.size W w'):=ψ λW hb=>by
  have:=Qo (fP iC hb) (fP hc hb) (ϊ _);exact this
 have CB:Hid (∀W,Γ w.heap.size w W->ύ prog 35 #[.slice eG n28 eI,ζ (φ ⟨gc,0,ν⟩) 3 3] W λe w'=>e=Ω (.bool θ)/\Γ W.heap.size W w'):=ψ λW hb=>by
  have:=Qo (fP nO hb) (fP hc hb) (ϊ _);exact this
 have CC:Hid (∀W,Γ w.heap.size w W->∀g,Bk W g 3 #[ξ κ 1,ξ κ 1]->ύ prog 30 #[.slice dF n22 c22,ζ (φ ⟨g,0,ν⟩) 2 2] W λe w'=>e=Ω (.bool θ)/\Γ W.heap.size W w'):=ψ λW hb g hg=>by
  have:=D4 (fP kZ hb) (sJ [1,1] (by decide) hg rfl) (ϊ _)
  exact this
 have CD:Hid (∀W,Γ w.heap.size w W->∀g,Bk W g 3 #[ξ κ 0,ξ κ 1]->ύ prog 30 #[.slice jI n31 jN,ζ (φ ⟨g,0,ν⟩) 2 2] W λe w'=>e=Ω (.bool θ)/\Γ W.heap.size W w'):=ψ λW hb g hg=>by
  have:=D4 (fP Ak hb) (sJ [0,1] (by decide) hg rfl) (ϊ _)
  exact this
 clear hc kZ iC nO Ak;unfold lit;simp only[hx];simp only[yC,Ba,yI,yH,vZ,uA,su,qV,pW,pb,oo,nu,mo,lM,lr,kK,j4,jH,jm,iM,iL,iK,iS,Tryz.f21,bp,aS,ϻ];refine wp_seq (wp_region_lit ?_)
 generalize hQ:Exit.then _ _=Q';repeat(first
  | (refine nj rfl rfl rfl (by kernel_rfl) (λ_ _=>?_))
  |go_step
  | (dsimp only)
  |go_upon
  |go_back
  |go_values)
 go_at_call 35
 refine(CA.e _ (í _ _)).mono ?_
 rintro e w1 ⟨rfl,ai⟩;have H1:=ψ ai;clear ai CA;repeat(first
  | (refine nj rfl rfl rfl (by kernel_rfl) (λ_ _=>?_))
  |go_step
  | (dsimp only)
  |go_upon
  |go_back
  |go_values)
 go_at_call 35
 refine(CB.e _ H1.e).mono ?_
 rintro e w2 ⟨rfl,an⟩;have H2:=ψ (H1.e.trans (an.mono H1.e.size));clear an CB H1;repeat(first
  | (refine nj rfl rfl rfl (by kernel_rfl) (λ_ _=>?_))
  |go_step
  | (dsimp only)
  |go_upon
  |go_back
  |go_values)
 go_at_call 30
 have rM:=CC.e (w2.alloc (Obj.cells #[Ϝ ϙ 1,Ϝ ϙ 1] 3)) (H2.e.alloc H2.e.size _) w2.heap.size (Bk.new _ _ _);refine rM.mono ?_
 rintro e w3 ⟨rfl,bK⟩;have H3:=ψ ((H2.e.alloc H2.e.size _).trans (bK.mono (by have:=H2.e.size;simp;omega)))
 clear bK rM H2 CC;repeat(first
  | (refine nj rfl rfl rfl (by kernel_rfl) (λ_ _=>?_))
  |go_step
  | (dsimp only)
  |go_upon
  |go_back
  |go_values)
 go_at_call 30
 have rM:=CD.e (w3.alloc (Obj.cells #[Ϝ ϙ 0,Ϝ ϙ 1] 3)) (H3.e.alloc H3.e.size _) w3.heap.size (Bk.new _ _ _);refine rM.mono ?_
 rintro e w4 ⟨rfl,cU⟩;have H4:=ψ ((H3.e.alloc H3.e.size _).trans (cU.mono (by have:=H3.e.size;simp;omega)))
 clear cU rM H3 CD;repeat(first
  | (refine nj rfl rfl rfl (by kernel_rfl) (λ_ _=>?_))
  |go_step
  | (dsimp only)
  |go_upon
  |go_back
  |go_values)
 subst hQ;go_wp2;exact⟨⟨rfl,rfl,eY rfl (jF)⟩,H4.e⟩
def aoc{W:Option Addr->Nat->Nat->Option Addr->Nat->Nat->Option Addr->Nat->Nat->Ψ->Prop}(hs:Sl [(1,π (φ ⟨gE,0,ν⟩))] a)(hc:Bk w gE 26 #[ξ κ 1,ζ (φ ⟨gp,0,ν⟩) 3 3,ζ (φ ⟨gb,0,ν⟩) 2 2,ζ (φ ⟨gt,0,ν⟩) 1 1])
 (aG:ύ prog 53 #[η #[ξ κ 1,ζ (φ ⟨gp,0,ν⟩) 3 3,ζ (φ ⟨gb,0,ν⟩) 2 2,ζ (φ ⟨gt,0,ν⟩) 1 1],η #[.string PT,ξ κ 13,ζ ν 0 0]] w λe w'=>∃Ap np cp Ab nb cb At nt ct,e=Ω (μ #[η #[ξ κ 1,.slice Ap np cp,.slice Ab nb cb,.slice At nt ct],ξ κ 0])/\W Ap np cp Ab nb cb At nt ct w'):
 yD.wp prog (dK λa w=>∃Ap np cp Ab nb cb At nt ct w1,W Ap np cp Ab nb cb At nt ct w1/\Sl [(1,π (φ ⟨gE,0,ν⟩)),(5,ξ κ 0),(34,π (φ ⟨w1.heap.size,0,ν⟩))] a/\w=w1.alloc (Ξ #[ξ κ 1,.slice Ap np cp,.slice Ab nb cb,.slice At nt ct] 26)) a w:=by
 obtain⟨x,rfl,hx⟩:=hs.lit;simp only[Al] at hx;have q0:=hc.cell 0;have q1:=hc.cell 1;have q2:=hc.cell 2;have q3:=hc.cell 3;have aG:=ψ aG;clear hc;unfold lit;simp only[hx];simp only[yD,Di,Ba,yI,yH,vZ,uA,su,qV,pW,pb,oo,nu,mo,lM,lr,kK,j4,jH,jm,iM,iL,iK,iS,Tryz.f21,bp,aS,ϻ];go_wp2_with (go_at_call 53;refine aG.e.mono ?_;rintro e w1 ⟨Ap,np,cp,Ab,nb,cb,At,nt,ct,rfl,hp⟩;have HP:=ψ hp;clear hp)
 exact⟨_,_,_,_,_,_,_,_,_,_,HP.e,⟨rfl,rfl,eY rfl (eY rfl (eY rfl jF))⟩,rfl⟩
def aod{Uv:Nat}{Ap Ab At:Option Addr}{W:Option Addr->Nat->Nat->Ψ->Prop}(hs:Sl [(1,π (φ ⟨gE,0,ν⟩)),(5,ξ κ 0),(34,π (φ ⟨Uv,0,ν⟩))] a)(hc:Bk w Uv 26 #[ξ κ 1,.slice Ap np cp,.slice Ab nb cb,.slice At nt ct])
 (aG:ύ prog 33 #[η #[ξ κ 1,.slice Ap np cp,.slice Ab nb cb,.slice At nt ct]] w λe w'=>∃cu n25 cw,e=Ω (μ #[.slice cu n25 cw,ξ κ 1,.bool θ,ξ κ 0])/\W cu n25 cw w'):yE.wp prog (dK λa w=>∃cu n25 cw,Sl [(1,π (φ ⟨gE,0,ν⟩)),(5,ξ κ 0),(7,ξ κ 0),(25,.slice cu n25 cw),(26,ξ κ 1)] a/\W cu n25 cw w) a w:=by
 obtain⟨x,rfl,hx⟩:=hs.lit;simp only[Al] at hx;have q0:=hc.cell 0;have q1:=hc.cell 1;have q2:=hc.cell 2;have q3:=hc.cell 3;have aG:=ψ aG;clear hc;unfold lit;simp only[hx];simp only[yE,Gz,Di,Ba,yI,yH,vZ,uA,su,qV,pW,pb,oo,nu,mo,lM,lr,kK,j4,jH,jm,iM,iL,iK,iS,Tryz.f21,bp,aS,ϻ];go_wp2_with (go_at_call 33;refine aG.e.mono ?_;rintro e w1 ⟨cu,n25,cw,rfl,hp⟩;have HP:=ψ hp;clear hp)
 exact⟨cu,n25,cw,⟨rfl,rfl,(by repeat first|exact jF|refine eY rfl ?_)⟩,HP.e⟩
def aof{Ap Ab At:Option Addr}{W:Option Addr->Nat->Nat->Ψ->Prop}(hs:Sl [(1,π (φ ⟨gE,0,ν⟩)),(5,ξ κ 0),(7,ξ κ 0),(25,.slice cu n25 cw),(26,ξ κ 1)] a)(hc:Bk w gE 26 #[ξ κ 1,.slice Ap np cp,.slice Ab nb cb,.slice At nt ct])
 (aG:ύ prog 56 #[η #[ξ κ 1,.slice Ap np cp,.slice Ab nb cb,.slice At nt ct]] w λe w'=>∃qO n35 jO,e=Ω (μ #[.slice qO n35 jO,ξ κ 0])/\W qO n35 jO w'):yF.wp prog (dK λa w=>∃qO n35 jO,Sl [(5,ξ κ 0),(7,ξ κ 0),(9,ξ κ 0),(25,.slice cu n25 cw),(26,ξ κ 1),(35,.slice qO n35 jO)] a/\W qO n35 jO w) a w:=by
 obtain⟨x,rfl,hx⟩:=hs.lit;simp only[Al] at hx;have q0:=hc.cell 0;have q1:=hc.cell 1;have q2:=hc.cell 2;have q3:=hc.cell 3;have aG:=ψ aG;clear hc;unfold lit;simp only[hx];simp only[yF,Kw,Kv,Gz,Di,Ba,yI,yH,vZ,uA,su,qV,pW,pb,oo,nu,mo,lM,lr,kK,j4,jH,jm,iM,iL,iK,iS,Tryz.f21,bp,aS,ϻ];go_wp2_with (go_at_call 56;refine aG.e.mono ?_;rintro e w1 ⟨qO,n35,jO,rfl,hp⟩;have HP:=ψ hp;clear hp)
 exact⟨qO,n35,jO,⟨rfl,rfl,(by repeat first|exact jF|refine eY rfl ?_)⟩,HP.e⟩
def aog{qO:Option Addr}{n35 jO:Nat}(hs:Sl [(5,ξ κ 0),(7,ξ κ 0),(9,ξ κ 0),(25,.slice cu n25 cw),(26,ξ κ 1),(35,.slice qO n35 jO)] a)
 (iC:Row w w.heap.size 2 Cut.R (.slice cu n25 cw) nE)(IY:Row w w.heap.size 1 bI (.slice qO n35 jO) [0,1,2]):
 yJ.wp prog (λe a w'=>e=.ret/\a.defers=[cQ]/\a.tmps.size=349/\a.tmps[0]?=φ (.bool θ)/\Γ w.heap.size w w') a w:=by
 obtain⟨x,rfl,hx⟩:=hs.lit;simp only[Al] at hx;have CA:Hid (∀W,Γ w.heap.size w W->∀g,Bk W g 56 #[ξ κ 2,ξ κ 0,ξ κ 2,ξ κ 6,ξ κ 2,ξ κ 10]->ύ prog 35 #[.slice cu n25 cw,ζ (φ ⟨g,0,ν⟩) 3 3] W λe w'=>e=Ω (.bool θ)/\Γ W.heap.size W w'):=ψ λW hb g hg=>by
  have:=Qo (fP iC hb) (SP nE (by decide) hg rfl) (ϊ _)
  exact this
 have CB:Hid (∀W,Γ w.heap.size w W->∀g,Bk W g 3 #[ξ κ 0,ξ κ 1,ξ κ 2]->ύ prog 30 #[.slice qO n35 jO,ζ (φ ⟨g,0,ν⟩) 3 3] W λe w'=>e=Ω (.bool θ)/\Γ W.heap.size W w'):=ψ λW hb g hg=>by
  have:=D4 (fP IY hb) (sJ [0,1,2] (by decide) hg rfl) (ϊ _)
  exact this
 clear iC IY;unfold lit;simp only[hx];simp only[yJ,Kw,Kv,Gz,Di,Ba,yI,yH,vZ,uA,su,qV,pW,pb,oo,nu,mo,lM,lr,kK,j4,jH,jm,iM,iL,iK,iS,Tryz.f21,bp,aS,ϻ];go_wp2_with (first
  | (go_at_call 66;refine(dt _ _ _).mono ?_;rintro e w1 ⟨rfl,rfl⟩)
  | (go_at_call 35;refine(CA.e _ (by repeat first|exact í _ _|refine Ak1 ?_ (by simp<;>omega) _) _ (Bk.bZ (by simp) _ _)).mono ?_;rintro e w5 ⟨rfl,dB⟩;have H5:Hid (Γ w.heap.size w w5):=ψ (Ak2 (B:=w.heap.size) (by repeat first|exact í _ _|refine Ak1 ?_ (by simp<;>omega) _) (dB.mono (by simp<;>omega)));clear dB)
  | (go_at_call 30;have rM:=CB.e (w5.alloc (Obj.cells #[Ϝ ϙ 0,Ϝ ϙ 1,Ϝ ϙ 2] 3)) (H5.e.alloc H5.e.size _) w5.heap.size (Bk.new _ _ _);refine rM.mono ?_;rintro e w6 ⟨rfl,eC⟩;have H6:=ψ ((H5.e.alloc H5.e.size _).trans (eC.mono (by have:=H5.e.size;simp;omega)));clear eC))
 exact H6.e
end
end Go.Jn
namespace Go.Jn
open Go Go.Proofs Go.Sim Go.Conc Go.Tw Go.RowKit
def anR{No:Nat->Prop}{sz:Nat}{R:α->List υ->Prop}{xs:List α}(h:cV w No sz R v xs){p:Addr}(hp:No p.block)(u:υ):cV (w.setCell p u) No sz R v xs:=by
 obtain⟨A,c,hv,h1,h2,h3⟩:=h;refine⟨A,c,hv,h1,h2,λhx=>?_⟩
 obtain⟨ad,ha,hb,hn,hc⟩:=h3 hx;refine⟨ad,ha,by simpa [World.setCell] using hb,hn,λi x hi=>?_⟩
 obtain⟨cs,r,hl,aq⟩:=hc i x hi;refine⟨cs,r,hl,λj u hu=>?_⟩
 have aw:(ad.add (i * sz+j)).block≠p.block:=by rw[b9];intro e;rw[e] at hn;exact hn hp
 exact(World.cell?_of_block (Below.heap_setCell w p _ _ aw)).trans (aq j u hu)
section
variable [Go.Tw.aK]
def BM(gk:Nat):List (bN×υ):=[(uS,ζ (φ ⟨gk,0,ν⟩) 1 1),(⟨FU,6,[]⟩,ζ ν 0 0)]
def D6(gl g1 g2:Nat):List (Tw.Tape×υ):=[(⟨[0,2],⟨7,7⟩⟩,ζ (φ ⟨gl,0,ν⟩) 2 2),(⟨[0],⟨4,4⟩⟩,ζ (φ ⟨g1,0,ν⟩) 1 1),(⟨[2],⟨2,2⟩⟩,ζ (φ ⟨g2,0,ν⟩) 1 1)]
def apS{base:Nat}(hp:Bk W gp 72 #[.string Js,ξ κ 4,ξ κ 5,ξ κ 0,.string Jt,ξ κ 3,ξ κ 3,ξ κ 1,.string Jr,ξ κ 2,ξ κ 3,ξ κ 0])
 (hb:Bk W gb 59 #[.string SY,ξ κ 8,ζ (φ ⟨gk,0,ν⟩) 1 1,.string FU,ξ κ 6,ζ ν 0 0])(hk:Bk W gk 37 #[ξ κ 3,ξ κ 3])(hl:Bk W gl 3 #[ξ κ 0,ξ κ 2])
 (h1:Bk W g1 3 #[ξ κ 0])(h2:Bk W g2 3 #[ξ κ 2])(ho:W.ownsRow base 95 3 tv 3 ((D6 gl g1 g2).flatMap cE)):
 aQ W W.heap.size BN (ζ (φ ⟨gp,0,ν⟩) 3 3) (ζ (φ ⟨gb,0,ν⟩) 2 2) tv:=by
 refine⟨?_,?_,?_⟩
 ·exact za (xs:=bg.pieces) (f:=fX) hp (by decide) (λ_=>rfl) (λx hx=>by
   refine⟨rfl,?_⟩
   simp only[bg,Ϧ,Λ,or_false] at hx;rcases hx with rfl|rfl|rfl<;>decide) rfl
 ·have:=za (xs:=BM gk) (sz:=3) (f:=fc) (R:=λp cs=>cs=fc p) hb (by show 2<=1000;decide) (λ_=>rfl) (λ_ _=>rfl) rfl
  exact tD (ps:=BM gk) this (λp hm cs hc=>by
   simp only[BM,Ϧ,Λ,or_false] at hm;rcases hm with rfl|rfl
   ·exact⟨_,hc,(by show uS.name.size<=ϑ;decide),Mm [⟨3,3⟩] (by decide) hk rfl⟩
   ·exact⟨_,hc,by decide,Row.nil⟩)
 ·have:=mZ (l:=D6 gl g1 g2) (f:=cE) (R:=λp cs=>cs=cE p) ho (λ_=>rfl) (λ_ _=>rfl)
  exact tD (ps:=D6 gl g1 g2) this (λp hm cs hc=>by
   simp only[D6,Ϧ,Λ,or_false] at hm;rcases hm with rfl|rfl|rfl
   ·exact⟨_,hc,sJ [0,2] (by decide) hl rfl⟩
   ·exact⟨_,hc,sJ [0] (by decide) h1 rfl⟩
   ·exact⟨_,hc,sJ [2] (by decide) h2 rfl⟩)
def lS{g':Nat}{t':TypeId}{bu:Array υ}(h:Bk w g t cs)(h':Bk w g' t' bu)(ht:t≠t'):g≠g':=by
 rintro rfl;have h:w.heap[g]?=_:=h;have h':w.heap[g]?=_:=h';rw[h] at h';simp only[Option.some.injEq,Obj.cells.injEq] at h';exact ht h'.2.1
def amU{base sz:Nat}{e:TypeId}{xs:List υ}(h:w.ownsRow base e sz v n xs)(hb:Bk w g t cs)(ht:e≠t):∀k,v.ownBlock=φ k->g≠k:=by
 rcases h.2 with⟨rfl,_⟩ | ⟨k,cap,cur,rfl,ky,hk,_⟩
 ·intro k hk;simp[Value.ownBlock] at hk
 ·intro k' kU
  simp[Value.ownBlock] at kU;subst kU
  exactλe=>lS (show Bk w k _ cur from hk) hb ht e.symm
def apT{W4 w6:Ψ}{v':υ}(hx:j6 w0 w gE gp gb gk gt gl gc g3)(h4:Γ w.heap.size w W4)(b1:Bk W4 g1 3 #[ξ κ 0])(b2:Bk W4 g2 3 #[ξ κ 2])
 (aH:w6.ownsRow w0.heap.size 95 3 v' 3 ((D6 gl g1 g2).flatMap cE))(hg:W4.grownBy w6 (φ gt)):
 Bk w6 gE 26 #[ξ κ 1,ζ (φ ⟨gp,0,ν⟩) 3 3,ζ (φ ⟨gb,0,ν⟩) 2 2,ζ (φ ⟨gt,0,ν⟩) 1 1]/\
 Bk (w6.setCell ⟨gE,3,ν⟩ v') gE 26 #[ξ κ 1,ζ (φ ⟨gp,0,ν⟩) 3 3,ζ (φ ⟨gb,0,ν⟩) 2 2,v']/\
 aQ (w6.setCell ⟨gE,3,ν⟩ v') (w6.setCell ⟨gE,3,ν⟩ v').heap.size BN (ζ (φ ⟨gp,0,ν⟩) 3 3) (ζ (φ ⟨gb,0,ν⟩) 2 2) v'/\
 ∀ {A:Option Addr} {n c:Nat},cV w (λk=>k=gE\/k=gt) 2 Cut.R (.slice A n c) nE->cV (w6.setCell ⟨gE,3,ν⟩ v') (λk=>k=gE\/k=gt) 2 Cut.R (.slice A n c) nE:=by
 have up:∀ {g t cs},Bk w g t cs->g≠gt->Bk w6 g t cs:=λh aw=>Bk.grown (W:=W4) (h.below h4 h.lt) hg (by simpa using aw)
 have ht:=hx.ex.t;have hE:=up hx.bE (lS hx.bE ht (by decide))
 have hp:=up hx.ex.p (lS hx.ex.p ht (by decide))
 have hb:=up hx.ex.b (lS hx.ex.b ht (by decide))
 have hk:=up hx.ex.k (lS hx.ex.k ht (by decide))
 have hl:=up hx.ex.l (lS hx.ex.l ht (by decide))
 have Wq:=ht.below h4 ht.lt;have h1:Bk w6 g1 3 #[ξ κ 0]:=Bk.grown (W:=W4) b1 hg (by simpa using lS b1 Wq (by decide))
 have h2:Bk w6 g2 3 #[ξ κ 2]:=Bk.grown (W:=W4) b2 hg (by simpa using lS b2 Wq (by decide))
 have ho:=mh (u:=v') (p:=⟨gE,3,ν⟩) aH (amU aH hE (by decide))
 refine⟨hE,hE.set 3 v',apS (hp.dV (lS hp hE (by decide)) _) (hb.dV (lS hb hE (by decide)) _) (hk.dV (lS hk hE (by decide)) _) (hl.dV (lS hl hE (by decide)) _) (h1.dV (lS h1 hE (by decide)) _) (h2.dV (lS h2 hE (by decide)) _) ho,λhr=>?_⟩
 have de:cV W4 (λk=>k=gE\/k=gt) 2 Cut.R _ nE:=hr.below h4 (λk hk=>.inl hk)
 exact anR (de.grown hg (λk hk=>.inr (by simpa using hk.symm))) (.inl rfl) _
end
def aqU{P:Program}{md:Region.Mode}{Q:Exit->Act->Ψ->Prop}(I:Nat->Array Bool->Act->Ψ->Prop)
 (dH:∀n l a w i (K:Act->Ψ->Prop),I n l a w->i∈Ç md ops l->(∀a' w',I (n+1) (l.setIfInBounds i θ) a' w'->K a' w')->wpOp P ops Q i K a w)
 (rP:∀n l a w,I n l a w->Ç md ops l=[]->Q .normal a w)(Cc:∀l a w,I ops.size l a w->Ç md ops l=[]):
 ∀fuel n l a w,n+fuel=ops.size->I n l a w->ä P md ops Q fuel l a w:=by
 intro fuel;induction fuel with
 |zero=>
  intro n l a w hn h;have hn:n=ops.size:=hn;subst hn;exact⟨Cc l a w h,rP _ l a w h (Cc l a w h)⟩
 |succ k ih=>exactλn l a w hn h=>⟨rP n l a w h,λi hi=>dH n l a w i _ h hi λa' w' h'=>ih (n+1) _ a' w' (by omega) h'⟩
def waits(ops:Array Oper)(i:Nat):List Nat:=((ops[i]?).map λo=>(o.after.toList.filter (Region.binds .any ·)).map (·.on)).getD []
def JM:i∈Ç .any ops l↔i<ops.size/\l.getD i θ=χ/\∀d∈waits ops i,l.getD d χ=θ:=by
 rw[mem_ready];unfold waits;constructor
 ·rintro⟨h,o,ho,ha⟩
  refine⟨(ϛ.1 ho).1,h,λd hd=>?_⟩
  rw[ho] at hd;simp only[é,ϻ,List.mem_map,List.mem_filter] at hd;obtain⟨e,⟨he,hb⟩,rfl⟩:=hd;exact ha e (by simpa using he) hb
 ·rintro⟨hi,h,ha⟩
  refine⟨h,ops[i],ϛ.2 ⟨hi,rfl⟩,λe he hb=>ha _ ?_⟩
  rw[ϛ.2 ⟨hi,rfl⟩]
  simp only[é,ϻ,List.mem_map,List.mem_filter];exact⟨e,⟨by simpa using he,hb⟩,rfl⟩
def dI:Array Oper:=opsOf tN
def aja:Nat:=match tN with| .region i _ _=>i|_=>0
def apK:tN=.region aja dI θ:=by kernel_rfl
def C5:dI.size=12:=by kernel_rfl
def aeA:∃o,dI[0]?=φ o/\o.op=.fieldAddr 26 (.tmp 1) 3/\o.dst=φ 306/\o.guard=ν:=⟨_,rfl,rfl,rfl,rfl⟩
def aeB:∃o,dI[1]?=φ o/\o.op=.load 24 (.tmp 306)/\o.dst=φ 307/\o.guard=ν:=⟨_,rfl,rfl,rfl,rfl⟩
def aeE:∃o,dI[2]?=φ o/\o.op=.buildSlice 33 1 #[(0,.const (ξ κ 0))]/\o.dst=φ 308/\o.guard=ν:=⟨_,rfl,rfl,rfl,rfl⟩
def aeF:∃o,dI[3]?=φ o/\o.op=.call {callee:=.value (.func 50),args:=#[.const (ξ κ 4)],argTypes:=#[3]}/\o.dst=φ 309/\o.guard=ν:=⟨_,rfl,rfl,rfl,rfl⟩
def aeG:∃o,dI[4]?=φ o/\o.op=.build 95 #[(0,.tmp 308),(1,.tmp 309)]/\o.dst=φ 310/\o.guard=ν:=⟨_,rfl,rfl,rfl,rfl⟩
def aeH:∃o,dI[5]?=φ o/\o.op=.buildSlice 33 1 #[(0,.const (ξ κ 2))]/\o.dst=φ 311/\o.guard=ν:=⟨_,rfl,rfl,rfl,rfl⟩
def aeI:∃o,dI[6]?=φ o/\o.op=.call {callee:=.value (.func 50),args:=#[.const (ξ κ 2)],argTypes:=#[3]}/\o.dst=φ 312/\o.guard=ν:=⟨_,rfl,rfl,rfl,rfl⟩
def aeJ:∃o,dI[7]?=φ o/\o.op=.build 95 #[(0,.tmp 311),(1,.tmp 312)]/\o.dst=φ 313/\o.guard=ν:=⟨_,rfl,rfl,rfl,rfl⟩
def aeK:∃o,dI[8]?=φ o/\o.op=.buildSlice 24 2 #[(0,.tmp 310),(1,.tmp 313)]/\o.dst=φ 314/\o.guard=ν:=⟨_,rfl,rfl,rfl,rfl⟩
def aeL:∃o,dI[9]?=φ o/\o.op=.call {callee:=.builtin .append,args:=#[.tmp 307,.tmp 314],argTypes:=#[24,24]}/\o.dst=φ 315/\o.guard=ν:=⟨_,rfl,rfl,rfl,rfl⟩
def aeC:∃o,dI[10]?=φ o/\o.op=.fieldAddr 26 (.tmp 1) 3/\o.dst=φ 316/\o.guard=ν:=⟨_,rfl,rfl,rfl,rfl⟩
def aeD:∃o,dI[11]?=φ o/\o.op=.store 24 (.tmp 316) (.tmp 315)/\o.dst=ν/\o.guard=ν:=⟨_,rfl,rfl,rfl,rfl⟩
def ZH:waits dI 1=[0]:=by kernel_rfl
def Km:waits dI 4=[2,3]:=by kernel_rfl
def Rc:waits dI 7=[5,6]:=by kernel_rfl
def Re:waits dI 8=[4,7]:=by kernel_rfl
def Rf:waits dI 9=[1,8,6]:=by kernel_rfl
def Gs:waits dI 10=[0,1,2,3,4,5,6,7,8,9]:=by kernel_rfl
def Kl:10∈waits dI 11:=List.contains_iff_mem.1 (by kernel_rfl)
def wlt:(ε 12).all (λi=>(waits dI i).all λd=>decide (d<i))=θ:=by kernel_rfl
def L5(h:Ç .any dI l=[]):∀i,i<12->l.getD i θ=θ:=by
 intro i;induction i using Nat.strongRecOn with
 |_ i ih=>
  intro hi;cases hb:l.getD i θ with
  |true=>rfl
  |false=>
   have:i∈Ç .any dI l:=JM.2 ⟨by rw[C5];exact hi,hb,λd hd=>by
    have ao:d<i:=by
     have:=ġ.1 (ġ.1 wlt i (List.mem_range.2 hi)) d hd;simpa using this
    have:=ih d ao (by omega)
    have hs:i<l.size:=by
     apply Classical.byContradiction;intro hn;rw[î,Array.getElem?_eq_none (by omega)] at hb
     cases hb
    rw[î,ϛ.2 ⟨by omega,rfl⟩] at this |-
    exact this⟩
   rw[h] at this;cases this
def Hw(h:i<l.size)(d e:Bool):l.getD i d=l.getD i e:=by
 rw[î,î,ϛ.2 ⟨h,rfl⟩];rfl
def M9(h:i<l.size)(d:Bool):(l.setIfInBounds i θ).getD i d=θ:=by
 rw[î,Ù,if_pos rfl,if_pos h];rfl
def ad0(hc:l.toList.countP id=n)(hi:i<l.size)(hb:l.getD i θ=χ):(l.setIfInBounds i θ).toList.countP id=n+1:=by
 rw[Array.toList_setIfInBounds,List.countP_set (by simpa using hi)]
 have e:l.toList[i]'(by simpa using hi)=χ:=by
  rw[î,ϛ.2 ⟨hi,rfl⟩] at hb
  simpa using hb
 rw[e,hc];simp
def adZ(h:l.toList.countP id=12)(hs:l.size=12):Ç .any dI l=[]:=by
 rw[List.eq_nil_iff_forall_not_mem];intro i hi;obtain⟨h1,h2,-⟩:=JM.1 hi;rw[C5] at h1;have:=List.countP_eq_length.1 (h.trans (by simpa using hs.symm:12=l.toList.length)) (l[i]'(by omega)) (by simp)
 rw[î,ϛ.2 ⟨by omega,rfl⟩] at h2
 simp only[id,ϻ] at this h2;rw[this] at h2;cases h2
end Go.Jn
namespace Go.Jn
open Go Go.Proofs Go.Sim Go.Conc Go.Tw Go.RowKit
section
variable [Go.Tw.aK]
def FV(gE gt k:Nat)(W:Ψ)(v:υ):Prop:=match k with
 |0=>v=π (φ ⟨gE,3,ν⟩)
 |1=>v=ζ (φ ⟨gt,0,ν⟩) 1 1
 |2=>∃b,v=ζ (φ ⟨b,0,ν⟩) 1 1/\Bk W b 3 #[ξ κ 0]
 |3=>v=η #[ξ κ 4,ξ κ 4]
 |4=>∃b,v=η #[ζ (φ ⟨b,0,ν⟩) 1 1,ξ κ 4,ξ κ 4]/\Bk W b 3 #[ξ κ 0]
 |5=>∃b,v=ζ (φ ⟨b,0,ν⟩) 1 1/\Bk W b 3 #[ξ κ 2]
 |6=>v=η #[ξ κ 2,ξ κ 2]
 |7=>∃b,v=η #[ζ (φ ⟨b,0,ν⟩) 1 1,ξ κ 2,ξ κ 2]/\Bk W b 3 #[ξ κ 2]
 |_=>∃d b c,v=ζ (φ ⟨d,0,ν⟩) 2 2/\Bk W d 95 #[ζ (φ ⟨b,0,ν⟩) 1 1,ξ κ 4,ξ κ 4,ζ (φ ⟨c,0,ν⟩) 1 1,ξ κ 2,ξ κ 2]/\Bk W b 3 #[ξ κ 0]/\Bk W c 3 #[ξ κ 2]
def FV.below{gE gt k:Nat}{W W':Ψ}{v:υ}(h:FV gE gt k W v)(hb:Γ W.heap.size W W'):FV gE gt k W' v:=by
 have up:∀ {g t cs},Bk W g t cs->Bk W' g t cs:=λh=>h.below hb h.lt
 unfold FV at *;split at h<;>first
  |exact h
  | (obtain⟨b,e,h⟩:=h;exact⟨b,e,up h⟩)
  | (obtain⟨d,b,c,e,h1,h2,h3⟩:=h;exact⟨d,b,c,e,up h1,up h2,up h3⟩)
def BK(W:Ψ)(gE gp gb:Nat)(v:υ):Prop:=Bk W gE 26 #[ξ κ 1,ζ (φ ⟨gp,0,ν⟩) 3 3,ζ (φ ⟨gb,0,ν⟩) 2 2,v]
def RG(gE gp gb:Nat)(v25:υ)(W:Ψ)(v:υ):Prop:=∃A n c,v=.slice A n c/\BK W gE gp gb (.slice A n c)/\aQ W W.heap.size BN (ζ (φ ⟨gp,0,ν⟩) 3 3) (ζ (φ ⟨gb,0,ν⟩) 2 2) (.slice A n c)/\Row W W.heap.size 2 Cut.R v25 nE
def LJ(gE gp gb gt:Nat)(v25:υ)(W:Ψ)(v:υ):Prop:=BK W gE gp gb (ζ (φ ⟨gt,0,ν⟩) 1 1)/\RG gE gp gb v25 (W.setCell ⟨gE,3,ν⟩ v) v
structure Bl(m:List (Nat×υ))(w:Ψ)(gE gp gb gt:Nat)(v25:υ)(n:Nat)(l:Array Bool)(a:Act)(W:Ψ):Prop where
 sz:l.size=12
 cnt:l.toList.countP id=n
 cl:∀k,l.getD k χ=θ->∀d∈waits dI k,l.getD d χ=θ
 sl:Sl m a
 ph:(l.getD 9 χ=χ/\Γ w.heap.size w W/\∀k,k<9->l.getD k χ=θ->∃v,a.tmps[306+k]?=φ v/\FV gE gt k W v)\/
  (l.getD 9 χ=θ/\l.getD 10 χ=χ/\∃v,a.tmps[315]?=φ v/\LJ gE gp gb gt v25 W v)\/
  (l.getD 10 χ=θ/\l.getD 11 χ=χ/\∃v,a.tmps[315]?=φ v/\a.tmps[316]?=φ (π (φ ⟨gE,3,ν⟩))/\LJ gE gp gb gt v25 W v)\/
  (l.getD 11 χ=θ/\∃v,RG gE gp gb v25 W v)
def QA{m:List (Nat×υ)}(h:Sl m a)(hm:∀p∈m,p.1<306)(hd:306<=d)(v:υ):Sl m (a.put (φ d) v):=by
 refine⟨h.1,by simpa [É] using h.2.1,λp hp=>?_⟩
 have:=h.2.2 p hp;have:=hm p hp;simp only[É];rw[Ù,if_neg (by omega)]
 exact h.2.2 p hp
section
variable {m:List (Nat×υ)}{w:Ψ}{gE gp gb gt:Nat}{v25:υ}{n:Nat}{l:Array Bool}{a:Act}{W:Ψ}
def Bl.next(h:Bl m w gE gp gb gt v25 n l a W)(hi:i∈Ç .any dI l):
 (l.setIfInBounds i θ).size=12/\(l.setIfInBounds i θ).toList.countP id=n+1/\(∀k,(l.setIfInBounds i θ).getD k χ=θ->∀d∈waits dI k,(l.setIfInBounds i θ).getD d χ=θ):=by
 obtain⟨h1,h2,h3⟩:=JM.1 hi;rw[C5] at h1;have hs:=h.sz;refine⟨by simpa using hs,ad0 h.cnt (by omega) h2,λk hk d hd=>?_⟩
 by_cases rS:i=k
 ·subst rS
  exact getD_set_true (h3 d hd)
 ·rw[Akz χ rS] at hk
  exact getD_set_true (h.cl k hk d hd)
def Bl.one(h:Bl m w gE gp gb gt v25 n l a W)(hm:∀p∈m,p.1<306)(h9:l.getD 9 χ=χ)(hb:Γ w.heap.size w W)(hf:∀k,k<9->l.getD k χ=θ->∃v,a.tmps[306+k]?=φ v/\FV gE gt k W v)
 (hi:i∈Ç .any dI l)(xD:i<9){W':Ψ}(hW:Γ W.heap.size W W')(hv:FV gE gt i W' v):
 Bl m w gE gp gb gt v25 (n+1) (l.setIfInBounds i θ) (a.put (φ (306+i)) v) W':=by
 obtain⟨n1,n2,n3⟩:=h.next hi;refine⟨n1,n2,n3,QA h.sl hm (by omega) v,.inl ⟨by rw[Akz χ (by omega)];exact h9,hb.trans (hW.mono hb.size),λk hk hl=>?_⟩⟩
 simp only[É];by_cases rS:i=k
 ·subst rS
  have hs:=h.sl.2.1;exact⟨v,by rw[Ù,if_pos rfl,if_pos (by omega)],hv⟩
 ·rw[Akz χ rS] at hl
  obtain⟨u,hu,hfu⟩:=hf k hk hl;exact⟨u,by rw[Ù,if_neg (by omega)];exact hu,hfu.below hW⟩
def AU{K:Act->Ψ->Prop}{Q:Exit->Act->Ψ->Prop}(ho:dI[i]?=φ o)(hg:o.guard=ν)(h:Oper.wp prog o a W K Q):wpOp prog dI Q i K a W:=by
 unfold wpOp;rw[ho];simp only[cx hg,if_true];exact .inl h
def ev(h:a.tmps[k]?=φ v):a.eval (.tmp k)=v:=by
 unfold Act.eval;simp[h]
def Zt{K:Act->Ψ->Prop}{Q:Exit->Act->Ψ->Prop}(ho:dI[i]?=φ o)(ag:o.op=.fieldAddr 26 (.tmp 1) 3)(hd:o.dst=φ d)(hg:o.guard=ν)(h1:a.tmps[1]?=φ (π (φ ⟨gE,0,ν⟩)))(h:K (a.put (φ d) (π (φ ⟨gE,3,ν⟩))) W):wpOp prog dI Q i K a W:=by
 refine AU ho hg ?_
 have e:=ev h1;obtain⟨d,op,ty,ps,af,gu⟩:=o;simp only at ag hd hg;subst ag hd hg;clear ho;go_simp;exact h
def aqx{K:Act->Ψ->Prop}{Q:Exit->Act->Ψ->Prop}(h1:a.tmps[306]?=φ (π (φ ⟨gE,3,ν⟩)))(hc: W.cell? ⟨gE,3,ν⟩=φ (ζ (φ ⟨gt,0,ν⟩) 1 1))(h:K (a.put (φ 307) (ζ (φ ⟨gt,0,ν⟩) 1 1)) W):wpOp prog dI Q 1 K a W:=by
 obtain⟨o,ho,ag,hd,hg⟩:=aeB;refine AU ho hg ?_
 have e:=ev h1;obtain⟨d,op,ty,ps,af,gu⟩:=o;simp only at ag hd hg;subst ag hd hg;clear ho;go_simp;exact h
def Zu{K:Act->Ψ->Prop}{Q:Exit->Act->Ψ->Prop}(ho:dI[i]?=φ o)(ag:o.op=.buildSlice 33 1 #[(0,.const (ξ κ z))])(hd:o.dst=φ d)(hg:o.guard=ν)(h:K (a.put (φ d) (ζ (φ ⟨W.heap.size,0,ν⟩) 1 1)) (W.alloc (Ξ #[ξ κ z] 3))):wpOp prog dI Q i K a W:=by
 refine AU ho hg ?_
 obtain⟨d,op,ty,ps,af,gu⟩:=o;simp only at ag hd hg;subst ag hd hg;clear ho;go_simp;exact h
def Zv{d:Nat}{z:Int}{K:Act->Ψ->Prop}{Q:Exit->Act->Ψ->Prop}(ho:dI[i]?=φ o)(ag:o.op=.call {callee:=.value (.func 50),args:=#[.const (ξ κ z)],argTypes:=#[3]})(hd:o.dst=φ d)(hg:o.guard=ν)(h:K (a.put (φ d) (η #[ξ κ z,ξ κ z])) (W.alloc (Ξ #[ξ κ z,ξ κ z] 37))):wpOp prog dI Q i K a W:=by
 refine AU ho hg ?_
 obtain⟨d,op,ty,ps,af,gu⟩:=o;simp only at ag hd hg;subst ag hd hg;clear ho;go_simp
 go_at_call 50
 refine(CQ _ _).mono ?_
 rintro e w1 ⟨rfl,rfl⟩;exact h
def Zw{s1 s2:Nat}{b:Nat}{K:Act->Ψ->Prop}{Q:Exit->Act->Ψ->Prop}(ho:dI[i]?=φ o)(ag:o.op=.build 95 #[(0,.tmp s1),(1,.tmp s2)])(hd:o.dst=φ d)(hg:o.guard=ν)(h1:a.tmps[s1]?=φ (ζ (φ ⟨b,0,ν⟩) 1 1))(h2:a.tmps[s2]?=φ (η #[ξ κ z,ξ κ z]))(h:K (a.put (φ d) (η #[ζ (φ ⟨b,0,ν⟩) 1 1,ξ κ z,ξ κ z])) W):wpOp prog dI Q i K a W:=by
 refine AU ho hg ?_
 have e:=ev h1;have e':=ev h2;obtain⟨d,op,ty,ps,af,gu⟩:=o;simp only at ag hd hg;subst ag hd hg;clear ho;go_simp;exact h
def aqz{b:Nat}{K:Act->Ψ->Prop}{Q:Exit->Act->Ψ->Prop}(h1:a.tmps[310]?=φ (η #[ζ (φ ⟨b,0,ν⟩) 1 1,ξ κ 4,ξ κ 4]))(h2:a.tmps[313]?=φ (η #[ζ (φ ⟨c,0,ν⟩) 1 1,ξ κ 2,ξ κ 2]))
 (h:K (a.put (φ 314) (ζ (φ ⟨W.heap.size,0,ν⟩) 2 2)) (W.alloc (Ξ #[ζ (φ ⟨b,0,ν⟩) 1 1,ξ κ 4,ξ κ 4,ζ (φ ⟨c,0,ν⟩) 1 1,ξ κ 2,ξ κ 2] 95))):wpOp prog dI Q 8 K a W:=by
 obtain⟨o,ho,ag,hd,hg⟩:=aeK;refine AU ho hg ?_
 have e:=ev h1;have e':=ev h2;obtain⟨d,op,ty,ps,af,gu⟩:=o;simp only at ag hd hg;subst ag hd hg;clear ho;go_simp;exact h
def aqy{A:Option Addr}{u:υ}{K:Act->Ψ->Prop}{Q:Exit->Act->Ψ->Prop}(h1:a.tmps[316]?=φ (π (φ ⟨gE,3,ν⟩)))(h2:a.tmps[315]?=φ (.slice A k c))(hc: W.cell? ⟨gE,3,ν⟩=φ u)(hf: W.frozen? ⟨gE,3,ν⟩=χ)(h:K a (W.setCell ⟨gE,3,ν⟩ (.slice A k c))):wpOp prog dI Q 11 K a W:=by
 obtain⟨o,ho,ag,hd,hg⟩:=aeD;refine AU ho hg ?_
 have e:=ev h1;have e':=ev h2;obtain⟨d,op,ty,ps,af,gu⟩:=o;simp only at ag hd hg;subst ag hd hg;clear ho;go_simp;exact h
def aqw{b:Nat}{K:Act->Ψ->Prop}{Q:Exit->Act->Ψ->Prop}(hx:j6 w0 w gE gp gb gk gt gl gc g3)(iC:cV w (λk=>k=gE\/k=gt) 2 Cut.R (.slice cu n25 cw) nE)
 (hb:Γ w.heap.size w W)(h1:a.tmps[307]?=φ (ζ (φ ⟨gt,0,ν⟩) 1 1))(h2:a.tmps[314]?=φ (ζ (φ ⟨b,0,ν⟩) 2 2))
 (hn:Bk W b 95 #[ζ (φ ⟨g1,0,ν⟩) 1 1,ξ κ 4,ξ κ 4,ζ (φ ⟨g2,0,ν⟩) 1 1,ξ κ 2,ξ κ 2])(b1:Bk W g1 3 #[ξ κ 0])(b2:Bk W g2 3 #[ξ κ 2])
 (h:∀v w',LJ gE gp gb gt (.slice cu n25 cw) w' v->K (a.put (φ 315) v) w'):wpOp prog dI Q 9 K a W:=by
 obtain⟨o,ho,ag,hd,hg⟩:=aeL;obtain⟨i0,cJ,cK,aO,aZ⟩:=info_parts Fz;have ate:w.ownsRow w0.heap.size 95 3 (ζ (φ ⟨gt,0,ν⟩) 1 1) 1 [ζ (φ ⟨gl,0,ν⟩) 2 2,ξ κ 7,ξ κ 7]:=
  ⟨rfl,.inr ⟨gt,1,_,rfl,hx.ex.ht,hx.ex.t,ϊ _,by unfold ϑ;omega,rfl,rfl⟩⟩
 have amT:W.ownsRow w0.heap.size 95 3 (ζ (φ ⟨gt,0,ν⟩) 1 1) 1 [ζ (φ ⟨gl,0,ν⟩) 2 2,ξ κ 7,ξ κ 7]:=
  ⟨rfl,.inr ⟨gt,1,_,rfl,hx.ex.ht,hx.ex.t.below hb hx.ex.t.lt,ϊ _,by unfold ϑ;omega,rfl,rfl⟩⟩
 have lw:w0.heap.size<=W.heap.size:=Nat.le_trans hx.below.size hb.size;refine wpOp_step ho λK' hK=>?_
 refine oe (Q:=Q) hg (.tmp 307) (.tmp 314) 24 ag w0.heap.size 95 i0 (η #[ζ ν 0 0,ξ κ 0,ξ κ 0]) 3 40 (U Tryz.underlying24) cJ cK aO aZ rfl (by decide) (ζ (φ ⟨gt,0,ν⟩) 1 1) 1 _ (ev h1) amT ⟨b,0,ν⟩ 2 2
  [ζ (φ ⟨g1,0,ν⟩) 1 1,ξ κ 4,ξ κ 4,ζ (φ ⟨g2,0,ν⟩) 1 1,ξ κ 2,ξ κ 2] (ev h2) rfl (λj u hu=>by
    rw[kP];have:=hn.cell j;exact(by simpa using this.trans (by simpa using hu))) (by simp[Value.oneCell']) (by simp only[ϑ];omega) (by omega) lw ?_
 intro v' w6 aH gK;rw[hd];refine hK _ _ (h _ _ ?_)
 obtain⟨hE,xe,hB,hR⟩:=apT hx hb b1 b2 aH gK;obtain⟨A',n',c',rfl⟩:=ld aH;exact⟨hE,A',n',c',rfl,xe,hB,(hR iC).row⟩
end
set_option maxRecDepth 4000 in
def aoe(hs:Sl [(1,π (φ ⟨gE,0,ν⟩)),(5,ξ κ 0),(7,ξ κ 0),(25,.slice cu n25 cw),(26,ξ κ 1)] a)
 (hx:j6 w0 w gE gp gb gk gt gl gc g3)(iC:cV w (λk=>k=gE\/k=gt) 2 Cut.R (.slice cu n25 cw) nE):
 tN.wp prog (dK λa W=>∃A n c,Sl [(1,π (φ ⟨gE,0,ν⟩)),(5,ξ κ 0),(7,ξ κ 0),(25,.slice cu n25 cw),(26,ξ κ 1)] a/\
  Bk W gE 26 #[ξ κ 1,ζ (φ ⟨gp,0,ν⟩) 3 3,ζ (φ ⟨gb,0,ν⟩) 2 2,.slice A n c]/\aQ W W.heap.size BN (ζ (φ ⟨gp,0,ν⟩) 3 3) (ζ (φ ⟨gb,0,ν⟩) 2 2) (.slice A n c)/\Row W W.heap.size 2 Cut.R (.slice cu n25 cw) nE) a w:=by
 rw[apK];refine wp_region_any (by kernel_rfl) ?_
 have hm:∀p∈([(1,π (φ ⟨gE,0,ν⟩)),(5,ξ κ 0),(7,ξ κ 0),(25,.slice cu n25 cw),(26,ξ κ 1)]:List (Nat×υ)),p.1<306:=by simp
 refine aqU (Bl [(1,π (φ ⟨gE,0,ν⟩)),(5,ξ κ 0),(7,ξ κ 0),(25,.slice cu n25 cw),(26,ξ κ 1)] w gE gp gb gt (.slice cu n25 cw)) ?step ?fin (λl a w h=>adZ (by rw[h.cnt,C5]) h.sz) dI.size 0 _ a _ (by omega) ?start
 case start=>
  rw[C5];exact⟨by simp,by simp,λk hk=>by simp[Akw] at hk;split at hk<;>simp at hk,hs,.inl ⟨by simp,dT (í _ _),λk _ hk=>by simp[Akw] at hk;split at hk<;>simp at hk⟩⟩
 case fin=>
  intro n l a W h hr;have xa:=Hw (l:=l) (i:=11) (by rw[h.sz];omega) θ χ
  have qm:=Hw (l:=l) (i:=10) (by rw[h.sz];omega) θ χ
  have h9:=Hw (l:=l) (i:=9) (by rw[h.sz];omega) θ χ
  rw[L5 hr 11 (by omega)] at xa
  rw[L5 hr 10 (by omega)] at qm
  rw[L5 hr 9 (by omega)] at h9
  rcases h.ph with h'|h'|h'| ⟨-,v,A,n,c,rfl,h1,h2,h3⟩
  ·rw[<-h9] at h';cases h'.1
  ·rw[<-qm] at h';cases h'.2.1
  ·rw[<-xa] at h';cases h'.2.1
  ·exact⟨A,n,c,h.sl,h1,h2,h3⟩
 case step=>
  intro n l a W i K h hi hK;obtain⟨EI,xC,fM⟩:=JM.1 hi;rw[C5] at EI;have e1:a.tmps[1]?=φ (π (φ ⟨gE,0,ν⟩)):=h.sl.get (by simp)
  have Ot:=h.sz;have eK:=h.sl.2.1;have eU:l.getD i χ=χ:=(Hw (by omega) _ _).trans xC
  rcases h.ph with⟨h9,hb,hf⟩ | ⟨h9,qm,v,hv,hM⟩ | ⟨qm,xa,v,hv,hp,hM⟩ | ⟨xa,v,hF⟩
  ·have one:=λ{v:υ} {W':Ψ} (xD:i<9) (hW:Γ W.heap.size W W') (hv:FV gE gt i W' v)=>hK _ _ (h.one hm h9 hb hf hi xD hW hv)
   match i,EI with
   |0,_=>obtain⟨o,ho,ag,hd,hg⟩:=aeA;exact Zt ho ag hd hg e1 (one (by omega) (í _ _) rfl)
   |1,_=>
    obtain⟨v,hv,Fi⟩:=hf 0 (by omega) (fM 0 (by rw[ZH];simp))
    exact aqx (hv.trans (congrArg φ Fi)) ((hx.bE.below hb hx.bE.lt).cell 3) (one (by omega) (í _ _) rfl)
   |2,_=>obtain⟨o,ho,ag,hd,hg⟩:=aeE;exact Zu ho ag hd hg (one (by omega) ((í _ _).alloc (ϊ _) _) ⟨_,rfl,Bk.new _ _ _⟩)
   |3,_=>obtain⟨o,ho,ag,hd,hg⟩:=aeF;exact Zv ho ag hd hg (one (by omega) ((í _ _).alloc (ϊ _) _) rfl)
   |4,_=>
    obtain⟨v,hv,b,rfl,h1⟩:=hf 2 (by omega) (fM 2 (by rw[Km];simp))
    obtain⟨u,hu,rfl⟩:=hf 3 (by omega) (fM 3 (by rw[Km];simp))
    obtain⟨o,ho,ag,hd,hg⟩:=aeG;exact Zw ho ag hd hg hv hu (one (by omega) (í _ _) ⟨b,rfl,h1⟩)
   |5,_=>obtain⟨o,ho,ag,hd,hg⟩:=aeH;exact Zu ho ag hd hg (one (by omega) ((í _ _).alloc (ϊ _) _) ⟨_,rfl,Bk.new _ _ _⟩)
   |6,_=>obtain⟨o,ho,ag,hd,hg⟩:=aeI;exact Zv ho ag hd hg (one (by omega) ((í _ _).alloc (ϊ _) _) rfl)
   |7,_=>
    obtain⟨v,hv,b,rfl,h1⟩:=hf 5 (by omega) (fM 5 (by rw[Rc];simp))
    obtain⟨u,hu,rfl⟩:=hf 6 (by omega) (fM 6 (by rw[Rc];simp))
    obtain⟨o,ho,ag,hd,hg⟩:=aeJ;exact Zw ho ag hd hg hv hu (one (by omega) (í _ _) ⟨b,rfl,h1⟩)
   |8,_=>
    obtain⟨v,hv,b,rfl,h1⟩:=hf 4 (by omega) (fM 4 (by rw[Re];simp))
    obtain⟨u,hu,c,rfl,h2⟩:=hf 7 (by omega) (fM 7 (by rw[Re];simp))
    have hB:Γ W.heap.size W (W.alloc (Ξ #[ζ (φ ⟨b,0,ν⟩) 1 1,ξ κ 4,ξ κ 4,ζ (φ ⟨c,0,ν⟩) 1 1,ξ κ 2,ξ κ 2] 95)):=(í _ _).alloc (ϊ _) _;exact aqz hv hu (one (by omega) hB ⟨_,b,c,rfl,Bk.new _ _ _,h1.below hB h1.lt,h2.below hB h2.lt⟩)
   |9,_=>
    obtain⟨v,hv,rfl⟩:=hf 1 (by omega) (fM 1 (by rw[Rf];simp))
    obtain⟨u,hu,d,b,c,rfl,h0,h1,h2⟩:=hf 8 (by omega) (fM 8 (by rw[Rf];simp))
    obtain⟨n1,n2,n3⟩:=h.next hi;refine aqw hx iC hb hv hu h0 h1 h2 λv w' hM=>hK _ _ ⟨n1,n2,n3,QA h.sl hm (by omega) v,.inr (.inl ⟨M9 (by omega) _,?_,v,?_,hM⟩)⟩
    ·rw[Akz χ (by omega)]
     cases qm:l.getD 10 χ with
     |false=>rfl
     |true=>rw[h.cl 10 qm 9 (by rw[Gs];simp)] at h9;cases h9
    ·simp only[É]
     rw[Ù,if_pos rfl,if_pos (by omega)]
   |10,_=>rw[fM 9 (by rw[Gs];simp)] at h9;cases h9
   |11,_=>rw[h.cl 10 (fM 10 Kl) 9 (by rw[Gs];simp)] at h9;cases h9
  ·have c8:=h.cl 9 h9
   rw[Rf] at c8;have f8:=c8 8 (by simp)
   have f1:=c8 1 (by simp)
   have f6:=c8 6 (by simp)
   have c4:=h.cl 8 f8;rw[Re] at c4;have f4:=c4 4 (by simp)
   have f7:=c4 7 (by simp)
   have f0:=h.cl 1 f1 0 (by rw[ZH];simp)
   have f2:=h.cl 4 f4 2 (by rw[Km];simp)
   have f3:=h.cl 4 f4 3 (by rw[Km];simp)
   have f5:=h.cl 7 f7 5 (by rw[Rc];simp)
   match i,EI with
   |0,_=>rw[f0] at eU;cases eU
   |1,_=>rw[f1] at eU;cases eU
   |2,_=>rw[f2] at eU;cases eU
   |3,_=>rw[f3] at eU;cases eU
   |4,_=>rw[f4] at eU;cases eU
   |5,_=>rw[f5] at eU;cases eU
   |6,_=>rw[f6] at eU;cases eU
   |7,_=>rw[f7] at eU;cases eU
   |8,_=>rw[f8] at eU;cases eU
   |9,_=>rw[h9] at eU;cases eU
   |10,_=>
    obtain⟨n1,n2,n3⟩:=h.next hi;obtain⟨o,ho,ag,hd,hg⟩:=aeC;refine Zt ho ag hd hg e1 (hK _ _ ⟨n1,n2,n3,QA h.sl hm (by omega) _,.inr (.inr (.inl ⟨M9 (by omega) _,?_,v,?_,?_,hM⟩))⟩)
    ·rw[Akz χ (by omega)]
     cases xa:l.getD 11 χ with
     |false=>rfl
     |true=>rw[h.cl 11 xa 10 Kl] at qm;cases qm
    ·simp only[É]
     rw[Ù,if_neg (by omega)];exact hv
    ·simp only[É]
     rw[Ù,if_pos rfl,if_pos (by omega)]
   |11,_=>rw[fM 10 Kl] at qm;cases qm
  ·have c10:=h.cl 10 qm
   rw[Gs] at c10;have agz:i=11:=by
    apply Classical.byContradiction;intro aw;rcases Nat.lt_or_ge i 10 with h'|h'
    ·have:=c10 i (by simp;omega)
     rw[this] at eU;cases eU
    ·have:i=10:=by omega
     subst this;rw[qm] at eU;cases eU
   subst agz;obtain⟨n1,n2,n3⟩:=h.next hi;obtain⟨hE,A,k,c,rfl,hF⟩:=hM;have xe:Bk W gE 26 _:=hE;exact aqy hp hv (xe.cell 3) (xe.frozen 3) (hK _ _ ⟨n1,n2,n3,h.sl,.inr (.inr (.inr ⟨M9 (by omega) _,_,A,k,c,rfl,hF⟩))⟩)
  ·have Th:=h.cl 11 xa 10 Kl
   have c10:=h.cl 10 Th;rw[Gs] at c10;exfalso;rcases Nat.lt_or_ge i 10 with h'|h'
   ·have:=c10 i (by simp;omega)
    rw[this] at eU;cases eU
   ·have:i=10\/i=11:=by omega
    rcases this with rfl|rfl
    ·rw[Th] at eU;cases eU
    ·rw[xa] at eU;cases eU
def aoA(w:Ψ)(x:Nat->υ):fu prog [vV,vW,vX] (dK (FA w)) ⟨(lit x).toArray,[cQ]⟩ w:=by
 unfold lit;unfold fu fu fu fu;simp only[vV,vW,vX,iM,iL,iK,iS,Tryz.f21,bp,aS,ϻ];go_wp2_with (first
  | (go_at_call 94;refine(afx _).mono ?_;rintro e w1 ⟨gp,gb,gk,gt,gl,rfl,hex,ai⟩
     have HX:=ψ (Ϗ hex ai);clear hex ai)
  | (go_at_call 95;refine(ael _).mono ?_;rintro e w2 ⟨gc,rfl,zT,eu,an⟩
     have Sb:=ψ (Ϗ zT (Ϗ eu an));clear zT eu an))
 have EH:Bk (w2.alloc (Ξ #[ξ κ 1,ζ (φ ⟨gp,0,ν⟩) 3 3,ζ (φ ⟨gb,0,ν⟩) 2 2,ζ (φ ⟨gt,0,ν⟩) 1 1] 26)) gc 56 #[ξ κ 1,ξ κ 0,ξ κ 0,ξ κ 0,ξ κ 0,ξ κ 4]:=Sb.e.2.1.alloc _;have Nn:Bk (w2.alloc (Ξ #[ξ κ 1,ζ (φ ⟨gp,0,ν⟩) 3 3,ζ (φ ⟨gb,0,ν⟩) 2 2,ζ (φ ⟨gt,0,ν⟩) 1 1] 26)) w2.heap.size 26 #[ξ κ 1,ζ (φ ⟨gp,0,ν⟩) 3 3,ζ (φ ⟨gb,0,ν⟩) 2 2,ζ (φ ⟨gt,0,ν⟩) 1 1]:=Bk.new _ _ _;have rN:Γ w2.heap.size w2 (w2.alloc (Ξ #[ξ κ 1,ζ (φ ⟨gp,0,ν⟩) 3 3,ζ (φ ⟨gb,0,ν⟩) 2 2,ζ (φ ⟨gt,0,ν⟩) 1 1] 26)):=(í _ _).alloc (ϊ _) _;generalize (w2.alloc (Ξ #[ξ κ 1,ζ (φ ⟨gp,0,ν⟩) 3 3,ζ (φ ⟨gb,0,ν⟩) 2 2,ζ (φ ⟨gt,0,ν⟩) 1 1] 26))=V at EH Nn rN |-
 have c0: V.cell? ⟨gc,0,ν⟩=φ (ξ κ 1):=EH.cell 0;have c1: V.cell? ⟨gc,1,ν⟩=φ (ξ κ 0):=EH.cell 1;have c2: V.cell? ⟨gc,2,ν⟩=φ (ξ κ 0):=EH.cell 2;have c3: V.cell? ⟨gc,3,ν⟩=φ (ξ κ 0):=EH.cell 3;have lc:gc<V.heap.size:=EH.lt;have lc':gc<=V.heap.size:=by omega
 have HV:=ψ (Ϗ EH (Ϗ Nn rN));clear EH Nn rN;go_region_with (go_at_call 66;refine(dt _ _ _).mono ?_;rintro e w3 ⟨rfl,rfl⟩)
 all_goals
  show FA w _ _;refine⟨rfl,rfl,rfl,_,gp,gb,gk,gt,gl,gc,_,rfl,rfl,rfl,?_⟩
  have eL:=Sb.e.2.2;have aO:=HX.e.2.size;have aZ:=eL.size;have h0:yQ V w.heap.size gp gb gk gt gl:=⟨(HX.e.1.p.below eL HX.e.1.p.lt).below HV.e.2.2 (HX.e.1.p.below eL HX.e.1.p.lt).lt,(HX.e.1.b.below eL HX.e.1.b.lt).below HV.e.2.2 (HX.e.1.b.below eL HX.e.1.b.lt).lt,(HX.e.1.k.below eL HX.e.1.k.lt).below HV.e.2.2 (HX.e.1.k.below eL HX.e.1.k.lt).lt,(HX.e.1.t.below eL HX.e.1.t.lt).below HV.e.2.2 (HX.e.1.t.below eL HX.e.1.t.lt).lt,(HX.e.1.l.below eL HX.e.1.l.lt).below HV.e.2.2 (HX.e.1.l.below eL HX.e.1.l.lt).lt,HX.e.1.hp,HX.e.1.hb,HX.e.1.hk,HX.e.1.ht,HX.e.1.hl⟩;have dk:Γ w.heap.size w V:=(HX.e.2.trans (eL.mono aO)).trans (HV.e.2.2.mono (by omega))
  exact afB h0 HV.e.2.1 HV.e.1 dk (by omega)
def FD(w0:Ψ)(a:Act)(w:Ψ):Prop:=∃gE gp gb gk gt gl gc g3 dF n22 c22 cu n25 cw eG n28 eI jI n31 jN,
 Sl [(0,.bool χ),(1,π (φ ⟨gE,0,ν⟩)),(2,ζ (φ ⟨gc,0,ν⟩) 3 3),(3,ζ (φ ⟨g3,0,ν⟩) 3 3),(5,ξ κ 0),(7,ξ κ 0),(9,ξ κ 0),(11,ξ κ 0),(13,ξ κ 0),(15,ξ κ 0),(20,ξ κ 1),(21,ξ κ 0),(22,.slice dF n22 c22),(23,ζ ν 0 0),(24,ξ κ 8),(25,.slice cu n25 cw),(26,ξ κ 2),(27,.bool θ),(28,.slice eG n28 eI),(29,ξ κ 14),(30,.bool θ),(31,.slice jI n31 jN)] a/\
 j6 w0 w gE gp gb gk gt gl gc g3/\Row w w.heap.size 1 bI (.slice dF n22 c22) [1,1]/\Row w w.heap.size 2 Cut.R (.slice cu n25 cw) ea/\Row w w.heap.size 2 Cut.R (.slice eG n28 eI) ea/\Row w w.heap.size 1 bI (.slice jI n31 jN) [0,1]
def FE(a:Act)(w:Ψ):Prop:=∃cu n25 cw qO n35 jO,Sl [(5,ξ κ 0),(7,ξ κ 0),(9,ξ κ 0),(25,.slice cu n25 cw),(26,ξ κ 1),(35,.slice qO n35 jO)] a/\
 Row w w.heap.size 2 Cut.R (.slice cu n25 cw) nE/\Row w w.heap.size 1 bI (.slice qO n35 jO) [0,1,2]
def afa:BH BN=[0,1,2]:=by decide+kernel
def JR{sz:Nat}{R:α->List υ->Prop}{xs:List α}(h:Row w B sz R v xs):∃A n c,v=.slice A n c:=by
 obtain⟨A,c,e,_⟩:=h;exact⟨A,_,c,e⟩
def aoz(hm:gF w0)(hf:FD w0 a w):fu prog [yB,yC,yD,yE,tN,yF] (dK FE) a w:=by
 obtain⟨gE,gp,gb,gk,gt,gl,gc,g3,dF,n22,c22,cu,n25,cw,eG,n28,eI,jI,n31,jN,hs,hx,kZ,iC,nO,Ak⟩:=hf;refine jZ (aoa (W:=λw'=>Γ w.heap.size w w') hs hx.bE ?c19) ?_
 case c19=>
  refine(acn (ϊ _) (l8 hx.ex) D5).mono ?_
  rintro e w' ⟨rfl,hb⟩;exact⟨by rw[ae8],hb⟩
 rintro a w1 ⟨hs,hb⟩;replace hx:=hx.grown hb;replace kZ:=fP kZ hb;replace iC:=fP iC hb;replace nO:=fP nO hb;replace Ak:=fP Ak hb;clear hb;refine jZ (aob hs hx.lC kZ iC nO Ak) ?_
 rintro a w2 ⟨hs,hb⟩;replace hx:=hx.grown hb;clear hb kZ iC nO Ak;refine jZ (aoc (W:=λAp np cp Ab nb cb At nt ct w'=>aQ w' w'.heap.size (fH bg hJ) (.slice Ap np cp) (.slice Ab nb cb) (.slice At nt ct)/\Γ w2.heap.size w2 w') hs hx.bE ?c21) ?_
 case c21=>
  refine(aid (x:=hJ) (kv:=ζ ν 0 0) (ϊ _) (l8 hx.ex) (by show PT.size<=ϑ;decide) Row.nil zi ae6).mono ?_
  rintro e w' ⟨fE,gH,ez,rfl,ah,hb⟩;obtain⟨Ap,np,cp,rfl⟩:=JR ah.pieces;obtain⟨Ab,nb,cb,rfl⟩:=JR ah.aC;obtain⟨At,nt,ct,rfl⟩:=JR ah.aI;exact⟨Ap,np,cp,Ab,nb,cb,At,nt,ct,rfl,ah,hb⟩
 rintro a w3 ⟨Ap,np,cp,Ab,nb,cb,At,nt,ct,ss,⟨ah,hb⟩,hs,rfl⟩;have an:Γ w2.heap.size w2 (ss.alloc (Ξ #[ξ κ 1,.slice Ap np cp,.slice Ab nb cb,.slice At nt ct] 26)):=hb.alloc hb.size _;replace hx:=hx.grown an;have pG:Γ ss.heap.size ss (ss.alloc (Ξ #[ξ κ 1,.slice Ap np cp,.slice Ab nb cb,.slice At nt ct] 26)):=(í _ _).alloc (ϊ _) _;have ahf:=ah.still (Δ.aJ pG (ϊ _));have hn:Bk (ss.alloc (Ξ #[ξ κ 1,.slice Ap np cp,.slice Ab nb cb,.slice At nt ct] 26)) ss.heap.size 26 #[ξ κ 1,.slice Ap np cp,.slice Ab nb cb,.slice At nt ct]:=Bk.new _ _ _;have aN:ss.heap.size<=(ss.alloc (Ξ #[ξ κ 1,.slice Ap np cp,.slice Ab nb cb,.slice At nt ct] 26)).heap.size:=pG.size;generalize (ss.alloc (Ξ #[ξ κ 1,.slice Ap np cp,.slice Ab nb cb,.slice At nt ct] 26))=w3 at *;refine jZ (aod (W:=λA n c w'=>cV w' (λk=>k=gE\/k=gt) 2 Cut.R (.slice A n c) nE/\Γ w3.heap.size w3 w') hs hn ?c22) ?_
 case c22=>
  refine(Hq aN ahf (aal hm hx)).mono ?_
  rintro e w' ⟨cv,mv,fv,rfl,eW,gU⟩;rw[ae7] at eW;obtain⟨ho,rfl,rfl⟩:=eW;obtain⟨A,k,c,rfl⟩:=iI ho;have h0:bT (fH bg hJ) 0=0:=by decide+kernel
  exact⟨A,k,c,by rw[h0],cV.tt (xs:=nE) ho (λ_=>rfl) (λ_ _=>rfl) (λk hk=>by
   rcases hk with rfl|rfl
   ·exact hx.bE.lt
   ·exact hx.ex.t.lt),gU⟩
 rintro a w4 ⟨aax,al3,ac3,hs,iC,hb⟩;replace hx:=hx.grown hb;clear hb;refine jZ (aoe hs hx iC) ?_
 rintro a w5 ⟨At',nt',ct',hs,hbE,ahg,hr⟩;refine jZ (aof (W:=λA n c w'=>Row w' w'.heap.size 1 bI (.slice A n c) [0,1,2]/\Γ w5.heap.size w5 w') hs hbE ?c24) ?_
 case c24=>
  refine(ady (ϊ _) ahg afu).mono ?_
  rintro e w' ⟨v,rfl,dE,hb⟩;rw[afa] at dE;obtain⟨A,n,c,rfl⟩:=JR dE;exact⟨A,n,c,rfl,dE,hb⟩
 rintro a w6 ⟨qO,n35,jO,hs,IY,hb⟩;exact⟨_,_,_,qO,n35,jO,hs,fP hr hb,IY⟩
end
end Go.Jn
namespace Go.Jn
open Go Go.Proofs Go.Sim Go.Conc Go.Tw
def nZ:Array Oper:=opsOf Kb
def apJ:∃id,Kb=.region id nZ χ:=⟨_,rfl⟩
def n18:nZ.size=7:=by decide+kernel
def amt:∃o,nZ[0]?=φ o/\o.op=.load 26 (.tmp 1)/\o.dst=φ 197/\o.guard=ν/\k8 ϋ G0 o=θ:=by
 have h:k8 ϋ G0 (nZ[0]'(by rw[n18];omega))=θ:=by decide+kernel
 exact⟨_,rfl,rfl,rfl,rfl,h⟩
def XI:∃o,nZ[1]?=φ o/\o.op=.call {callee:=.value (.func 38),args:=#[.tmp 197],argTypes:=#[26]}/\o.dst=φ 198/\o.guard=ν:=⟨_,rfl,rfl,rfl,rfl⟩
def amu:∃o,nZ[2]?=φ o/\o.op=.move (.tmp 198)/\o.dst=φ 196/\o.guard=ν:=⟨_,rfl,rfl,rfl,rfl⟩
def amv:∃o,nZ[3]?=φ o/\o.op=.extract (.tmp 196) 0/\o.dst=φ 199/\o.guard=ν:=⟨_,rfl,rfl,rfl,rfl⟩
def amw:∃o,nZ[4]?=φ o/\o.op=.extract (.tmp 196) 1/\o.dst=φ 200/\o.guard=ν:=⟨_,rfl,rfl,rfl,rfl⟩
def amx:∃o,nZ[5]?=φ o/\o.op=.assign (.tmp 199)/\o.dst=φ 31/\o.guard=ν:=⟨_,rfl,rfl,rfl,rfl⟩
def amy:∃o,nZ[6]?=φ o/\o.op=.assign (.tmp 200)/\o.dst=φ 15/\o.guard=ν:=⟨_,rfl,rfl,rfl,rfl⟩
def ahQ:wF nZ 349 1 197 198 196 199 200 31 15:=⟨n18,amt,XI,amu,amv,amw,amx,amy,by decide⟩
def om(w:Ψ):Ψ:={w with heap:=#[.cells #[.func (.func 234) #[] #[],.func (.func 236) #[] #[]] 146 (0,2)]}
def r0:Ren:=λa b=>a=0/\b=0
def Uu(ρ:Ren)(f:FuncId):aj ρ (.func (.func f) #[] #[]) (.func (.func f) #[] #[]):=.func (.func f) rfl (λi hi _=>absurd hi (by simp)) rfl (λi hi _=>absurd hi (by simp))
def aqO{C:bX}(h:sD w):cg C r0 (om w) w:=by
 obtain⟨fr,h⟩:=h;refine⟨?_,?_,?_,?_,?_⟩
 ·rintro a b ⟨rfl,rfl⟩;simp[om]
 ·rintro a b ⟨rfl,rfl⟩;exact(ϛ.1 h).1
 ·rintro a b b' ⟨rfl,rfl⟩ ⟨_,rfl⟩;rfl
 ·rintro a a' b ⟨rfl,rfl⟩ ⟨rfl,_⟩;rfl
 ·rintro a b o ⟨rfl,rfl⟩ ho
  have e:o=.cells #[.func (.func 234) #[] #[],.func (.func 236) #[] #[]] 146 (0,2):=by simpa [om] using ho.symm
  subst e;refine⟨_,h,.cells 146 ⟨rfl,λi h1 h2=>?_⟩ (.inr ⟨rfl,ϊ _⟩)⟩
  match i,h1,h2 with
  |0,_,_=>exact Uu _ _
  |1,_,_=>exact Uu _ _
  |i+2,h1,_=>exact absurd h1 (by simp)
def aqP:bO (om w).heap:=by
 intro o ho hb;have e:o=.cells #[.func (.func 234) #[] #[],.func (.func 236) #[] #[]] 146 (0,2):=by simpa [om] using ho
 subst e;exact hb
def Ra(T:Tape):gF (bq (om w) T):=⟨(0,2),rfl⟩
def Q9(b:Nat):ot r0 (om w) b:=by
 rintro a ⟨rfl,_⟩;exact⟨_,rfl,rfl,ϊ _⟩
def afw{S:Nat->Prop}{base:Nat}(h:yQ W base gp gb gk gt gl):GF S W W.heap.size bg (ζ (φ ⟨gp,0,ν⟩) 3 3) (ζ (φ ⟨gb,0,ν⟩) 2 2) (ζ (φ ⟨gt,0,ν⟩) 1 1):=by
 letI:=jC
 have sv:∀(g n c:Nat),n≠0->Sv S (ζ (φ ⟨g,0,ν⟩) n c):=λg n c hn A n' c' e h0=>by
  injection e with _ e2 _;omega
 refine⟨(l8 h).pieces,?_,?_,sv _ _ _ (by omega),sv _ _ _ (by omega),sv _ _ _ (by omega)⟩
 ·have:=za (xs:=BM gk) (sz:=3) (f:=fc) (R:=λp cs=>cs=fc p) h.b (by show 2<=1000;decide) (λ_=>rfl) (λ_ _=>rfl) rfl
  refine tD (ps:=BM gk) this (λp hm cs hc=>?_)
  subst hc;simp only[BM,Ϧ,Λ,or_false] at hm;rcases hm with rfl|rfl
  ·refine⟨⟨_,rfl,(by show uS.name.size<=ϑ;decide),Mm [⟨3,3⟩] (by decide) h.k rfl⟩,λu hu=>?_⟩
   simp only[fc,Ϧ,Λ,or_false] at hu;rcases hu with rfl|rfl|rfl
   ·intro A n c e;cases e
   ·intro A n c e;cases e
   ·exact sv _ _ _ (by omega)
  ·refine⟨⟨_,rfl,by decide,Row.nil⟩,λu hu=>?_⟩
   simp only[fc,Ϧ,Λ,or_false] at hu;rcases hu with rfl|rfl|rfl<;>(intro A n c e;cases e)
 ·have:=za (xs:=[((⟨[0,2],⟨7,7⟩⟩:Tw.Tape),Value.slice (φ ⟨gl,0,ν⟩) 2 2)]) (sz:=3) (f:=cE) (R:=λp cs=>cs=cE p) h.t (by show 1<=1000;decide) (λ_=>rfl) (λ_ _=>rfl) rfl
  refine tD this (λp hm cs hc=>?_)
  subst hc;simp only[Ϧ,Λ,or_false] at hm;subst hm;refine⟨⟨_,rfl,sJ [0,2] (by decide) h.l rfl⟩,λu hu=>?_⟩
  simp only[cE,Ϧ,Λ,or_false] at hu;rcases hu with rfl|rfl|rfl
  ·exact sv _ _ _ (by omega)
  ·intro A n c e;cases e
  ·intro A n c e;cases e
abbrev MU(gp gb gt:Nat):υ:=η #[.int .i64 1,ζ (φ ⟨gp,0,ν⟩) 3 3,ζ (φ ⟨gb,0,ν⟩) 2 2,ζ (φ ⟨gt,0,ν⟩) 1 1]
def adC:∀c∈ [yB,yC,yD,yE,tN,yF],C0.clean c:=by
 have h: [yB,yC,yD,yE,tN,yF].all (cC ϋ G0)=θ:=by decide+kernel
 intro c hc;exact ġ.1 h c hc
def adD:C0.clean yJ:=by
 have h:cC ϋ G0 yJ=θ:=by decide+kernel
 exact h
def anE:Tryz.f21.results=#[.tmp 0]:=rfl
def afl:KU bg=[0,1]:=by decide+kernel
def afA(h:j6 w0 w gE gp gb gk gt gl gc g3)(T:Tape):j6 (bq w0 T) (bq w T) gE gp gb gk gt gl gc g3:=
 ⟨⟨h.ex.p,h.ex.b,h.ex.k,h.ex.t,h.ex.l,h.ex.hp,h.ex.hb,h.ex.hk,h.ex.ht,h.ex.hl⟩,h.bE,h.bc,h.b3,⟨h.below.os,rfl,h.below.output,h.below.size,h.below.block⟩,h.lE⟩
def afK(h:FD w0 a w)(T:Tape):FD (bq w0 T) a (bq w T):=by
 obtain⟨gE,gp,gb,gk,gt,gl,gc,g3,dF,n22,c22,cu,n25,cw,eG,n28,eI,jI,n31,jN,hs,hx,h1,h2,h3,h4⟩:=h;exact⟨gE,gp,gb,gk,gt,gl,gc,g3,dF,n22,c22,cu,n25,cw,eG,n28,eI,jI,n31,jN,hs,afA hx T,h1,h2,h3,h4⟩
def apj{base:Nat}{arg:υ}(hm:gF wl)(hx:yQ wl base gp gb gk gt gl)(ha:aj ρ (MU gp gb gt) arg)(hW:cg C0 ρ wl w)(hg:ρ 0 0):
 KI bg (yl ρ (gY ρ wl w)) (rG ρ wl w) (ζ (φ ⟨gp,0,ν⟩) 3 3) (ζ (φ ⟨gb,0,ν⟩) 2 2) (ζ (φ ⟨gt,0,ν⟩) 1 1) wl.heap.size arg w:=by
 letI:=jC
 obtain⟨a',b',c',d',rfl,r1,r2,r3,r4⟩:=X6 ha;obtain⟨ah,p1,p2,p3⟩:=agd hW (afw (S:=gY ρ wl w) hx) ⟨_,r2⟩ ⟨_,r3⟩ ⟨_,r4⟩;have Ii:gY ρ wl w 0:=Yb hW (p:=⟨0,0,ν⟩) (hm.cell 0) hg;refine⟨agf hW,⟨hg,Ii⟩,agh,λa q h=>?_,Nat.le_of_eq Us.symm,ah,?_⟩
 ·obtain⟨o1,k1,b1,c,c',e,fr,ba,u,h1,h2,h3,h4,h5,h6,rfl⟩:=M7 h.2
  exact⟨_,k1,rfl,ϊ _⟩
 ·refine .agg rfl λi h1 h2=>?_
  match i,h1,h2 with
  |0,_,_=>exact Pv.rel r1 trivial
  |1,_,_=>exact Pv.rel r2 p1
  |2,_,_=>exact Pv.rel r3 p2
  |3,_,_=>exact Pv.rel r4 p3
  |i+4,h1,_=>exact absurd h1 (by simp)
def ahS{a:Nat}(h: [a,c,m,e0,e1,d0,d1].contains i=χ):(ib u a c m e0 e1 d0 d1 x ov s)[i]?=u[i]?:=by
 have h:¬i∈ [a,c,m,e0,e1,d0,d1]:=by simpa using h
 simp only[Ϧ,Λ,or_false,not_or] at h;obtain⟨h1,h2,h3,h4,h5,h6,h7⟩:=h;unfold ib;rw[bP (Ne.symm h7),bP (Ne.symm h6),bP (Ne.symm h5),bP (Ne.symm h4),bP (Ne.symm h3),bP (Ne.symm h2),bP (Ne.symm h1)]
def ahR{a:Nat}(h:d1≠d0)(hd:d0<u.size):(ib u a c m e0 e1 d0 d1 x ov s)[d0]?=φ ov:=by
 unfold ib;exact(bP h).trans (eX (by simpa using hd))
def ahX{a:Nat}(hd:d1<u.size):(ib u a c m e0 e1 d0 d1 x ov s)[d1]?=φ s:=by
 unfold ib;exact eX (by simpa using hd)
def agN{m0:Machine}{t0:Trace}{σ:Ren}{f r:Nat}{fn:Func}{c:Code}{fr:Frame}{cs:List Frame}(hc:C0.clean c)(h:sL m0 t0 W σ f (fr::cs) c ρ u wl)
 (hf:ϋ.funcs[f]?=φ fn)(hr:fn.results=#[.tmp r]){b:Bool}(hl:∀T,c.wp (@Tw.prog jC) (λe a _=>e=.ret/\a.defers=[cQ]/\a.tmps[r]?=φ (.bool b)) ⟨u,[cQ]⟩ (bq wl T)):
 ∃N gs w sl tr q,runNT ϋ N m0 t0=(.next (crowd gs w sl),tr)/\Fr ϋ gs w tr q (aT (fr.finish (.bool b)) cs)/\Base W w/\∀b,b<W.heap.size->w.heap[b]?=W.heap[b]?:=by
 obtain⟨N,gs,w,sl,tr,q,t,bh,hF,ht,H⟩:=h;obtain⟨N1,UE,M1,g1,w1,Qx,vH,q1,r1,-,⟨rfl,hB,hk⟩,mL⟩:=DK (Stop:=λ_ g w'=>g=aT (fr.finish (.bool b)) cs/\Base W w'/\∀b,b<W.heap.size->w'.heap[b]?=W.heap[b]?)
  (piece (S:=⟨.skip,[],[],fr::cs,.normal⟩) (c:=c) hc (a:=⟨u,[cQ]⟩) rfl rfl (QL:=λe a _=>e=.ret/\a.defers=[cQ]/\a.tmps[r]?=φ (.bool b)) (λT=>Code.wp_mono (λe a w h=>⟨.inr h.1,h⟩) (hl T)) H.core H.iy (Bu H.core) (λb hb=>ly.1 hb) H.nb ht (by
    rintro e arj ll ry Dj Ki atu ⟨rfl,gh,h0⟩ th ar4 zS VM xx iW ht3;refine⟨λh=>(by cases h),λ_ tW D' hD=>?_⟩
    rw[gh] at hD;have hD:=zh hD;subst hD;obtain⟨v',Fi,xU⟩:=JO ht3 h0;cases xU;have e0:Ki.getD r ω=.bool b:=cT Fi;refine lL rfl (g':=aT (fr.finish (.bool b)) cs) (λRg=>?_) (.stop λRg hk=>?_)
    ·have e:unwind ϋ θ ⟨f,Ki,tW,[],.returning,.normal,ν⟩ (fr::cs) ν Rg=.go (aT (fr.finish (.bool b)) cs) Rg #[]:=by
        unfold unwind;simp only[hf,results1 hr,vR,GStep.after,doReturn,e0];rfl
     exact e
    ·have H2:=H.AK th ar4 zS iW hk
     exact⟨rfl,H2.base,H2.kept⟩)) gs sl tr q hF (λb hb=>ly.1 hb)
 exact⟨N+N1,UE,w1,Qx,vH,q1,vO _ _ _ bh r1,mL,hB,hk⟩
def aoC:DC:=by
 letI:=jC
 intro gs w t q x fr cs sl hx hM hF;rw[BL Tryz.func21 acs x .normal] at hF;have hs:(x++ϭ (Tryz.f21.ntmps - x.size) ω).size=349:=by
  rw[Array.size_append,Array.size_replicate,show Tryz.f21.ntmps=349 from rfl];omega
 generalize (x++ϭ (Tryz.f21.ntmps - x.size) ω)=t' at hs hF;obtain⟨u,hu⟩:=MV r0 t';obtain⟨y,rfl,_⟩:=Xj u (hu.1.trans hs);have M0:sL (crowd gs w sl) t w r0 21 (fr::cs) (chain [vV,vW,vX,tO,tP,tQ,tR,tS,tT,tU,tF,tG,tH,tI,tJ,tK,tL,tM] (.seq Kb (chain [yB,yC,yD,yE,tN,yF] yJ))) r0 (lit y).toArray (om w):=
  ⟨0,gs,w,sl,t,q,t',rfl,hF,hu,aqO hM,⟨rfl,rfl⟩,aqP,λb _=>Q9 b,λ_ _=>rfl,G7 w,Ren.le_refl _⟩
 obtain⟨cF,u1,mn,⟨T,hf⟩,M1⟩:=Jb adB M0 (Q:=λu aa=>∃T,FC (bq (om w) T) ⟨u,[cQ]⟩ aa) (λT=>Gq (ju:=[]) (λa aa hf=>by
  obtain⟨_,_,_,_,_,_,_,_,_,_,_,_,_,_,_,_,_,xR,_⟩:=_root_.id hf;obtain⟨tm,D⟩:=a;obtain rfl:D=_:=xR.1;exact⟨rfl,rfl,T,hf⟩) _ (aov (Ra T) (aoA _ y)))
 obtain⟨gE,gp,gb,gk,gt,gl,gc,g3,dF,n22,c22,cu,n25,cw,eG,n28,eI,xR,hex,kZ,iC,nO⟩:=hf;obtain⟨id,e18⟩:=apJ;rw[e18] at M1;have hm:gF mn:=(Ra (w:=w) T).below hex.below (by simp[om,bq])
 obtain⟨bQ,gQ,T2,ol,M2,aH,rO⟩:=P9 ahQ M1 xR.2.1 (xR.2.2 (1,_) (by simp)) (b:=bg) hex.bE (λρ T' w' v' H hv=>⟨_,_,_,_,_,_,apj (wl:=bq mn T') hm (afA hex T').ex hv H.core H.iy⟩)
 have ag:bT bg 0=0:=D5;rw[je,if_pos ag,afl] at aH;rw[ag] at M2;obtain⟨jI,n31,jN,rfl⟩:=iI aH;have hFD:FD (bq (om w) T2) ⟨ib u1 197 198 196 199 200 31 15 (MU gp gb gt) (.slice jI n31 jN) (.int .i64 0),[cQ]⟩ gQ:=by
  have di:u1.size=349:=xR.2.1;refine⟨gE,gp,gb,gk,gt,gl,gc,g3,dF,n22,c22,cu,n25,cw,eG,n28,eI,jI,n31,jN,⟨rfl,by unfold ib;simp[di],λp hp=>?_⟩,(afA hex T2).grown rO,fP (w:=bq mn T2) kZ rO,fP (w:=bq mn T2) iC rO,fP (w:=bq mn T2) nO rO,CF (l:=[0,1]) aH⟩
  have BS:(ib u1 197 198 196 199 200 31 15 (MU gp gb gt) (.slice jI n31 jN) (.int .i64 0))[31]?=φ (.slice jI n31 jN):=ahR (by omega) (by simp[di])
  have MJ:(ib u1 197 198 196 199 200 31 15 (MU gp gb gt) (.slice jI n31 jN) (.int .i64 0))[15]?=φ (.int .i64 0):=ahX (by simp[di])
  have old:∀(i:Nat) (v:υ),[197,198,196,199,200,31,15].contains i=χ->u1[i]?=φ v->(ib u1 197 198 196 199 200 31 15 (MU gp gb gt) (.slice jI n31 jN) (.int .i64 0))[i]?=φ v:=λi v hc h=>(ahS hc).trans h
  generalize ib u1 197 198 196 199 200 31 15 (MU gp gb gt) (.slice jI n31 jN) (.int .i64 0)=U at BS MJ old |-
  simp only[Ϧ,Λ,or_false] at hp;rcases hp with rfl|rfl|rfl|rfl|rfl|rfl|rfl|rfl|rfl|rfl|rfl|rfl|rfl|rfl|rfl|rfl|rfl|rfl|rfl|rfl|rfl|rfl
  all_goals first
   |exact old _ _ rfl (xR.2.2 (_,_) (by simp))
   |exact BS
   |exact MJ
 obtain⟨eA,u3,Rb,hFE,M3⟩:=Jb adC M2 (Q:=λu aa=>FE ⟨u,[cQ]⟩ aa) (λT'=>Gq (ju:=[]) (λa aa hf=>by
  obtain⟨_,_,_,_,_,_,xR,_⟩:=_root_.id hf;obtain⟨tm,D⟩:=a;obtain rfl:D=_:=xR.1;exact⟨rfl,rfl,hf⟩) _ (aoz (w0:=bq (om w) T') (Ra T') (afK hFD T')))
 obtain⟨aax,al3,ac3,qO,n35,jO,acg,aiw,aiy⟩:=hFE;obtain⟨N,UE,w1,Qx,vH,q1,bh,mL,hB,hk⟩:=agN adD M3 Tryz.func21 anE (b:=θ) (λT'=>Code.wp_mono (λe a w h=>⟨h.1,h.2.1,h.2.2.2.1⟩) (aog acg (w:=bq Rb T') aiw aiy))
 exact⟨N,UE,w1,Qx,vH,q1,bh,mL,hB,hk⟩
end Go.Jn
namespace Go.Jn
open Go Go.Proofs Go.Conc
open YtfifdjajcogccaaGreatDoor
def agO:joinedFacts ϋ 16 Tryz.f16 Rows.mouldNeededSpec Rows.mouldNeededRow=θ:=by
 unfold joinedFacts;exact fA (fA (fA (fA (fA (fA (fA (fA (fA (fA (fA (fA (fA (fA (fA (fA (fA (fA (fA (fA (fA (fA (fA (fA (fA (fA (fA (fA (fA (fA (fA agU alW) alX) ahw) ahF) ahG) al0) ahH) al1) ahI) agV) agW) agX) agY) agZ) ag0) ag1) ag2) ag3) ag4) ahc) ahd) ahj) ahq) alY) alZ) ahs) aht) (by kernel_rfl)) ahv) ahy) ahA
def aiI(An:DC):Rows.MouldNeededSaid:=
 OpenClaim.holds_of_wide_leaving 16 Tryz.f16 rfl rfl rfl rfl rfl rfl rfl ⟨rfl,rfl,rfl,rfl,rfl⟩ rfl rfl rfl rfl rfl (by kernel_rfl) Tryz.func16 agO
  (of_decide_eq_true (by kernel_rfl)) (by unfold Func.isWrapper;first| (rw[if_pos (by decide+kernel)];kernel_rfl) | (rw[if_neg (by decide+kernel)];exact⟨rfl,rfl⟩))
  (λos started H enc _=>air An os started H enc)
def agS:Rows.mouldNeededRow.wfByText (OpenSpec.ofChange Rows.mouldNeededSpec)=θ:=by kernel_rfl
def agP:θ=Rows.mouldNeededRow.goesBy Tryz.pinned.checked.prog:=by kernel_rfl
def agQ:ϋ.funcNamed Rows.mouldNeededRow.func=φ 16:=by kernel_rfl
def agR:Tryz.f16.params=#[26,5]:=by kernel_rfl
def aiN:([26,5].all λu=> !ϋ.wantsStandIn u)=θ:=by kernel_rfl
def ajg:ϋ.laidByTextLater Rows.mouldNeededRow.laid [.funcs] θ:=aoH
def ah5(h:Rows.MouldNeededSaid):Rows.MouldNeededCardSaid:=
 apU .later [.funcs] θ (θ,"8b4c60804a89a2dc1775d2d899c432f4b3d9a7cd22d2b16114beb87ecc832d7f") χ h agS (OpenClaim.laidByTextAt_later rfl rfl ajg amY) rfl ⟨rfl,rfl⟩ ak8 rfl
  (λf fn hf ED=>by
    obtain rfl:f=16:=(Option.some.inj (agQ.symm.trans hf)).symm;obtain rfl:fn=Tryz.f16:=(Option.some.inj (Tryz.func16.symm.trans ED)).symm;refine⟨amq,λj t ht=>?_⟩
    rw[agR] at ht;have hm:t∈ [26,5]:=by
     have:= Array.mem_of_getElem? ht;simp at this;simp[this]
    have:=ġ.1 aiN t hm;exact(show ϋ.wantsStandIn t=χ by simpa using this)) agP
end Go.Jn
namespace Go.Proofs.YtfifdjajcogccaaGreatDoor
theorem mouldNeeded_holds:Rows.MouldNeededCardSaid:=Go.Jn.ah5 (Go.Jn.aiI Go.Jn.aoC)
end Go.Proofs.YtfifdjajcogccaaGreatDoor
end
