import Derived.Calls
import Derived.Laws.Sem
import Derived.RunT
import Derived.Conc.Beside
set_option linter.all false
set_option maxHeartbeats 64000000
set_option maxRecDepth 100000
open Array renaming getD_eq_getD_getElem? -> Aaa, getElem_mem -> Aab, append_assoc -> Aac, mem_append -> Aad, push_eq_append -> Aae, getElem?_eq_some_iff -> Ϟ, append_empty -> Aag, getElem?_push -> Aah, getElem?_setIfInBounds -> Aai, forIn_toList -> Aaj, mapM_eq_mapM_toList -> Aak, all_eq_true_iff_forall_mem -> Aal, getElem!_eq_getD -> Aam, getElem?_eq_none -> Aan, range -> Aao, getElem_map -> Aap, getElem_range -> Aaq, foldl_toList -> Aar, toList_zipIdx -> Aas, ext -> Aat, getElem_modify -> Aau, mem_replicate -> Aav, getElem?_append_left -> Aaw, mem_of_getElem? -> Aax, mem_iff_getElem -> Aay, getElem?_eq_getElem -> Aaz, getElem?_setIfInBounds_ne -> Aa0, getElem?_map -> Aa1
open Bool renaming false_eq_true -> Aa2, and_eq_true -> Aa3, not_true -> Aa4
open Classical renaming byContradiction -> Aa5, choose -> Aa6, choose_spec -> Aa7, propDecidable -> Aa8
open Go renaming Addr -> ϕ, FuncId -> Ϫ, IntKind -> Abb, TypeId -> ό, Code -> ϖ, MapEntry -> Abe, Deferred -> Abf, Event -> ϥ, Program -> ϑ, Func -> Ϣ, BoundsCode -> Abj, boundsPanic -> Abk, TypeDesc -> Abl, byteOfCell -> Abm, cellOfByte -> Abn, BinOp -> Abo, Operand -> Abp, Frame -> Ϙ, Goroutine -> ώ, GStep -> Abs, PanicEntry -> Abt, Result -> Abu, doReturn -> Abv, callDeferred -> Abw, unwind -> Abx, stepG -> ϛ, FloatKind -> Abz, lone -> Ab0, step_lone_ended -> Ab1, step_lone_go -> Ab2, Trace -> ϭ
open Go.Builtin renaming unsafeAdd_ -> Ab4, lenOf -> Ab5, firstCells -> Ab6, zeroCells -> Ab7, len_ -> Ab8, max_ -> Ab9, min_ -> Aca, copy_ -> Acb, clear_ -> Acd, nextslicecap -> Ace, mayShare -> Acf, append_ -> Acg
open Go.Deferred renaming ofValue -> Ach
open Go.Frame renaming enter -> Aci, finish -> Acj, eval -> Ack, raise -> Acl
open Go.GStep renaming after -> Acm, bare_after -> Acn
open Go.GStep.go renaming injEq -> Aco
open Go.Goroutine.mk renaming injEq -> Acp
open Go.Instr renaming sliceBound -> Acr, sliceBounds -> Acs, slice -> Acu, sliceAt -> Acv, extract -> Acw, makeMap -> Acx, makeSlice -> Acy, fill -> Acz, build -> Ac0, buildSlice -> Ac1, checkKey -> Ac2, findAsking -> Ac3, sameNow -> Ac4, findNow -> Ac5, findKey -> Ac6, lookup -> Ac7, sameBits -> Ac8, keyThatStays -> Ac9, mapUpdate -> Ada, getLoop -> Adb, yield -> Adc, enterLoop -> Ade, beginRound -> Adf, endRound -> Adg, endLoop -> Adh, takeDeferred -> Adi
open Go.IntKind renaming i64 -> Ϛ
open Go.Made renaming infoAt -> Adk
open Go.MemAct renaming ofEvent -> Adl
open Go.Mode renaming atomic -> Adm
open Go.Next renaming value -> Adn, skip -> Ado
open Go.Op renaming equalIn -> Adp, equal -> Adq, addrMod -> Adr, eqGuardIn -> Ads, maxDepth -> Adt, operands -> Adu
open Go.Result.ok renaming injEq -> Adv
open Go.Sem renaming run -> ϣ, runT -> ϧ, bind -> Ϯ, runT_fst -> Adz, store -> Ad0
open Go.World renaming noCell -> Ad1, setCell -> Ad2, farStore -> Ad3, shape? -> Ad4, freeze -> Ad5, viewStore -> Ad6
open Go.stepG renaming apply -> Ad7, exec -> Ad8
open Nat renaming le_refl -> ϊ, le_trans -> Ϥ, lt_of_lt_of_le -> Ϡ, zero_mul -> Aec
open Option renaming isNone_some -> Aed, eq_none_or_eq_some -> Aee, map_eq_some_iff -> Aef
open Option.some renaming inj -> ϟ, injEq -> Aeh
open Pure renaming pure -> Ϩ
open Std.Legacy.Range renaming forIn_eq_forIn_range' -> Aej
open Bool renaming true -> θ, false -> χ
open Go renaming Value -> υ, undef -> ω, World -> Ψ
open Go.Value renaming slice -> ζ, pointer -> π, tuple -> μ
open Option renaming some -> φ, none -> ν
namespace Go.Sim
open Go
abbrev Ren:=Nat->Nat->Prop
def Ren.le(ρ ax:Ren):Prop:=∀a b,ρ a b->ax a b
def Ren.le_refl(ρ:Ren):ρ.le ρ:=λ_ _ h=>h
def Ren.le_trans{ρ ax eY:Ren}(h:ρ.le ax)(h':ax.le eY):ρ.le eY:=λa b x=>h' a b (h a b x)
def dU(ρ:Ren)(a b:ϕ):Prop:=ρ a.block b.block/\a.off=b.off/\a.spot=b.spot
def dU.mono{ρ ax:Ren}(h:ρ.le ax){a b:ϕ}(x:dU ρ a b):dU ax a b:=⟨h _ _ x.1,x.2⟩
def dU.add{ρ:Ren}{a b:ϕ}(h:dU ρ a b)(n:Nat):dU ρ (a.add n) (b.add n):=by
 obtain⟨h1,h2,h3⟩:=h;unfold Addr.add;split
 ·exact⟨h1,h2,h3⟩
 ·exact⟨h1,by simp[h2],rfl⟩
inductive zi(ρ:Ren):Fn->Fn->Prop
 |func (f:Ϫ):zi ρ (.func f) (.func f)
 |yield {l l':Nat} (h:ρ l l'):zi ρ (.yield l) (.yield l')
inductive ah(ρ:Ren):υ->υ->Prop
 |bool (b:Bool):ah ρ (.bool b) (.bool b)
 |int (k:Abb) (n:Int):ah ρ (.int k n) (.int k n)
 |string (s:ByteArray):ah ρ (.string s) (.string s)
 |ptrNone:ah ρ (π ν) (π ν)
 |ptr {a b:ϕ} (h:dU ρ a b):ah ρ (π (φ a)) (π (φ b))
 |sliceNone (n c:Nat):ah ρ (ζ ν n c) (ζ ν n c)
 |slice {a b:ϕ} (n c:Nat) (h:dU ρ a b):ah ρ (ζ (φ a) n c) (ζ (φ b) n c)
 |sliceDead (a b:ϕ):ah ρ (ζ (φ a) 0 0) (ζ (φ b) 0 0)
 |mapNone:ah ρ (.map ν) (.map ν)
 |map {r r':Nat} (h:ρ r r'):ah ρ (.map (φ r)) (.map (φ r'))
 |chanNone:ah ρ (.chan ν) (.chan ν)
 |chan {r r':Nat} (h:ρ r r'):ah ρ (.chan (φ r)) (.chan (φ r'))
 |func {fn fn':Fn} {x x' y y':Array υ} (h:zi ρ fn fn') (hx:x.size=x'.size) (h1:∀i (h:i<x.size) (h':i<x'.size),ah ρ x[i] x'[i])
   (hy:y.size=y'.size) (h2:∀i (h:i<y.size) (h':i<y'.size),ah ρ y[i] y'[i]):ah ρ (.func fn x y) (.func fn' x' y')
 |nilFunc:ah ρ .nilFunc .nilFunc
 |iface (t:ό) {v v':υ} (h:ah ρ v v'):ah ρ (.iface t v) (.iface t v')
 |nilIface:ah ρ .nilIface .nilIface
 |agg {x x':Array υ} (hx:x.size=x'.size) (h1:∀i (h:i<x.size) (h':i<x'.size),ah ρ x[i] x'[i]):ah ρ (.agg x) (.agg x')
 |tuple {x x':Array υ} (hx:x.size=x'.size) (h1:∀i (h:i<x.size) (h':i<x'.size),ah ρ x[i] x'[i]):ah ρ (.tuple x) (.tuple x')
 |junk {v':υ} (h:v'.cells=#[v']) (hb:∀b,v'≠ .bool b) (hc:v'≠ π ν/\v'≠ .nilIface/\v'≠ .nilFunc/\∀f x y,v'≠ .func f x y):ah ρ (μ #[]) v'
 |fjunk (fn':Fn) (x' y':Array υ):ah ρ (.func (.method "") #[.nilIface] #[]) (.func fn' x' y')
def bU{α β:Type}(R:α->β->Prop)(x:Array α)(y:Array β):Prop:=x.size=y.size/\∀i (h:i<x.size) (h':i<y.size),R x[i] y[i]
abbrev aP(ρ:Ren):Array υ->Array υ->Prop:=bU (ah ρ)
def zi.mono{ρ ax:Ren}(h:ρ.le ax){f g:Fn}(x:zi ρ f g):zi ax f g:=by
 cases x with
 |func f=>exact .func f
 |yield hl=>exact .yield (h _ _ hl)
def ah.mono{ρ ax:Ren}(h:ρ.le ax){v v':υ}(x:ah ρ v v'):ah ax v v':=by
 induction x with
 |bool b=>exact .bool b
 |int k n=>exact .int k n
 |string s=>exact .string s
 |ptrNone=>exact .ptrNone
 |ptr ha=>exact .ptr (ha.mono h)
 |sliceNone n c=>exact .sliceNone n c
 |slice n c ha=>exact .slice n c (ha.mono h)
 |sliceDead a b=>exact .sliceDead a b
 |mapNone=>exact .mapNone
 |map hr=>exact .map (h _ _ hr)
 |chanNone=>exact .chanNone
 |chan hr=>exact .chan (h _ _ hr)
 |func hf hx _ hy _ i1 i2=>exact .func (hf.mono h) hx i1 hy i2
 |nilFunc=>exact .nilFunc
 |iface t _ ih=>exact .iface t ih
 |nilIface=>exact .nilIface
 |agg hx _ ih=>exact .agg hx ih
 |tuple hx _ ih=>exact .tuple hx ih
 |junk h hb hc=>exact .junk h hb hc
 |fjunk f x y=>exact .fjunk f x y
inductive fT{α β:Type}(R:α->β->Prop):List α->List β->Prop
 |nil:fT R [] []
 |cons {a:α} {b:β} {x:List α} {y:List β} (h:R a b) (t:fT R x y):fT R (a::x) (b::y)
section arr
variable {α β:Type}{R:α->β->Prop}
def bU.mono{R':α->β->Prop}(h:∀a b,R a b->R' a b){x:Array α}{y:Array β}(hx:bU R x y):bU R' x y:=⟨hx.1,λi a b=>h _ _ (hx.2 i a b)⟩
def bU.empty:bU R #[] #[]:=⟨rfl,λi h=>by simp at h⟩
def bU.push{x:Array α}{y:Array β}(h:bU R x y){a:α}{b:β}(hab:R a b):bU R (x.push a) (y.push b):=by
 refine⟨by simp[h.1],λi hi bu=>?_⟩
 simp only[Array.getElem_push];have hs:=h.1;by_cases al:i<x.size
 ·rw[dif_pos al,dif_pos (hs▸al)];exact h.2 i _ _
 ·rw[dif_neg al,dif_neg (hs▸al)];exact hab
def bU.append{x x':Array α}{y y':Array β}(h:bU R x y)(h':bU R x' y'):bU R (x++x') (y++y'):=by
 refine⟨by simp[h.1,h'.1],λi hi bu=>?_⟩
 have hs:=h.1;simp only[Array.getElem_append];by_cases al:i<x.size
 ·rw[dif_pos al,dif_pos (hs▸al)];exact h.2 i _ _
 ·rw[dif_neg al,dif_neg (hs▸al)]
  have:=h'.2 (i - x.size) (by simp at hi;omega) (by simp at bu;omega)
  simpa [hs] using this
def bU.set{x:Array α}{y:Array β}(h:bU R x y)(i:Nat){a:α}{b:β}(hab:R a b):bU R (x.setIfInBounds i a) (y.setIfInBounds i b):=by
 refine⟨by simp[h.1],λj hj qq=>?_⟩
 rw[Array.getElem_setIfInBounds (by simpa using hj),Array.getElem_setIfInBounds (by simpa using qq)]
 split
 ·exact hab
 ·exact h.2 j _ _
def bU.get? {x:Array α}{y:Array β}(h:bU R x y)(i:Nat):(x[i]?=ν/\y[i]?=ν)\/∃a b,x[i]?=φ a/\y[i]?=φ b/\R a b:=by
 by_cases al:i<x.size
 ·exact .inr ⟨x[i],y[i]'(h.1▸al),by simp[al],by simp[h.1▸al],h.2 i _ _⟩
 ·refine .inl ⟨by simp;omega,?_⟩
  have:=h.1;simp;omega
def bU.getD{x:Array α}{y:Array β}(h:bU R x y)(i:Nat){a:α}{b:β}(hab:R a b):R (x.getD i a) (y.getD i b):=by
 rcases h.get? i with⟨h1,h2⟩ | ⟨u,v,h1,h2,h3⟩
 ·simpa [Aaa,h1,h2] using hab
 ·simpa [Aaa,h1,h2] using h3
def bU.extract{x:Array α}{y:Array β}(h:bU R x y)(i j:Nat):bU R (x.extract i j) (y.extract i j):=by
 refine⟨by simp[h.1],λk hk rH=>?_⟩
 simp only[Array.getElem_extract];exact h.2 _ _ _
def bU.refl{R:α->α->Prop}{x:Array α}(h:∀a∈x,R a a):bU R x x:=⟨rfl,λ_ hi _=>h _ (Aab hi)⟩
def bU.one{a:α}{b:β}(h:R a b):bU R #[a] #[b]:=⟨rfl,λi hi _=>by
 have:i=0:=by simp at hi;omega
 subst this;exact h⟩
def bU.oG{x:Array α}{y:Array β}(h:bU R x y):fT R x.toList y.toList:=by
 obtain⟨x⟩:=x;obtain⟨y⟩:=y;obtain⟨h1,h2⟩:=h;simp only[List.size_toArray,List.getElem_toArray] at h1 h2;simp only;induction x generalizing y with
 |nil=>cases y with
  |nil=>exact .nil
  |cons=>simp at h1
 |cons a x ih=>cases y with
  |nil=>simp at h1
  |cons b y=>
   refine .cons (h2 0 (by simp) (by simp)) (ih y (by simpa using h1) λi hi bu=>?_)
   have:=h2 (i+1) (by simpa using hi) (by simpa using bu)
   simpa using this
def bU.ai9{x:List α}{y:List β}(h:fT R x y):bU R x.toArray y.toArray:=by
 induction h with
 |nil=>exact .empty
 |cons hab _ ih=>
  refine⟨by have:=ih.1;simp at this;simp[this],λi hi bu=>?_⟩
  cases i with
  |zero=>simpa using hab
  |succ i=>
   have:=ih.2 i (by simpa using hi) (by simpa using bu)
   simpa using this
end arr
def ah.uF{ρ:Ren}{x y:Array υ}(h:aP ρ x y):ah ρ (.agg x) (.agg y):=.agg h.1 h.2
def ah.tuple'{ρ:Ren}{x y:Array υ}(h:aP ρ x y):ah ρ (.tuple x) (.tuple y):=.tuple h.1 h.2
def ah.undef{ρ:Ren}:ah ρ ω ω:=.tuple' .empty
def aP.mono{ρ ax:Ren}(h:ρ.le ax){x y:Array υ}(hx:aP ρ x y):aP ax x y:=bU.mono (λ_ _=>ah.mono h) hx
def ah.cells{ρ:Ren}{v v':υ}(h:ah ρ v v'):aP ρ v.cells v'.cells:=by
 have h0:=h;cases h;case agg hx h1=>exact⟨hx,h1⟩
 case junk h hb _=>rw[h];exact bU.one h0
 all_goals exact bU.one h0
end Go.Sim
namespace Go.Sim
open Go
structure bQ where
 ok:Ϫ->Bool
 hole:Ϫ->Bool
 clean:ϖ->Prop
def Full(c:Array υ)(fr:Nat×Nat):Prop:=fr.1=0/\c.size<=fr.2
inductive jm(ρ:Ren):Abe->Abe->Prop
 |mk {k k' v v':υ} (b:Nat) (hk:ah ρ k k') (hv:ah ρ v v'):jm ρ ⟨k,v,b⟩ ⟨k',v',b⟩
inductive sM(ρ:Ren):Abf->Abf->Prop
 |collected {r r':Nat} (h:ρ r r'):sM ρ ⟨.collected r,#[]⟩ ⟨.collected r',#[]⟩
inductive zu(C:bQ)(ρ:Ren):Loop->Loop->Prop
 |mk (st:LoopState) (px:Option ϖ) (fn:Ϫ) {tm XJ:Array υ} (ps:Array Tmp) (oU body:ϖ) {d d':Nat} (ht:aP ρ tm XJ) (hd:ρ d d')
   (ha:C.clean oU) (hb:C.clean body) (hp:∀c,px=φ c->C.clean c):zu C ρ ⟨st,px,fn,tm,ps,oU,body,d⟩ ⟨st,px,fn,XJ,ps,oU,body,d'⟩
inductive iE(C:bQ)(ρ:Ren):Obj->Obj->Prop
 |cells {c c':Array υ} (e:ό) {fr aV:Nat×Nat} (h:aP ρ c c') (hf:aV=fr\/Full c fr):iE C ρ (.cells c e fr) (.cells c' e aV)
 |map {es es':Array Abe} (clock:Nat) (h:bU (jm ρ) es es'):iE C ρ (.map es clock) (.map es' clock)
 |loop {l l':Loop} (h:zu C ρ l l'):iE C ρ (.loop l) (.loop l')
 |EF:iE C ρ (.deferred ν) (.deferred ν)
 |calls:iE C ρ (.deferred (φ [])) (.deferred (φ []))
 |stringIter (s:ByteArray) (p:Nat):iE C ρ (.stringIter s p) (.stringIter s p)
 |number {a b:ϕ} (lost:Bool) (h:dU ρ a b):iE C ρ (.number a lost) (.number b lost)
def jm.mono{ρ ax:Ren}(h:ρ.le ax){a b:Abe}(x:jm ρ a b):jm ax a b:=by
 cases x with|mk b hk hv=>exact .mk b (hk.mono h) (hv.mono h)
def zu.mono{C:bQ}{ρ ax:Ren}(h:ρ.le ax){a b:Loop}(x:zu C ρ a b):zu C ax a b:=by
 cases x with|mk st px fn ps oU body ht hd ha hb hp=>exact .mk st px fn ps oU body (ht.mono h) (h _ _ hd) ha hb hp
def iE.mono{C:bQ}{ρ ax:Ren}(h:ρ.le ax){a b:Obj}(x:iE C ρ a b):iE C ax a b:=by
 cases x with
 |cells e hc hf=>exact .cells e (hc.mono h) hf
 |map clock hm=>exact .map clock (bU.mono (λ_ _=>jm.mono h) hm)
 |loop hl=>exact .loop (hl.mono h)
 |EF=>exact .EF
 |calls=>exact .calls
 |stringIter s p=>exact .stringIter s p
 |number l ha=>exact .number l (ha.mono h)
def lC:Obj->Prop
 | .cells c _ fr=>Full c fr
 |_=>False
structure gY(C:bQ)(ρ:Ren)(w w':Ψ):Prop where
 dA:∀a b,ρ a b->a<w.heap.size
 dc:∀a b,ρ a b->b<w'.heap.size
 fn:∀a b b',ρ a b->ρ a b'->b=b'
 inj:∀a a' b,ρ a b->ρ a' b->a=a'
 obj:∀a b o,ρ a b->w.heap[a]?=φ o->∃o',w'.heap[b]?=φ o'/\iE C ρ o o'
 tape:∀j q,w.tape (w.drawn+j) q=w'.tape (w'.drawn+j) q
structure Trans(ρ ax:Ren)(w w' aa aA:Ψ):Prop where
 le:ρ.le ax
 new:∀a b,ax a b->ρ a b\/(w.heap.size<=a/\w'.heap.size<=b)
 mP:w.heap.size<=aa.heap.size
 fQ:w'.heap.size<=aA.heap.size
 kE:∀(a:Nat) (o:Obj),w.heap[a]?=φ o->lC o->aa.heap[a]?=φ o
 im:∀b:Nat,b<w'.heap.size->(∀a,ρ a b->∃o,w.heap[a]?=φ o/\lC o)->aA.heap[b]?=w'.heap[b]?
 Gl:∀b:Nat,w'.heap.size<=b->b<aA.heap.size->∃a,ax a b
 Jg:aa.tape=w.tape
 wv:aA.tape=w'.tape
 vR:aA.os=w'.os
 vS:aA.output=w'.output
def Trans.refl(ρ:Ren)(w w':Ψ):Trans ρ ρ w w' w w':=
 ⟨ρ.le_refl,λ_ _ h=>.inl h,ϊ _,ϊ _,λ_ _ h _=>h,λ_ _ _=>rfl,λb h h'=>by omega,rfl,rfl,rfl,rfl⟩
def Trans.trans{ρ ax eY:Ren}{w w' aa aA aq mo:Ψ}(h:Trans ρ ax w w' aa aA)(k:Trans ax eY aa aA aq mo):Trans ρ eY w w' aq mo where
 le:=Ren.le_trans h.le k.le
 new a b x:=by
  rcases k.new a b x with x| ⟨x,y⟩
  ·exact h.new a b x
  ·exact .inr ⟨Ϥ h.mP x,Ϥ h.fQ y⟩
 mP:=Ϥ h.mP k.mP
 fQ:=Ϥ h.fQ k.fQ
 kE a o x f:=k.kE a o (h.kE a o x f) f
 im b hb hf:=by
  have e:=h.im b hb hf;rw[<-e];refine k.im b (Ϡ hb h.fQ) λa ha=>?_
  rcases h.new a b ha with x| ⟨_,y⟩
  ·obtain⟨o,ho,fo⟩:=hf a x
   exact⟨o,h.kE a o ho fo,fo⟩
  ·omega
 Gl b hb eH:=by
  by_cases al:b<aA.heap.size
  ·obtain⟨a,ha⟩:=h.Gl b hb al
   exact⟨a,k.le _ _ ha⟩
  ·exact k.Gl b (by omega) eH
 Jg:=k.Jg.trans h.Jg
 wv:=k.wv.trans h.wv
 vR:=k.vR.trans h.vR
 vS:=k.vS.trans h.vS
def pM(ρ:Ren)(w:Ψ)(e:ϥ):Prop:=
 (∃(b a:Nat),(e.loc=.obj b\/∃c:ϕ,e.loc=.cell c/\c.block=b)/\e.sync=χ/\ρ a b/\(w.heap.size<=a\/∃o,w.heap[a]?=φ o/\(e.write=θ->¬lC o)))
 \/e.loc=.mark .noRoom\/∃f,e.loc=.mark (.extern f)
def pM.mono{ρ ax:Ren}(h:ρ.le ax){w:Ψ}{e:ϥ}(x:pM ρ w e):pM ax w e:=by
 rcases x with⟨b,a,h1,h2,h3,h4⟩ |x
 ·exact .inl ⟨b,a,h1,h2,h _ _ h3,h4⟩
 ·exact .inr x
def pM.back{ρ ax eY:Ren}{w w' aa aA:Ψ}(h:Trans ρ ax w w' aa aA){e:ϥ}(x:pM eY aa e):pM eY w e:=by
 rcases x with⟨b,a,h1,h2,h3,h4⟩ |x
 ·refine .inl ⟨b,a,h1,h2,h3,?_⟩
  by_cases al:w.heap.size<=a
  ·exact .inl al
  ·right
   rcases h4 with h4| ⟨o,ho,hf⟩
   ·have:=h.mP;omega
   ·obtain⟨IJ,ae2⟩:∃IJ,w.heap[a]?=φ IJ:=⟨w.heap[a]'(by omega),by simp⟩
    refine⟨IJ,ae2,λhw lP=>?_⟩
    have:=h.kE a IJ ae2 lP;rw[ho] at this;obtain rfl:=ϟ this;exact hf hw lP
 ·exact .inr x
def Sim(P' P:ϑ)(C:bQ)(ρ:Ren){α β:Type}(R:Ren->α->β->Prop)(s:Sem α)(s':Sem β):Prop:=
 ∀aE,ρ.le aE->∀(w w':Ψ) (es:Array ϥ),gY C aE w w'->∀a aa,s.run P' w=.ok a aa->
  ∃bH b aA eD,s'.runT P w' es=(.ok b aA,es++eD)/\R bH a b/\gY C bH aa aA/\Trans aE bH w w' aa aA/\∀e∈eD,pM bH w e
section
variable {P' P:ϑ}{C:bQ}{ρ:Ren}{α β γ δ:Type}{R:Ren->α->β->Prop}{S:Ren->γ->δ->Prop}
def Sim.mono{ax:Ren}(h:ρ.le ax){s:Sem α}{s':Sem β}(x:Sim P' P C ρ R s s'):Sim P' P C ax R s s':=λaE h1=>x aE (Ren.le_trans h h1)
def Sim.SC{R':Ren->α->β->Prop}{s:Sem α}{s':Sem β}(x:Sim P' P C ρ R s s')(h:∀ax a b,ρ.le ax->R ax a b->R' ax a b):Sim P' P C ρ R' s s':=by
 intro aE h1 w w' es hw a aa hr;obtain⟨bH,b,aA,eD,h2,h3,h4,h5,h6⟩:=x aE h1 w w' es hw a aa hr;exact⟨bH,b,aA,eD,h2,h _ _ _ (Ren.le_trans h1 h5.le) h3,h4,h5,h6⟩
def Sim.pure{a:α}{b:β}(h:∀ax,ρ.le ax->R ax a b):Sim P' P C ρ R (.pure a) (.pure b):=by
 intro aE h1 w w' es hw a' aa hr;simp only[ϣ,Adv] at hr;obtain⟨rfl,rfl⟩:=hr;exact⟨aE,b,w',#[],by simp[ϧ],h _ h1,hw,Trans.refl ..,by simp⟩
def Sim.halt{h:Halt}{s':Sem β}:Sim P' P C ρ R (.halt h) s':=by
 intro aE h1 w w' es hw a aa hr;simp[ϣ] at hr
def run_bind{s:Sem α}{f:α->Sem γ}{p:ϑ}{w:Ψ}:(s.bind f).run p w=match s.run p w with| .ok a w=>(f a).run p w| .halt h w=>.halt h w:=by
 induction s generalizing w with
 |pure a=>rfl
 |load m a k ih=>
  simp only[Ϯ,ϣ]
  (repeat' split)<;>simp_all
 |store m a v k ih=>
  cases v<;>simp only[Ϯ,ϣ]<;>(repeat' split)<;>simp_all
 |new o k ih=>simp only[Ϯ,ϣ,ih]
 |shape r k ih=>simp only[Ϯ,ϣ,ih]
 |freeze a n k ih=>simp only[Ϯ,ϣ,ih]
 |frozen a k ih=>simp only[Ϯ,ϣ,ih]
 |getObj r k ih=>
  simp only[Ϯ,ϣ]
  (repeat' split)<;>simp_all
 |setObj r o k ih=>
  simp only[Ϯ,ϣ]
  (repeat' split)<;>simp_all
 |choose q k ih=>
  simp only[Ϯ,ϣ]
  (repeat' split)<;>simp_all
 |sys c k ih=>simp only[Ϯ,ϣ,ih]
 |program k ih=>simp only[Ϯ,ϣ,ih]
 |mark m k ih=>simp only[Ϯ,ϣ,ih]
 |halt h=>rfl
def pA{s:Sem α}{f:α->Sem γ}{p:ϑ}{w:Ψ}{es:Array ϥ}:
 (s.bind f).runT p w es=match s.runT p w es with| (.ok a w,es)=>(f a).runT p w es| (.halt h w,es)=>(.halt h w,es):=by
 induction s generalizing w es with
 |pure a=>rfl
 |load m a k ih=>
  simp only[Ϯ,ϧ]
  (repeat' split)<;>simp_all
 |store m a v k ih=>
  cases v<;>simp only[Ϯ,ϧ]<;>(repeat' split)<;>simp_all
 |new o k ih=>simp only[Ϯ,ϧ,ih]
 |shape r k ih=>simp only[Ϯ,ϧ,ih]
 |freeze a n k ih=>simp only[Ϯ,ϧ,ih]
 |frozen a k ih=>simp only[Ϯ,ϧ,ih]
 |getObj r k ih=>
  simp only[Ϯ,ϧ]
  (repeat' split)<;>simp_all
 |setObj r o k ih=>
  simp only[Ϯ,ϧ]
  (repeat' split)<;>simp_all
 |choose q k ih=>
  simp only[Ϯ,ϧ]
  (repeat' split)<;>simp_all
 |sys c k ih=>simp only[Ϯ,ϧ,ih]
 |program k ih=>simp only[Ϯ,ϧ,ih]
 |mark m k ih=>simp only[Ϯ,ϧ,ih]
 |halt h=>rfl
def Sim.bind{s:Sem α}{s':Sem β}{f:α->Sem γ}{g:β->Sem δ}(h:Sim P' P C ρ R s s')(hf:∀ax,ρ.le ax->∀a b,R ax a b->Sim P' P C ax S (f a) (g b)):
 Sim P' P C ρ S (s.bind f) (s'.bind g):=by
 intro aE h1 w w' es hw c aq hr;rw[run_bind] at hr;cases e:s.run P' w with
 |halt h w=>rw[e] at hr;cases hr
 |ok a aa=>
  rw[e] at hr;obtain⟨bH,b,aA,eD,h2,h3,h4,h5,h6⟩:=h aE h1 w w' es hw a aa e;obtain⟨BR,d,mo,adx,k2,k3,k4,k5,k6⟩:=hf bH (Ren.le_trans h1 h5.le) a b h3 bH bH.le_refl aa aA (es++eD) h4 c aq hr;refine⟨BR,d,mo,eD++adx,?_,k3,k4,h5.trans k5,λx hx=>?_⟩
  ·rw[pA,h2]
   simp only[k2,Aac]
  ·rcases Aad.1 hx with hx|hx
   ·exact(h6 x hx).mono k5.le
   ·exact(k6 x hx).back h5
end
end Go.Sim
namespace Go.Sim
open Go
section
variable {P' P:ϑ}{C:bQ}{ρ:Ren}
def EI:υ->Bool
 | .agg _| .tuple _=>χ
 |_=>θ
def gY.Nf{w w':Ψ}(h:gY C ρ w w'){a b:Nat}(hab:ρ a b):∃o,w.heap[a]?=φ o/\∃o',w'.heap[b]?=φ o'/\iE C ρ o o':=by
 have:=h.dA a b hab;have e:w.heap[a]?=φ w.heap[a]:=by simp[this]
 exact⟨_,e,h.obj a b _ hab e⟩
def Sk{w:Ψ}{a:ϕ}{v:υ}(h: w.cell? a=φ v):∃c e fr,w.heap[a.block]?=φ (.cells c e fr)/\a.spot=ν/\c[a.off]?=φ v:=by
 unfold World.cell? at h;split at h
 ·rename_i c e fr hh
  split at h
  ·cases h
  ·rename_i hs
   exact⟨c,e,_,hh,by cases rR:a.spot<;>simp_all,h⟩
 ·cases h
def lL{w:Ψ}{a:ϕ}{v:υ}{c:Array υ}{e:ό}{fr:Nat×Nat}(h:w.heap[a.block]?=φ (.cells c e fr))(hs:a.spot=ν)(hc:c[a.off]?=φ v): w.cell? a=φ v:=by
 unfold World.cell?;simp[h,hs,hc]
def gY.cell{w w':Ψ}(h:gY C ρ w w'){a b:ϕ}(hab:dU ρ a b){v:υ}(hv: w.cell? a=φ v):
 ∃c c' e fr aV v',w.heap[a.block]?=φ (.cells c e fr)/\w'.heap[b.block]?=φ (.cells c' e aV)/\aP ρ c c'/\(aV=fr\/Full c fr)/\c[a.off]?=φ v/\c'[b.off]?=φ v'/\ah ρ v v'/\ w'.cell? b=φ v':=by
 obtain⟨c,e,fr,hh,hs,hc⟩:=Sk hv;obtain⟨adR,TS,adS⟩:=hab;obtain⟨o',oB,hr⟩:=h.obj _ _ _ adR hh
 ·cases hr with
  | @cells _ c' _ _ aV cX hf=>
    rcases cX.get? a.off with⟨x,_⟩ | ⟨u,u',x,y,z⟩
    ·rw[hc] at x;cases x
    ·rw[hc] at x
     obtain rfl:=ϟ x;exact⟨c,c',e,fr,aV,u',hh,oB,cX,hf,hc,by rw[<-TS];exact y,z,lL oB (adS▸hs) (by rw[<-TS];exact y)⟩
def Sim.load{a b:ϕ}(h:dU ρ a b):Sim P' P C ρ ah (Go.load a) (Go.load b):=by
 intro aE h1 w w' es hw v aa hr;have h:=h.mono h1;unfold Go.load at hr |-
 simp only[ϣ] at hr;split at hr
 ·rename_i v' hv
  simp only[Adv] at hr;obtain⟨rfl,rfl⟩:=hr;obtain⟨c,c',e,fr,aV,v2,q1,q2,q3,q4,q5,q6,q7,q8⟩:=hw.cell h hv;refine⟨aE,v2,w',#[⟨.cell b,χ,χ⟩],?_,q7,hw,Trans.refl ..,λx hx=>?_⟩
  ·simp only[ϧ,q8,Aae];rfl
  ·simp at hx
   subst hx;exact .inl ⟨b.block,a.block,.inr ⟨b,rfl,rfl⟩,rfl,h.1,.inr ⟨_,q1,λx=>by cases x⟩⟩
 ·rename_i hn
  unfold World.farLoad at hr;obtain⟨o,ho,Aj⟩:=hw.Nf h.1;rw[ho] at hr;cases o<;>simp_all [Ad1]<;>(obtain⟨o',_,x⟩:=Aj;cases x)
def xm{w:Ψ}{a:ϕ}{c:Array υ}{e:ό}{fr:Nat×Nat}(h:w.heap[a.block]?=φ (.cells c e fr)): w.frozen? a=(decide (fr.1<=a.off) && decide (a.off<fr.2)):=by
 unfold World.frozen?;rw[h]
def Bx{w:Ψ}{a:ϕ}{v:υ}{c:Array υ}{e:ό}{fr:Nat×Nat}(h:w.heap[a.block]?=φ (.cells c e fr))(hs:a.spot=ν)(i:Nat):
 (w.setCell a v).heap[i]?=if i=a.block then φ (.cells (c.setIfInBounds a.off v) e fr) else w.heap[i]?:=by
 unfold Ad2;simp only[Array.getElem?_modify,hs]
 by_cases hi:i=a.block
 ·subst hi;simp[h]
 ·rw[if_neg (λe=>hi e.symm),if_neg hi]
def Sim.store{a b:ϕ}{v v':υ}(h:dU ρ a b)(hv:ah ρ v v'):Sim P' P C ρ (λ_ _ _=>True) (Go.store a v) (Go.store b v'):=by
 intro aE h1 w w' es hw u aa hr;have h:=h.mono h1;have hv:=hv.mono h1;have AB:∀(p:ϑ) (w:Ψ),EI v=θ->(Go.store a v).run p w=match w.cell? a with
  |some _=>if w.frozen? a then .halt (.unsupported (.unsafePointer "a write to bytes that a string shares")) w else .ok () (w.setCell a v)
  |none=>match w.farStore p a v χ with| .ok (w,_)=>.ok () w| .error h=>.halt h w:=by
  intro p w ho;cases v<;>first|rfl|cases ho
 have afi:∀(p:ϑ) (w:Ψ) (es:Array ϥ),EI v'=θ-> w.frozen? b=χ->(w.cell? b).isSome->(Go.store b v').runT p w es=(.ok () (w.setCell b v'),es.push ⟨.cell b,θ,χ⟩):=by
  intro p w es ho hf hc;obtain⟨x,hx⟩:=Option.isSome_iff_exists.1 hc;cases v'<;>first| (unfold Go.store;simp only[ϧ,hx,hf,Aa2,if_false];rfl) |cases ho
 have vv:EI v=θ:=by
  cases v<;>first|rfl| (unfold Go.store at hr;simp[ϣ] at hr)
 have afk:EI v'=θ:=by cases hv<;>first|rfl|cases vv
 rw[AB _ _ vv] at hr;split at hr
 ·rename_i x hx
  split at hr
  ·cases hr
  ·rename_i Hh
   simp only[Adv] at hr;obtain⟨_,rfl⟩:=hr;obtain⟨c,c',e,fr,aV,v2,q1,q2,q3,q4,q5,q6,q7,q8⟩:=hw.cell h hx;obtain⟨_,_,_,hh,rR,_⟩:=Sk hx;have al:=(Ϟ.1 q5).1
   have xN: w.frozen? a=χ:=by simpa using Hh
   rw[xm q1] at xN;have vu:¬Full c fr:=λ⟨x,y⟩=>by
    have:decide (a.off<fr.2)=θ:=by simp;omega
    simp[x,this] at xN
   have b7:aV=fr:=q4.resolve_right vu;subst b7;have Vh:b.spot=ν:=h.2.2▸rR;have hfb: w'.frozen? b=χ:=by rw[xm q2,<-h.2.1];exact xN
   refine⟨aE,(),w'.setCell b v',#[⟨.cell b,θ,χ⟩],?_,trivial,?_,?_,λy hy=>?_⟩
   ·rw[afi _ _ _ afk hfb (by rw[q8];rfl)];simp
   ·refine⟨λi j x=>by simpa [Ad2] using hw.dA i j x,λi j x=>by simpa [Ad2] using hw.dc i j x,hw.fn,hw.inj,λi j o vo ho=>?_,hw.tape⟩
    rw[Bx q1 rR] at ho;rw[Bx q2 Vh];by_cases hi:i=a.block
    ·subst hi
     rw[if_pos rfl] at ho;obtain rfl:=ϟ ho;have:j=b.block:=hw.fn _ _ _ vo h.1;subst this;exact⟨_,if_pos rfl,.cells e (by rw[h.2.1];exact q3.set _ hv) (.inl rfl)⟩
    ·rw[if_neg hi] at ho
     have:j≠b.block:=λe=>hi (hw.inj _ _ _ vo (e▸h.1))
     rw[if_neg this];exact hw.obj i j o vo ho
   ·refine⟨aE.le_refl,λ_ _ x=>.inl x,by simp[Ad2],by simp[Ad2],λi o ho hf=>?_,λj hj hk=>?_,λj hj qq=>by simp[Ad2] at qq;omega,rfl,rfl,rfl,rfl⟩
    ·rw[Bx q1 rR]
     by_cases hi:i=a.block
     ·subst hi
      rw[q1] at ho;obtain rfl:=ϟ ho;exact absurd hf vu
     ·rw[if_neg hi];exact ho
    ·rw[Bx q2 Vh]
     by_cases hi:j=b.block
     ·subst hi
      obtain⟨o,ho,hf⟩:=hk _ h.1;rw[q1] at ho;obtain rfl:=ϟ ho;exact absurd hf vu
     ·rw[if_neg hi]
   ·simp at hy
    subst hy;exact .inl ⟨b.block,a.block,.inr ⟨b,rfl,rfl⟩,rfl,h.1,.inr ⟨_,q1,λ_=>vu⟩⟩
 ·rename_i hn
  unfold Ad3 at hr;obtain⟨o,ho,Aj⟩:=hw.Nf h.1;rw[ho] at hr;cases o<;>simp_all [Ad1]<;>(obtain⟨o',_,x⟩:=Aj;cases x)
def Ren.add(ρ:Ren)(a b:Nat):Ren:=λx y=>ρ x y\/(x=a/\y=b)
def Ren.OL(ρ:Ren)(a b:Nat):ρ.le (ρ.add a b):=λ_ _ h=>.inl h
def Sim.newObj{o o':Obj}(h:iE C ρ o o'):Sim P' P C ρ (λax a b=>ax a b) (Go.newObj o) (Go.newObj o'):=by
 intro aE h1 w w' es hw u aa hr;have h:=h.mono h1;unfold Go.newObj at hr |-
 simp only[ϣ,Adv] at hr;obtain⟨rfl,rfl⟩:=hr;refine⟨aE.add w.heap.size w'.heap.size,w'.heap.size,{w' with heap:=w'.heap.push o'},#[],by simp only[ϧ,Aag],.inr ⟨rfl,rfl⟩,?_,?_,by simp⟩
 ·refine⟨λa b x=>?_,λa b x=>?_,λa b b' x y=>?_,λa a' b x y=>?_,λa b q x hq=>?_,hw.tape⟩
  ·rcases x with x| ⟨x,_⟩
   ·have:=hw.dA _ _ x;simp;omega
   ·simp;omega
  ·rcases x with x| ⟨_,x⟩
   ·have:=hw.dc _ _ x;simp;omega
   ·simp;omega
  ·rcases x with x| ⟨x,x'⟩<;>rcases y with y| ⟨y,y'⟩
   ·exact hw.fn _ _ _ x y
   ·have:=hw.dA _ _ x;omega
   ·have:=hw.dA _ _ y;omega
   ·omega
  ·rcases x with x| ⟨x,x'⟩<;>rcases y with y| ⟨y,y'⟩
   ·exact hw.inj _ _ _ x y
   ·have:=hw.dc _ _ x;omega
   ·have:=hw.dc _ _ y;omega
   ·omega
  ·rcases x with x| ⟨rfl,rfl⟩
   ·have al:=hw.dA _ _ x
    have NA:=hw.dc _ _ x;simp only[Aah] at hq |-
    rw[if_neg (by omega)] at hq
    rw[if_neg (by omega)]
    obtain⟨q',e,r⟩:=hw.obj _ _ _ x hq;exact⟨q',e,r.mono (aE.OL _ _)⟩
   ·simp only[Aah] at hq |-
    simp only[if_true] at hq;obtain rfl:=ϟ hq;exact⟨o',by simp,h.mono (aE.OL _ _)⟩
 ·refine⟨aE.OL _ _,λa b x=>?_,by simp,by simp,λa q hq hf=>?_,λb hb _=>?_,λb hb eH=>?_,rfl,rfl,rfl,rfl⟩
  ·rcases x with x| ⟨rfl,rfl⟩
   ·exact .inl x
   ·exact .inr ⟨ϊ _,ϊ _⟩
  ·have:=(Ϟ.1 hq).1
   simp only[Aah]
   rw[if_neg (by omega)]
   exact hq
  ·simp only[Aah]
   rw[if_neg (by omega)]
  ·simp at eH
   exact⟨w.heap.size,.inr ⟨rfl,by omega⟩⟩
def Sim.getObj{a b:Nat}(h:ρ a b):Sim P' P C ρ (iE C) (Go.getObj a) (Go.getObj b):=by
 intro aE h1 w w' es hw u aa hr;have h:=h1 _ _ h;unfold Go.getObj at hr |-
 simp only[ϣ] at hr;split at hr
 ·cases hr
 ·rename_i o bj ho
  simp only[Adv] at hr;obtain⟨rfl,rfl⟩:=hr;obtain⟨o',e,r⟩:=hw.obj _ _ _ h ho
  ·refine⟨aE,o',w',#[⟨.obj b,χ,χ⟩],?_,r,hw,Trans.refl ..,λx hx=>?_⟩
   ·cases r<;>first|exact(bj _ _ _ rfl).elim| (simp only[ϧ,e,Aae];rfl)
   ·simp at hx
    subst hx;exact .inl ⟨b,a,.inl rfl,rfl,h,.inr ⟨o,ho,λx=>by cases x⟩⟩
 ·cases hr
def Sim.setObj{a b:Nat}{o o':Obj}(h:ρ a b)(DU:iE C ρ o o'):Sim P' P C ρ (λ_ _ _=>True) (Go.setObj a o) (Go.setObj b o'):=by
 intro aE h1 w w' es hw u aa hr;have h:=h1 _ _ h;have DU:=DU.mono h1;unfold Go.setObj at hr |-
 simp only[ϣ] at hr;split at hr
 ·cases hr
 ·rename_i q DR hq
  simp only[Adv] at hr;obtain⟨_,rfl⟩:=hr;have vu:¬lC q:=by
   intro hf;cases q<;>first|exact hf.elim|exact(DR _ _ _ rfl).elim
  have al:=hw.dA _ _ h;have NA:=hw.dc _ _ h;obtain⟨q',e,r⟩:=hw.obj _ _ _ h hq;refine⟨aE,(),{w' with heap:=w'.heap.setIfInBounds b o'},#[⟨.obj b,θ,χ⟩],?_,trivial,?_,?_,λx hx=>?_⟩
  ·cases r<;>first|exact(DR _ _ _ rfl).elim| (cases DU<;>(simp only[ϧ,e,Aae];rfl))
  ·refine⟨λi j x=>by simpa using hw.dA i j x,λi j x=>by simpa using hw.dc i j x,hw.fn,hw.inj,λi j x vo hx=>?_,hw.tape⟩
   simp only[Aai] at hx |-
   by_cases hi:a=i
   ·subst hi
    rw[if_pos rfl,if_pos al] at hx;obtain rfl:=ϟ hx;obtain rfl:b=j:=hw.fn _ _ _ h vo;exact⟨o',by simp[NA],DU⟩
   ·rw[if_neg hi] at hx
    have:b≠j:=λe=>hi (hw.inj _ _ _ h (e▸vo))
    rw[if_neg this];exact hw.obj i j x vo hx
  ·refine⟨aE.le_refl,λ_ _ x=>.inl x,by simp,by simp,λi x hx hf=>?_,λj hj hk=>?_,λj hj qq=>by simp at qq;omega,rfl,rfl,rfl,rfl⟩
   ·simp only[Aai]
    by_cases hi:a=i
    ·subst hi
     rw[hq] at hx;obtain rfl:=ϟ hx;exact absurd hf vu
    ·rw[if_neg hi];exact hx
   ·simp only[Aai]
    by_cases hi:b=j
    ·subst hi
     obtain⟨x,hx,hf⟩:=hk _ h;rw[hq] at hx;obtain rfl:=ϟ hx;exact absurd hf vu
    ·rw[if_neg hi]
  ·simp at hx
   subst hx;exact .inl ⟨b,a,.inl rfl,rfl,h,.inr ⟨q,hq,λ_=>vu⟩⟩
 ·cases hr
def Sim.choose(q:Question):Sim P' P C ρ (λ_ a b=>a=b) (Go.choose q) (Go.choose q):=by
 intro aE h1 w w' es hw u aa hr;unfold Go.choose at hr |-
 simp only[ϣ] at hr;split at hr
 ·rename_i hf
  simp only[Adv] at hr;obtain⟨rfl,rfl⟩:=hr;exact⟨aE,0,w',#[],by simp only[ϧ,hf,if_true,Aag],rfl,hw,Trans.refl ..,by simp⟩
 ·rename_i hf
  simp only[Adv] at hr;obtain⟨rfl,rfl⟩:=hr;have ht:=hw.tape 0 q;simp only[Nat.add_zero] at ht;refine⟨aE,q.cut (w'.tape w'.drawn q),{w' with drawn:=w'.drawn+1},#[],by simp only[ϧ,hf,Aa2,if_false,Aag],by rw[ht],⟨hw.dA,hw.dc,hw.fn,hw.inj,hw.obj,λj r=>?_⟩,⟨aE.le_refl,λ_ _ x=>.inl x,ϊ _,ϊ _,λ_ _ x _=>x,λ_ _ _=>rfl,λb hb eH=>by simp at eH;omega,rfl,rfl,rfl,rfl⟩,by simp⟩
  have:=hw.tape (1+j) r;simpa [Nat.add_assoc] using this
def Sim.program:Sim P' P C ρ (λ_ a b=>a=P'/\b=P) Go.program Go.program:=by
 intro aE h1 w w' es hw u aa hr;unfold Go.program at hr |-
 simp only[ϣ,Adv] at hr;obtain⟨rfl,rfl⟩:=hr;exact⟨aE,P,w',#[],by simp only[ϧ,Aag],⟨rfl,rfl⟩,hw,Trans.refl ..,by simp⟩
def Sim.shape{a b:Nat}(h:ρ a b):Sim P' P C ρ (λ_ a b=>a=b) (Go.shape a) (Go.shape b):=by
 intro aE h1 w w' es hw u aa hr;have h:=h1 _ _ h;unfold Go.shape at hr |-
 simp only[ϣ,Adv] at hr;obtain⟨rfl,rfl⟩:=hr;refine⟨aE,w'.shape? b,w',#[],by simp only[ϧ,Aag],?_,hw,Trans.refl ..,by simp⟩
 obtain⟨o,ho,o',oB,r⟩:=hw.Nf h;unfold Ad4;rw[ho,oB];cases r with
 |cells e hc hf=>simp[hc.1]
 |_=>rfl
def Sim.noRoom:Sim P' P C ρ (λ_ _ _=>True) (Go.mark .noRoom) (Go.mark .noRoom):=by
 intro aE h1 w w' es hw u aa hr;unfold Go.mark at hr |-
 simp only[ϣ,Adv] at hr;obtain⟨_,rfl⟩:=hr;exact⟨aE,(),w',#[⟨.mark .noRoom,χ,θ⟩],by simp only[ϧ,Aae],trivial,hw,Trans.refl ..,λx hx=>by simp at hx;subst hx;exact .inr (.inl rfl)⟩
end
end Go.Sim
namespace Go.Sim
open Go
def Flat(v:υ):Prop:=ah (λ_ _=>False) v v
def Flat.rel{v:υ}(h:Flat v)(ρ:Ren):ah ρ v v:=ah.mono (λ_ _ x=>x.elim) h
def tw(P:ϑ)(F:Array Ϣ):ϑ:={P with funcs:=F,globals:=#[]}
def XO(P:ϑ)(F:Array Ϣ):∀(f:Nat) (t:ό),Adk (tw P F).toTables f t=Adk P.toTables f t
 |0,t=>rfl
 |f+1,t=>by
  have e:Adk (tw P F).toTables f=Adk P.toTables f:=funext λt=>XO P F f t
  show(if t<P.types.size then P.types[t]? else(Made.decode (t - P.types.size)).bind (Made.reckon (Adk (tw P F).toTables f)))=_
  rw[e];rfl
def ly(P:ϑ)(F:Array Ϣ)(t:ό):(tw P F).info? t= P.info? t:=by
 show(if t<P.types.size then P.types[t]? else Adk (tw P F).toTables Made.depth t)=_
 rw[XO];rfl
def jH(P:ϑ)(F:Array Ϣ)(t:ό):(tw P F).underlying t=P.underlying t:=by
 unfold Program.underlying;rw[ly];cases h: P.info? t with
 |none=>rfl
 |some i=>
  obtain⟨d,_⟩:=i;cases d;case named n u=>exact congrArg (Option.map _) (ly P F u)
  all_goals rfl
structure oe(P:ϑ):Prop where
 zero:∀t i v,P.info? t=φ i->i.zero=φ v->Flat v
section
variable {P:ϑ}{F:Array Ϣ}{C:bQ}{ρ:Ren}{α β γ δ:Type}
variable {R:Ren->α->β->Prop}{S:Ren->γ->δ->Prop}
def Sim.bind'{P':ϑ}{s:Sem α}{s':Sem β}{f:α->Sem γ}{g:β->Sem δ}(h:Sim P' P C ρ R s s')(hf:∀ax,ρ.le ax->∀a b,R ax a b->Sim P' P C ax S (f a) (g b)):
 Sim P' P C ρ S (s>>=f) (s'>>=g):=Sim.bind h hf
def Sim.pure'{P':ϑ}{a:α}{b:β}(h:∀ax,ρ.le ax->R ax a b):Sim P' P C ρ R (Ϩ a) (Ϩ b):=Sim.pure h
def Sim.stuck{P':ϑ}{why:String}{s':Sem β}:Sim P' P C ρ R (Go.stuck why:Sem α) s':=Sim.halt
def Sim.y8{P':ϑ}{why:String}{f:α->Sem γ}{s':Sem δ}:Sim P' P C ρ S ((Go.stuck why:Sem α)>>=f) s':=Sim.halt
def Sim.unsupported{P':ϑ}{u:Unsupported}{s':Sem β}:Sim P' P C ρ R (Go.unsupported u:Sem α) s':=Sim.halt
def Sim.BI{P':ϑ}{u:Unsupported}{f:α->Sem γ}{s':Sem δ}:Sim P' P C ρ S ((Go.unsupported u:Sem α)>>=f) s':=Sim.halt
def br(P':ϑ)(s:Sem α):Prop:=∀w a aa,s.run P' w≠ .ok a aa
def Sim.never{P':ϑ}{s:Sem α}{s':Sem β}(h:br P' s):Sim P' P C ρ R s s':=λ_ _ w _ _ _ a aa hr=>absurd hr (h w a aa)
def br.bind{P':ϑ}{s:Sem α}{f:α->Sem γ}(h:br P' s):br P' (s>>=f):=by
 intro w a aa hr;have hr:(s.bind f).run P' w=.ok a aa:=hr;rw[run_bind] at hr;cases e:s.run P' w with
 |ok b aq=>exact h _ _ _ e
 |halt h' aq=>rw[e] at hr;cases hr
def br.kI{P':ϑ}{s:Sem α}{f:α->Sem γ}(h:∀a,br P' (f a)):br P' (s>>=f):=by
 intro w a aa hr;have hr:(s.bind f).run P' w=.ok a aa:=hr;rw[run_bind] at hr;cases e:s.run P' w with
 |ok b aq=>rw[e] at hr;exact h b _ _ _ hr
 |halt h' aq=>rw[e] at hr;cases hr
def br.halt{P':ϑ}{h:Halt}:br P' (.halt h:Sem α):=λw a aa hr=>by simp[ϣ] at hr
def nL{P':ϑ}(e:RuntimeError):br P' (runtimePanic e:Sem α):=by
 unfold runtimePanic;refine br.kI λp=>?_
 cases e<;>simp only<;>first|exact br.halt|exact br.kI λ_=>br.kI λ_=>br.halt|exact br.kI λ_=>br.halt
def tS{P':ϑ}(k:Abb)(x y:Int)(c:Abj):br P' (Abk k x y c:Sem α):=by
 unfold Abk;simp only;split<;>exact br.kI λ_=>nL _
def Sim.typeInfo(t:ό):Sim (tw P F) P C ρ (λ_ a b=>a=b/\ P.info? t=φ b) (typeInfo t) (typeInfo t):=by
 unfold Go.typeInfo;refine Sim.bind' Sim.program λax _ a b h=>?_
 obtain⟨rfl,rfl⟩:=h;rw[ly];cases h: b.info? t with
 |none=>exact Sim.stuck
 |some i=>exact Sim.pure' λ_ _=>⟨rfl,rfl⟩
def Sim.underlying(t:ό):Sim (tw P F) P C ρ (λ_ a b=>a=b/\P.underlying t=φ b) (underlying t) (underlying t):=by
 unfold Go.underlying;refine Sim.bind' Sim.program λax _ a b h=>?_
 obtain⟨rfl,rfl⟩:=h;rw[jH];cases h:b.underlying t with
 |none=>exact Sim.stuck
 |some i=>exact Sim.pure' λ_ _=>⟨rfl,rfl⟩
def Sim.zeroValue(T:oe P)(t:ό):Sim (tw P F) P C ρ ah (zeroValue t) (zeroValue t):=by
 unfold Go.zeroValue;refine Sim.bind' (Sim.typeInfo t) λax _ a b h=>?_
 obtain⟨rfl,hi⟩:=h;cases hz:a.zero with
 |none=>exact Sim.unsupported
 |some v=>exact Sim.pure' λ_ _=>(T.zero t a v hi hz).rel _
def Sim.sizeOf(t:ό):Sim (tw P F) P C ρ (λ_ a b=>a=b) (sizeOf t) (sizeOf t):=by
 unfold Go.sizeOf;refine Sim.bind' (Sim.typeInfo t) λax _ a b h=>?_
 obtain⟨rfl,_⟩:=h;exact Sim.pure' λ_ _=>rfl
def Sim.isAgg(t:ό):Sim (tw P F) P C ρ (λ_ a b=>a=b) (isAgg t) (isAgg t):=by
 unfold Go.isAgg;refine Sim.bind' (Sim.underlying t) λax _ a b h=>?_
 obtain⟨rfl,_⟩:=h;cases a<;>exact Sim.pure' λ_ _=>rfl
def Sim.loadCellsFrom{a b:ϕ}(h:dU ρ a b)(n:Nat):∀(i:Nat) {acc Gi:Array υ} {ax:Ren},ρ.le ax->aP ax acc Gi->Sim (tw P F) P C ax aP (loadCellsFrom a i n acc) (loadCellsFrom b i n Gi):=by
 induction n with
 |zero=>intro i acc Gi ax hl Dk;exact Sim.pure' λeY dR=>Dk.mono dR
 |succ n ih=>
  intro i acc Gi ax hl Dk;unfold Go.loadCellsFrom;exact Sim.bind' (Sim.load ((h.mono hl).add i)) λeY dR v v' hv=>ih (i+1) (Ren.le_trans hl dR) ((Dk.mono dR).push hv)
def Sim.loadCells{a b:ϕ}(h:dU ρ a b)(n:Nat):Sim (tw P F) P C ρ aP (loadCells a n) (loadCells b n):=
 Sim.loadCellsFrom h n 0 ρ.le_refl .empty
def Sim.storeCells{a b:ϕ}{vs vs':List υ}(h:dU ρ a b)(hv:fT (ah ρ) vs vs'):∀(i:Nat),Sim (tw P F) P C ρ (λ_ _ _=>True) (storeCells a vs i) (storeCells b vs' i):=by
 induction hv with
 |nil=>intro i;exact Sim.pure' λ_ _=>trivial
 |cons hv _ ih=>
  intro i;unfold Go.storeCells;exact Sim.bind' (Sim.store (h.add i) hv) λax h' _ _ _=>(ih (i+1)).mono h'
def Sim.loadVar(t:ό){a b:ϕ}(h:dU ρ a b):Sim (tw P F) P C ρ ah (loadVar t a) (loadVar t b):=by
 unfold Go.loadVar;refine Sim.bind' (Sim.isAgg t) λax h' x y e=>?_
 subst e;have h:=h.mono h';cases x with
 |true=>
  simp only[if_true];refine Sim.bind' (Sim.sizeOf t) λeY dR x y e=>?_
  subst e;exact Sim.bind' (Sim.loadCells (h.mono dR) x) λej _ c c' hc=>Sim.pure' λ_ h4=>ah.uF (hc.mono h4)
 |false=>exact Sim.load h
def Sim.storeVar(t:ό){a b:ϕ}{v v':υ}(h:dU ρ a b)(hv:ah ρ v v'):Sim (tw P F) P C ρ (λ_ _ _=>True) (storeVar t a v) (storeVar t b v'):=by
 unfold Go.storeVar;refine Sim.bind' (Sim.sizeOf t) λax h' x y e=>?_
 subst e;have hc:=(hv.mono h').cells;rw[<-hc.1];split
 ·exact Sim.stuck
 ·exact Sim.storeCells (h.mono h') hc.oG 0
def Sim.newRow(e:ό){c c':Array υ}(h:aP ρ c c'):Sim (tw P F) P C ρ dU (newRow e c) (newRow e c'):=by
 unfold Go.newRow;exact Sim.bind' (Sim.newObj (.cells e h (.inl rfl))) λax _ a b hab=>Sim.pure' λ_ h2=>⟨h2 _ _ hab,rfl,rfl⟩
def Sim.newVar(t:ό){v v':υ}(h:ah ρ v v'):Sim (tw P F) P C ρ dU (newVar t v) (newVar t v'):=Sim.newRow t h.cells
def Sim.part(t:ό){c c':Array υ}(h:aP ρ c c')(off:Nat):Sim (tw P F) P C ρ ah (part t c off) (part t c' off):=by
 unfold Go.part;refine Sim.bind' (Sim.isAgg t) λax h' x y e=>?_
 subst e;have h:=h.mono h';cases x with
 |true=>
  simp only[if_true];refine Sim.bind' (Sim.sizeOf t) λeY dR x y e=>?_
  subst e;exact Sim.pure' λ_ h4=>ah.uF ((h.mono (Ren.le_trans dR h4)).extract _ _)
 |false=>
  simp only[Aa2,if_false];rcases h.get? off with⟨e1,_⟩ | ⟨u,v,e1,e2,huv⟩
  ·rw[e1];exact Sim.stuck
  ·rw[e1,e2];exact Sim.pure' λ_ h4=>huv.mono h4
def Sim.asIntOf{v v':υ}(h:ah ρ v v'):Sim (tw P F) P C ρ (λ_ a b=>a=b) (asIntOf v) (asIntOf v'):=by
 cases h<;>first|exact Sim.pure' λ_ _=>rfl|exact Sim.halt
def Sim.asInt{v v':υ}(h:ah ρ v v'):Sim (tw P F) P C ρ (λ_ a b=>a=b) (asInt v) (asInt v'):=
 Sim.bind' (Sim.asIntOf h) λ_ _ a b e=>by subst e;exact Sim.pure' λ_ _=>rfl
def Sim.asBool{v v':υ}(h:ah ρ v v'):Sim (tw P F) P C ρ (λ_ a b=>a=b) (asBool v) (asBool v'):=by
 cases h<;>first|exact Sim.pure' λ_ _=>rfl|exact Sim.halt
def Sim.asAgg{v v':υ}(h:ah ρ v v'):Sim (tw P F) P C ρ aP (asAgg v) (asAgg v'):=by
 cases h;case agg hx h1=>exact Sim.pure' λ_ h'=>aP.mono h' ⟨hx,h1⟩
 all_goals exact Sim.halt
def Sim.asAddr{v v':υ}(h:ah ρ v v'):Sim (tw P F) P C ρ dU (asAddr v) (asAddr v'):=by
 cases h;case ptr hx=>exact Sim.pure' λ_ h'=>dU.mono h' hx
 case ptrNone=>exact Sim.never (show br (tw P F) (Go.asAddr (π ν)) from nL .nilDeref)
 all_goals exact Sim.halt
def Sim.sureAddr{v v':υ}(h:ah ρ v v'):Sim (tw P F) P C ρ dU (Instr.sureAddr v) (Instr.sureAddr v'):=by
 cases h;case ptr hx=>exact Sim.pure' λ_ h'=>dU.mono h' hx
 all_goals exact Sim.halt
end
end Go.Sim
namespace Go.Sim
open Go
section
variable {P:ϑ}{F:Array Ϣ}{C:bQ}{ρ:Ren}{α β γ δ:Type}
variable {R:Ren->α->β->Prop}{S:Ren->γ->δ->Prop}
def J4(ρ:Ren):Prop:=(∀a b b',ρ a b->ρ a b'->b=b')/\(∀a a' b,ρ a b->ρ a' b->a=a')
def Sim.cE{P':ϑ}{σ:Type}{s:Sem σ}{s':Sem σ}{f:σ->Sem γ}{g:σ->Sem δ}(h:Sim P' P C ρ (λ_ a b=>a=b) s s')(hf:∀ax,ρ.le ax->∀a,Sim P' P C ax S (f a) (g a)):
 Sim P' P C ρ S (s>>=f) (s'>>=g):=Sim.bind' h λax h' a b e=>by subst e;exact hf ax h' a
def Sim.map{P':ϑ}{s:Sem α}{s':Sem β}{f:α->γ}{g:β->δ}(h:Sim P' P C ρ R s s')(hf:∀ax,ρ.le ax->∀a b,R ax a b->∀eY,ax.le eY->S eY (f a) (g b)):
 Sim P' P C ρ S (f<$>s) (g<$>s'):=by
 rw[map_eq_pure_bind,map_eq_pure_bind];exact Sim.bind' h λax h' a b r=>Sim.pure' λeY dR=>hf ax h' a b r eY dR
def Sim.fu{t:ό}{f:Abl->Sem γ}{g:Abl->Sem δ}(hf:∀ax,ρ.le ax->∀a,P.underlying t=φ a->Sim (tw P F) P C ax S (f a) (g a)):
 Sim (tw P F) P C ρ S (Go.underlying t>>=f) (Go.underlying t>>=g):=Sim.bind' (Sim.underlying t) λax h' a b e=>by obtain⟨rfl,e⟩:=e;exact hf ax h' a e
def Sim.BH{t:ό}{f:TypeInfo->Sem γ}{g:TypeInfo->Sem δ}(hf:∀ax,ρ.le ax->∀a,P.info? t=φ a->Sim (tw P F) P C ax S (f a) (g a)):
 Sim (tw P F) P C ρ S (Go.typeInfo t>>=f) (Go.typeInfo t>>=g):=Sim.bind' (Sim.typeInfo t) λax h' a b e=>by obtain⟨rfl,e⟩:=e;exact hf ax h' a e
def Sim.Mh{P':ϑ}{ι σ:Type}(l:List ι){f g:ι->σ->Sem (ForInStep σ)}(h:∀x∈l,∀s,Sim P' P C ρ (λ_ a b=>a=b) (f x s) (g x s)):
 ∀s,Sim P' P C ρ (λ_ a b=>a=b) (forIn l s f) (forIn l s g):=by
 induction l with
 |nil=>intro s;exact Sim.pure' λ_ _=>rfl
 |cons x l ih=>
  intro s;rw[List.forIn_cons,List.forIn_cons];refine Sim.cE (h x (by simp) s) λax h' r=>?_
  cases r with
  |done s=>exact Sim.pure' λ_ _=>rfl
  |yield s=>exact(ih (λy hy s=>h y (by simp[hy]) s) s).mono h'
def Sim.Tg{P':ϑ}{ι σ:Type}(l:Array ι){f g:ι->σ->Sem (ForInStep σ)}(h:∀x∈l,∀s,Sim P' P C ρ (λ_ a b=>a=b) (f x s) (g x s))(s:σ):
 Sim P' P C ρ (λ_ a b=>a=b) (forIn l s f) (forIn l s g):=by
 rw[<-Aaj,<-Aaj];exact Sim.Mh _ (λx hx s=>h x (by simpa using hx) s) s
def Sim.ahY{P':ϑ}{ι σ:Type}(l:List ι){f g:ι->Sem σ}(h:∀x∈l,Sim P' P C ρ (λ_ a b=>a=b) (f x) (g x)):
 Sim P' P C ρ (λ_ a b=>a=b) (l.mapM f) (l.mapM g):=by
 induction l with
 |nil=>simp only[List.mapM_nil];exact Sim.pure' λ_ _=>rfl
 |cons x l ih=>
  simp only[List.mapM_cons];refine Sim.cE (h x (by simp)) λax h' a=>?_
  refine Sim.cE ((ih λy hy=>h y (by simp[hy])).mono h') λeY dR b=>Sim.pure' λ_ _=>rfl
def Sim.ahX{P':ϑ}{ι σ:Type}(l:Array ι){f g:ι->Sem σ}(h:∀x∈l,Sim P' P C ρ (λ_ a b=>a=b) (f x) (g x)):
 Sim P' P C ρ (λ_ a b=>a=b) (l.mapM f) (l.mapM g):=by
 rw[Aak,Aak];exact Sim.map (Sim.ahY _ λx hx=>h x (by simpa using hx)) λ_ _ a b e _ _=>by rw[e]
def Sim.alloc(T:oe P)(t:ό):Sim (tw P F) P C ρ ah (Instr.alloc t θ (μ #[])) (Instr.alloc t θ (μ #[])):=by
 unfold Instr.alloc;refine Sim.bind' (Sim.zeroValue T t) λax h' v v' hv=>?_
 exact Sim.bind' (Sim.newVar t hv) λeY dR a b hab=>Sim.pure' λ_ h=>.ptr (hab.mono h)
def Sim.box(t:ό){v v':υ}(h:ah ρ v v'):Sim (tw P F) P C ρ ah (Instr.box t v) (Instr.box t v'):=by
 unfold Instr.box;exact Sim.bind' (Sim.newVar t h) λeY dR a b hab=>Sim.pure' λ_ h=>.ptr (hab.mono h)
def Sim.loadAt(t:ό){v v':υ}(h:ah ρ v v'):Sim (tw P F) P C ρ ah (Instr.loadAt t v) (Instr.loadAt t v'):=
 Sim.bind' (Sim.sureAddr h) λ_ _ _ _ hab=>Sim.loadVar t hab
def Sim.storeAt(t:ό){v v' x x':υ}(h:ah ρ v v')(hx:ah ρ x x'):Sim (tw P F) P C ρ (λ_ _ _=>True) (Instr.storeAt t v x) (Instr.storeAt t v' x'):=
 Sim.bind' (Sim.sureAddr h) λ_ h' _ _ hab=>Sim.storeVar t hab (hx.mono h')
def Sim.fieldAt(s:ό){v v':υ}(h:ah ρ v v')(i:Nat)(dh:∀fs f,P.underlying s=φ (.struct fs)->fs[i]?=φ f->∃info,P.info? f.type=φ info/\info.size≠0):
 Sim (tw P F) P C ρ ah (Instr.fieldAt s v i) (Instr.fieldAt s v' i):=by
 unfold Instr.fieldAt;refine Sim.fu λax h' d hd=>?_
 cases d;case struct fs=>
  simp only;cases hf:fs[i]? with
  |none=>exact Sim.stuck
  |some f=>
   simp only;refine Sim.bind' (Sim.sureAddr (h.mono h')) λeY dR a b hab=>?_
   refine Sim.bind' (R:=dU) ?_ λej h3 a b hab=>Sim.pure' λ_ h4=>.ptr (hab.mono h4)
   unfold Go.fieldPlace;unfold Go.sizeOf;obtain⟨info,hi,hz⟩:=dh fs f hd hf;simp only[bind_assoc,pure_bind];refine Sim.BH λej h3 i bu=>?_
   rw[hi] at bu;obtain rfl:=ϟ bu;simp only[if_neg hz];exact Sim.pure' λ_ h4=>(hab.mono (Ren.le_trans h3 h4)).add _
 all_goals exact Sim.stuck
inductive fl{α β:Type}(R:α->β->Prop):Option α->Option β->Prop
 |none:fl R ν ν
 |some {a:α} {b:β} (h:R a b):fl R (φ a) (φ b)
def fl.mono{α β:Type}{R R':α->β->Prop}(h:∀a b,R a b->R' a b){x:Option α}{y:Option β}(k:fl R x y):fl R' x y:=by
 cases k with
 |none=>exact .none
 |some k=>exact .some (h _ _ k)
def rX(t:ό)(k:Abb)(i:Int)(base:Option ϕ)(len:Nat)(elem:ό):Sem υ:=do
 let amf:=len<=1 && (match <-Go.underlying t with| .array .. =>θ|_=>χ)
 match base with
 |some a=>
  if 0<=i/\i<len then pure (π (φ (a.add (i.toNat * (<-Go.sizeOf elem)))))
  else if amf then Go.unsupported (.noEntry "op/indexAddr.an index out of range at an array of length 0 or 1 (ledger 616)")
  else Abk k i len .index
 |none=>Abk k i 0 .index
def Sim.rX(t:ό)(k:Abb)(i:Int){x y:Option ϕ}(hxy:fl (dU ρ) x y)(len:Nat)(e:ό):
 Sim (tw P F) P C ρ ah (rX t k i x len e) (rX t k i y len e):=by
 unfold Go.Sim.rX;refine Sim.fu λlB h4 d' Ud=>?_
 cases hxy with
 |none=>exact Sim.never (tS _ _ _ _)
 |some hxy=>
  simp only;split
  ·exact Sim.cE (Sim.sizeOf _) λuq h5 n=>Sim.pure' λ_ h6=>.ptr ((hxy.mono (Ren.le_trans h4 (Ren.le_trans h5 h6))).add _)
  ·split
   ·split
    ·exact Sim.unsupported
    ·exact Sim.never (tS _ _ _ _)
   ·split
    ·exact Sim.unsupported
    ·exact Sim.never (tS _ _ _ _)
def Sim.af2(t:ό)(k:Abb)(i:Int)(x y:ϕ)(e:ό):Sim (tw P F) P C ρ ah (Go.Sim.rX t k i (φ x) 0 e) (Go.Sim.rX t k i (φ y) 0 e):=by
 unfold Go.Sim.rX;refine Sim.fu λlB h4 d' Ud=>?_
 have hn:¬ (0<=i/\i<((0:Nat):Int)):=by omega
 simp only[if_neg hn];split
 ·split
  ·exact Sim.unsupported
  ·exact Sim.never (tS _ _ _ _)
 ·split
  ·exact Sim.unsupported
  ·exact Sim.never (tS _ _ _ _)
def Sim.indexAt(t:ό){v v' x x':υ}(h:ah ρ v v')(hx:ah ρ x x'):Sim (tw P F) P C ρ ah (Instr.indexAt t v x) (Instr.indexAt t v' x'):=by
 unfold Instr.indexAt;refine Sim.cE (Sim.asIntOf hx) λax h' ki=>?_
 obtain⟨k,i⟩:=ki;simp only;refine Sim.fu λeY dR d hd=>?_
 have h:=h.mono (Ren.le_trans h' dR);cases d;case array n e=>
  simp only;refine Sim.bind' (Sim.sureAddr h) λej h3 a b hab=>?_
  exact Sim.rX t k i (.some hab) n e
 case slice e=>
  cases h;case slice n c hab=>exact Sim.rX t k i (.some hab) n e
  case sliceNone n c=>exact Sim.rX t k i .none n e
  case sliceDead a b=>exact Sim.af2 t k i a b e
  all_goals exact Sim.y8
 all_goals (cases h<;>exact Sim.y8)
def Sim.field(t:ό){v v':υ}(h:ah ρ v v')(i:Nat):Sim (tw P F) P C ρ ah (Instr.field t v i) (Instr.field t v' i):=by
 unfold Instr.field;refine Sim.fu λax h' d hd=>?_
 cases d;case struct fs=>
  simp only;cases hf:fs[i]? with
  |none=>exact Sim.stuck
  |some f=>exact Sim.bind' (Sim.asAgg (h.mono h')) λ_ _ _ _ hab=>Sim.part _ hab _
 all_goals exact Sim.stuck
def Sim.index(t:ό){v v' x x':υ}(h:ah ρ v v')(hx:ah ρ x x'):Sim (tw P F) P C ρ ah (Instr.index t v x) (Instr.index t v' x'):=by
 unfold Instr.index;refine Sim.cE (Sim.asIntOf hx) λax h' ki=>?_
 obtain⟨k,i⟩:=ki;simp only;refine Sim.fu λeY dR d hd=>?_
 have h:=h.mono (Ren.le_trans h' dR);cases d;case array n e=>
  cases h;case agg hx h1=>
   simp only;split
   ·exact Sim.cE (Sim.sizeOf _) λuq h5 n=>Sim.part _ (aP.mono h5 ⟨hx,h1⟩) _
   ·exact Sim.never (tS _ _ _ _)
  all_goals exact Sim.stuck
 case string=>
  cases h;case string s=>
   simp only;split
   ·exact Sim.pure' λ_ _=>.int _ _
   ·exact Sim.never (tS _ _ _ _)
  all_goals exact Sim.stuck
 all_goals (cases h<;>exact Sim.stuck)
def Sim.sliceBound{v v':υ}(h:ah ρ v v')(y:Nat)(c:Abj):Sim (tw P F) P C ρ (λ_ a b=>a=b) (Acr v y c) (Acr v' y c):=by
 unfold Acr;refine Sim.cE (Sim.asIntOf h) λax h' ki=>?_
 obtain⟨k,i⟩:=ki;simp only;split
 ·exact Sim.pure' λ_ _=>rfl
 ·exact Sim.never (tS _ _ _ _)
def uK(l:Option υ)(mx:Bool)(y x:Nat):Sem (Nat×Nat×Nat):=
 match l with
 |some v=>Acr v y (if mx=θ then BoundsCode.slice3C else BoundsCode.sliceB)>>=λl=>Ϩ (l,y,x)
 |none=>Ϩ 0>>=λl=>Ϩ (l,y,x)
def Sim.ak7{l l':Option υ}(hl:fl (ah ρ) l l')(mx:Bool)(y x:Nat):Sim (tw P F) P C ρ (λ_ a b=>a=b) (uK l mx y x) (uK l' mx y x):=by
 cases hl with
 |none=>exact Sim.pure' λ_ _=>rfl
 |some hl=>exact Sim.cE (Sim.sliceBound hl _ _) λ_ _ _=>Sim.pure' λ_ _=>rfl
def Sim.sliceBounds(b:Bool)(n c:Nat){l l' h h' m m':Option υ}(hl:fl (ah ρ) l l')(hh:fl (ah ρ) h h')(hm:fl (ah ρ) m m'):
 Sim (tw P F) P C ρ (λ_ a b=>a=b) (Acs b n c l h m) (Acs b n c l' h' m'):=by
 have tl:∀(ax:Ren),ρ.le ax->∀(mx:Bool) (x y:Nat),Sim (tw P F) P C ax (λ_ a b=>a=b) (uK l mx y x) (uK l' mx y x):=
  λax h' mx x y=>Sim.ak7 (hl.mono λ_ _ x=>ah.mono h' x) mx y x
 unfold Acs;cases hm with
 |none=>
  cases hh with
  |none=>exact tl ρ ρ.le_refl χ c n
  |some hh=>
   simp only[pure_bind];exact Sim.cE (Sim.sliceBound hh _ _) λax h' y=>tl ax h' χ c y
 |some hm=>
  refine Sim.cE (Sim.sliceBound hm _ _) λax h' x=>?_
  cases hh with
  |none=>exact Sim.y8
  |some hh=>exact Sim.cE (Sim.sliceBound (hh.mono h') _ _) λeY dR y=>tl eY (Ren.le_trans h' dR) θ x y
def Sim.Jb{v v':υ}(h:ah ρ v v')(c:Abj):Sim (tw P F) P C ρ (λ_ a b=>a=0/\b=0) (Acr v 0 c) (Acr v' 0 c):=by
 unfold Acr;refine Sim.cE (Sim.asIntOf h) λax h' ki=>?_
 obtain⟨k,i⟩:=ki;simp only;split
 ·have:i.toNat=0:=by omega
  exact Sim.pure' λ_ _=>⟨this,this⟩
 ·exact Sim.never (tS _ _ _ _)
def Sim.ak8{l l':Option υ}(hl:fl (ah ρ) l l')(mx:Bool):Sim (tw P F) P C ρ (λ_ a b=>a=(0,0,0)/\b=(0,0,0)) (uK l mx 0 0) (uK l' mx 0 0):=by
 cases hl with
 |none=>exact Sim.pure' λ_ _=>⟨rfl,rfl⟩
 |some hl=>exact Sim.bind' (Sim.Jb hl _) λ_ _ a b ⟨ha,hb⟩=>by subst ha hb;exact Sim.pure' λ_ _=>⟨rfl,rfl⟩
def Sim.alw(b:Bool){l l' h h' m m':Option υ}(hl:fl (ah ρ) l l')(hh:fl (ah ρ) h h')(hm:fl (ah ρ) m m'):
 Sim (tw P F) P C ρ (λ_ a b=>a=(0,0,0)/\b=(0,0,0)) (Acs b 0 0 l h m) (Acs b 0 0 l' h' m'):=by
 have tl:∀(ax:Ren),ρ.le ax->∀(mx:Bool),Sim (tw P F) P C ax (λ_ a b=>a=(0,0,0)/\b=(0,0,0)) (uK l mx 0 0) (uK l' mx 0 0):=
  λax h' mx=>Sim.ak8 (hl.mono λ_ _ x=>ah.mono h' x) mx
 unfold Acs;cases hm with
 |none=>
  cases hh with
  |none=>exact tl ρ ρ.le_refl χ
  |some hh=>
   simp only[pure_bind];exact Sim.bind' (Sim.Jb hh _) λax h' x y hxy=>by obtain⟨rfl,rfl⟩:=hxy;exact tl ax h' χ
 |some hm=>
  refine Sim.bind' (Sim.Jb hm _) λax h' x y hxy=>?_
  obtain⟨rfl,rfl⟩:=hxy;cases hh with
  |none=>exact Sim.y8
  |some hh=>exact Sim.bind' (Sim.Jb (hh.mono h') _) λeY dR x y hxy=>by obtain⟨rfl,rfl⟩:=hxy;exact tl eY (Ren.le_trans h' dR) θ
def Sim.slice(t:ό){v v':υ}{l l' h h' m m':Option υ}(hv:ah ρ v v')(hl:fl (ah ρ) l l')(hh:fl (ah ρ) h h')(hm:fl (ah ρ) m m'):
 Sim (tw P F) P C ρ ah (Acu t v l h m) (Acu t v' l' h' m'):=by
 unfold Acu;refine Sim.fu λcw h1 d hd=>?_
 have hv:=hv.mono h1;have hl:=hl.mono λ_ _ x=>ah.mono h1 x
 have hh:=hh.mono λ_ _ x=>ah.mono h1 x
 have hm:=hm.mono λ_ _ x=>ah.mono h1 x
 cases d;case string=>
  cases hv;case string s=>
   cases hm with
   |some _=>exact Sim.y8
   |none=>
    refine Sim.cE (Sim.sliceBounds _ _ _ hl hh .none) λbM h2 x=>Sim.pure' λ_ _=>.string _
  all_goals exact Sim.stuck
 case slice e=>
  cases hv;case slice n c hab=>
   refine Sim.cE (Sim.sliceBounds _ _ _ hl hh hm) λbM h2 x=>?_
   obtain⟨x1,x2,x3⟩:=x;simp only;refine Sim.cE (Sim.sizeOf _) λej h3 n=>?_
   refine Sim.pure' λlB h4=>?_
   have hab:=hab.mono (Ren.le_trans h2 (Ren.le_trans h3 h4));split
   ·exact .slice _ _ hab
   ·exact .slice _ _ (hab.add _)
  case sliceNone n c=>
   refine Sim.cE (Sim.sliceBounds _ _ _ hl hh hm) λbM h2 x=>?_
   obtain⟨x1,x2,x3⟩:=x;simp only;refine Sim.cE (Sim.sizeOf _) λej h3 n=>?_
   refine Sim.pure' λlB h4=>?_
   split<;>exact .sliceNone _ _
  case sliceDead a b=>
   refine Sim.bind' (Sim.alw _ hl hh hm) λbM h2 x y hxy=>?_
   obtain⟨rfl,rfl⟩:=hxy;simp only;refine Sim.cE (Sim.sizeOf _) λej h3 n=>?_
   refine Sim.pure' λlB h4=>?_
   split<;>exact .sliceDead _ _
  all_goals exact Sim.stuck
 case pointer arr=>
  simp only;refine Sim.bind' (Sim.asAddr hv) λbM h2 a b hab=>?_
  refine Sim.fu λej h3 d' Ud=>?_
  cases d';case array n e=>
   simp only;refine Sim.cE (Sim.sliceBounds _ _ _ (hl.mono λ_ _ x=>ah.mono (Ren.le_trans h2 h3) x) (hh.mono λ_ _ x=>ah.mono (Ren.le_trans h2 h3) x) (hm.mono λ_ _ x=>ah.mono (Ren.le_trans h2 h3) x)) λlB h4 x=>?_
   obtain⟨x1,x2,x3⟩:=x;simp only;refine Sim.cE (Sim.sizeOf _) λuq h5 n=>?_
   refine Sim.pure' λQC h6=>?_
   have hab:=hab.mono (Ren.le_trans h3 (Ren.le_trans h4 (Ren.le_trans h5 h6)));split
   ·exact .slice _ _ hab
   ·exact .slice _ _ (hab.add _)
  all_goals exact Sim.stuck
 all_goals (cases hv<;>exact Sim.stuck)
def Sim.sliceAt(t:ό){v v':υ}{l l' h h' m m':Option υ}(hv:ah ρ v v')(hl:fl (ah ρ) l l')(hh:fl (ah ρ) h h')(hm:fl (ah ρ) m m'):
 Sim (tw P F) P C ρ ah (Acv t v l h m) (Acv t v' l' h' m'):=by
 unfold Acv;refine Sim.fu λcw h1 d hd=>?_
 have hv:=hv.mono h1;have hl:=hl.mono λ_ _ x=>ah.mono h1 x
 have hh:=hh.mono λ_ _ x=>ah.mono h1 x
 have hm:=hm.mono λ_ _ x=>ah.mono h1 x
 cases d;case array n e=>
  simp only;refine Sim.bind' (Sim.sureAddr hv) λbM h2 a b hab=>?_
  refine Sim.cE (Sim.sliceBounds _ _ _ (hl.mono λ_ _ x=>ah.mono h2 x) (hh.mono λ_ _ x=>ah.mono h2 x) (hm.mono λ_ _ x=>ah.mono h2 x)) λlB h4 x=>?_
  obtain⟨x1,x2,x3⟩:=x;simp only;refine Sim.cE (Sim.sizeOf _) λuq h5 n=>?_
  refine Sim.pure' λQC h6=>?_
  have hab:=hab.mono (Ren.le_trans h4 (Ren.le_trans h5 h6));split
  ·exact .slice _ _ hab
  ·exact .slice _ _ (hab.add _)
 all_goals exact Sim.slice t hv hl hh hm
def br.program{P':ϑ}{f:ϑ->Sem γ}(h:br P' (f P')):br P' (Go.program>>=f):=by
 intro w a aa hr;exact h w a aa hr
def br.typeInfo{t:ό}{f:TypeInfo->Sem γ}(h:∀i,P.info? t=φ i->br (tw P F) (f i)):br (tw P F) (Go.typeInfo t>>=f):=by
 unfold Go.typeInfo;rw[bind_assoc];refine br.program ?_
 rw[ly];cases e: P.info? t with
 |none=>exact br.halt
 |some i=>exact h i e
def XL(P:ϑ)(F:Array Ϣ):∀(n:Nat) (t u:ό),(tw P F).alikeButTags n t u=P.alikeButTags n t u
 |0,_,_=>rfl
 |n+1,t,u=>by
  have e:(tw P F).alikeButTags n=P.alikeButTags n:=funext λt=>funext λu=>XL P F n t u
  unfold Program.alikeButTags;rw[e,ly,ly]
def amx(P:ϑ)(F:Array Ϣ)(t:ό):(tw P F).underlyingId t=P.underlyingId t:=by
 unfold Program.underlyingId;rw[ly]
def BF(P:ϑ)(F:Array Ϣ):(tw P F).depth=P.depth:=rfl
def amw(P:ϑ)(F:Array Ϣ)(t:ό):(tw P F).stoodInAs t=P.stoodInAs t:=by
 unfold Program.stoodInAs;simp only[jH,XL,amx,BF];rfl
def XQ(P:ϑ)(F:Array Ϣ)(t:ό):(tw P F).stoodInHeld t=P.stoodInHeld t:=by
 unfold Program.stoodInHeld;rw[amw,ly]
def Jk(P:ϑ)(F:Array Ϣ):∀(d:Nat) (t:ό),(tw P F).eqGuardType d t=P.eqGuardType d t
 |0,_=>rfl
 |d+1,t=>by
  have e:(tw P F).eqGuardType d=P.eqGuardType d:=funext λt=>Jk P F d t
  unfold Program.eqGuardType;rw[jH,e]
def gK(P:ϑ):Nat->ό->Bool
 |0,_=>χ
 |d+1,t=>
  match P.info? t with
  |none=>χ
  |some i=>
   (match i.desc with| .named "sync.copyChecker" _=>χ|_=>θ) &&
   match P.underlying t with
   |some .bool|some (.int _) |some .string|some (.slice _) |some (.map _ _) |some (.func _ _ _)=>θ
   |some (.struct fs)=>fs.all λf=>gK P d f.type
   |some (.array _ e)=>gK P d e
   |_=>χ
def Sim.equalIn:∀(d n:Nat) (t:ό) {x x' y y':υ} {ρ:Ren},gK P n t=θ->ah ρ x x'->ah ρ y y'->
 Sim (tw P F) P C ρ (λ_ a b=>a=b) (Adp d t x y) (Adp d t x' y'):=by
 intro d;induction d with
 |zero=>intro n t x x' y y' ρ _ _ _;exact Sim.halt
 |succ d ih=>
  intro n t x x' y y' ρ h hx hy;cases n with
  |zero=>cases h
  |succ n=>
  unfold Adp;refine Sim.fu λcw h1 ds hd=>?_
  have hx:=hx.mono h1;have hy:=hy.mono h1;unfold gK at h;cases hi: P.info? t with
  |none=>rw[hi] at h;cases h
  |some info=>
  rw[hi,hd] at h;simp only[Aa3] at h;obtain⟨cX,h⟩:=h;cases ds;case bool=>
   cases hx<;>first|exact Sim.stuck| (cases hy<;>first|exact Sim.pure' λ_ _=>rfl|exact Sim.stuck)
  case string=>
   cases hx<;>first|exact Sim.stuck| (cases hy<;>first|exact Sim.pure' λ_ _=>rfl|exact Sim.stuck)
  case int k=>
   cases hx;case int k a=>
    cases hy;case int k' b=>
     have key:Sim (tw P F) P C cw (λ_ a b=>a=b) (if k=k' then Ϩ (a==b) else Go.stuck "==: kinds differ") (if k=k' then Ϩ (a==b) else Go.stuck "==: kinds differ"):=by
      split
      ·exact Sim.pure' λ_ _=>rfl
      ·exact Sim.stuck
     cases a with
     |ofNat a=>cases a<;>(cases b with|ofNat b=>cases b<;>exact key|negSucc b=>exact key)
     |negSucc a=>cases b with|ofNat b=>cases b<;>exact key|negSucc b=>exact key
    case ptr hab=>
     cases a with
     |ofNat a=>cases a<;>first|exact Sim.pure' λ_ _=>rfl|exact Sim.unsupported
     |negSucc a=>exact Sim.unsupported
    all_goals first|exact Sim.unsupported|exact Sim.stuck
   case ptr hab=>
    cases hy;case ptr hab'=>
     refine Sim.never ?_
     refine br.kI λ_=>br.kI λ_=>br.program ?_
     split
     ·rename_i hc
      simp[tw] at hc
     ·refine br.typeInfo λi bu=>?_
      rw[hi] at bu;obtain rfl:=ϟ bu;split
      ·rename_i dH
       rw[dH] at cX;cases cX
      ·exact br.halt
    case int k' b=>
     cases b with
     |ofNat b=>cases b<;>first|exact Sim.pure' λ_ _=>rfl|exact Sim.unsupported
     |negSucc b=>exact Sim.unsupported
    all_goals first|exact Sim.unsupported|exact Sim.stuck
   case ptrNone=>cases hy<;>exact Sim.unsupported
   all_goals (cases hy<;>first|exact Sim.unsupported|exact Sim.stuck)
  case slice e=>
   cases hx<;>first|exact Sim.stuck| (cases hy<;>first|exact Sim.pure' λ_ _=>rfl|exact Sim.stuck)
  case map k e=>
   cases hx<;>first|exact Sim.stuck| (cases hy<;>first|exact Sim.pure' λ_ _=>rfl|exact Sim.stuck)
  case func a b c=>
   cases hx<;>first|exact Sim.stuck| (cases hy<;>first|exact Sim.pure' λ_ _=>rfl|exact Sim.stuck)
  case struct fs=>
   cases hx;case agg hxs hxs'=>
    cases hy;case agg hys hys'=>
     simp only;refine Sim.bind' Sim.program λbM h2 p p' hp=>?_
     obtain⟨rfl,rfl⟩:=hp;rw[XQ];split
     ·exact Sim.unsupported
     ·refine Sim.cE (Sim.Tg fs (λf hf s=>?_) _) λej h3 r=>?_
      ·have Nl:gK p' n f.type=θ:=by
        simp only[Aal] at h;exact h f hf
       split
       ·refine Sim.bind' (Sim.part f.type (aP.mono h2 ⟨hxs,hxs'⟩) _) λej h3 a a' ha=>?_
        refine Sim.bind' (Sim.part f.type (aP.mono (Ren.le_trans h2 h3) ⟨hys,hys'⟩) _) λlB h4 b b' hb=>?_
        refine Sim.cE (ih n f.type Nl (ha.mono h4) hb) λuq h5 r=>?_
        cases r<;>exact Sim.pure' λ_ _=>rfl
       ·exact Sim.pure' λ_ _=>rfl
      ·obtain⟨r,_⟩:=r
       cases r<;>exact Sim.pure' λ_ _=>rfl
    all_goals exact Sim.stuck
   all_goals (cases hy<;>exact Sim.stuck)
  case array len e=>
   cases hx;case agg hxs hxs'=>
    cases hy;case agg hys hys'=>
     simp only;refine Sim.cE (Sim.sizeOf e) λbM h2 m=>?_
     simp only[Aej];refine Sim.cE (Sim.Mh _ (λi hi s=>?_) _) λej h3 r=>?_
     ·refine Sim.bind' (Sim.part e (aP.mono h2 ⟨hxs,hxs'⟩) _) λej h3 a a' ha=>?_
      refine Sim.bind' (Sim.part e (aP.mono (Ren.le_trans h2 h3) ⟨hys,hys'⟩) _) λlB h4 b b' hb=>?_
      refine Sim.cE (ih n e h (ha.mono h4) hb) λuq h5 r=>?_
      cases r<;>exact Sim.pure' λ_ _=>rfl
     ·obtain⟨r,_⟩:=r
      cases r<;>exact Sim.pure' λ_ _=>rfl
    all_goals exact Sim.stuck
   all_goals (cases hy<;>exact Sim.stuck)
  all_goals cases h
def FK(P:ϑ)(F:Array Ϣ)(t:ό):(tw P F).cellsOf t=P.cellsOf t:=by unfold Program.cellsOf;rw[ly]
def Jj(P:ϑ)(F:Array Ϣ)(t:ό):(tw P F).bytesOf t=P.bytesOf t:=by unfold Program.bytesOf;rw[ly]
def Qe(P:ϑ)(F:Array Ϣ):∀(d:Nat) (t:ό) (o:Nat),Abm (tw P F) d t o=Abm P d t o
 |0,_,_=>rfl
 |d+1,t,o=>by
  have e:Abm (tw P F) d=Abm P d:=funext λt=>funext λo=>Qe P F d t o
  unfold Abm;simp only[jH,e,FK,Jj]
def XM(P:ϑ)(F:Array Ϣ):∀(d:Nat) (t:ό) (o:Nat),Abn (tw P F) d t o=Abn P d t o
 |0,_,_=>rfl
 |d+1,t,o=>by
  have e:Abn (tw P F) d=Abn P d:=funext λt=>funext λo=>XM P F d t o
  unfold Abn;simp only[jH,e,FK,Jj]
def ams(P:ϑ)(F:Array Ϣ)(d:Nat)(e:ό)(c o:Nat)(b:Int):cellAtBytes (tw P F) d e c o b=cellAtBytes P d e c o b:=by
 unfold cellAtBytes;simp only[FK,Jj,Qe,XM]
def Sim.Fw{P':ϑ}{a b:Nat}{f:Option (ό×Nat)->Sem γ}{g:Option (ό×Nat)->Sem δ}(h:ρ a b)(hf:∀ax,ρ.le ax->∀x,Sim P' P C ax S (f x) (g x)):
 Sim P' P C ρ S (Go.shape a>>=f) (Go.shape b>>=g):=Sim.cE (Sim.shape h) hf
def Sim.viewAt{P':ϑ}{a b:Nat}(h:ρ a b):Sim P' P C ρ (λ_ x y=>x=ν/\y=ν) (Go.viewAt a) (Go.viewAt b):=by
 unfold Go.viewAt;refine Sim.Fw h λax h' x=>?_
 cases x with
 |some x=>exact Sim.pure' λ_ _=>⟨rfl,rfl⟩
 |none=>
  refine Sim.bind' (Sim.getObj (h' _ _ h)) λeY dR o o' r=>?_
  cases r<;>exact Sim.pure' λ_ _=>⟨rfl,rfl⟩
def Sim.numberAt{P':ϑ}{a b:Nat}(h:ρ a b):Sim P' P C ρ (λρ x y=>fl (λp q=>dU ρ p.1 q.1/\p.2=q.2) x y) (Go.numberAt a) (Go.numberAt b):=by
 unfold Go.numberAt;refine Sim.Fw h λax h' x=>?_
 cases x with
 |some x=>exact Sim.pure' λ_ _=>.none
 |none=>
  refine Sim.bind' (Sim.getObj (h' _ _ h)) λeY dR o o' r=>?_
  cases r;case number l hab=>exact Sim.pure' λ_ h3=>.some ⟨hab.mono h3,rfl⟩
  all_goals exact Sim.pure' λ_ _=>.none
def Sim.behindNumber{P':ϑ}{a b:ϕ}(h:dU ρ a b):Sim P' P C ρ (λρ x y=>dU ρ x.1 y.1/\x.2=y.2) (Go.behindNumber a) (Go.behindNumber b):=by
 unfold Go.behindNumber;refine Sim.bind' (Sim.numberAt h.1) λax h' x y r=>?_
 cases r with
 |none=>exact Sim.pure' λ_ h3=>⟨(h.mono h').mono h3,rfl⟩
 |some r=>exact Sim.pure' λ_ h3=>⟨r.1.mono h3,r.2⟩
def Sim.asNumber{P':ϑ}{a b:ϕ}(h:dU ρ a b)(l:Bool):Sim P' P C ρ ah (Go.asNumber a l) (Go.asNumber b l):=by
 unfold Go.asNumber;exact Sim.bind' (Sim.newObj (.number l h)) λax _ a b hab=>Sim.pure' λ_ h3=>.ptr ⟨h3 _ _ hab,rfl,rfl⟩
def Sim.noView{P':ϑ}{a b:ϕ}(h:dU ρ a b):Sim P' P C ρ (λ_ _ _=>True) (Go.noView a) (Go.noView b):=by
 unfold Go.noView;refine Sim.bind' (Sim.viewAt h.1) λax h' x y r=>?_
 obtain⟨rfl,rfl⟩:=r;exact Sim.pure' λ_ _=>trivial
def Sim.byteOf{a b:ϕ}(h:dU ρ a b):Sim (tw P F) P C ρ (λ_ x y=>x=y) (Go.byteOf a) (Go.byteOf b):=by
 unfold Go.byteOf;rw[<-h.2.2,<-h.2.1];cases a.spot with
 |some s=>exact Sim.pure' λ_ _=>rfl
 |none=>
  refine Sim.bind' Sim.program λcw h1 p p' hp=>?_
  obtain⟨rfl,rfl⟩:=hp;refine Sim.bind' (Sim.noView (h.mono h1)) λbM h2 _ _ _=>?_
  refine Sim.Fw (h.mono (Ren.le_trans h1 h2)).1 λej h3 x=>?_
  cases x with
  |none=>exact Sim.stuck
  |some x=>
   simp only[FK,Jj,Qe,BF];split
   ·exact Sim.pure' λ_ _=>rfl
   ·cases Abm p' p'.depth x.1 (a.off % p'.cellsOf x.1) with
    |none=>exact Sim.stuck
    |some _=>exact Sim.pure' λ_ _=>rfl
def Sim.unsafeAdd(t:ό){x x' y y':υ}(hx:ah ρ x x')(hy:ah ρ y y'):Sim (tw P F) P C ρ (λρ u u'=>∃a b,u=π (φ a)/\u'=π (φ b)/\dU ρ a b) (Ab4 #[] t #[x,y]) (Ab4 #[] t #[x',y']):=by
 unfold Ab4;cases hx;case ptrNone=>
  refine Sim.cE (Sim.asInt hy) λcw h1 n=>?_
  simp only;split
  ·exact Sim.unsupported
  ·split
   ·exact Sim.BI
   ·exact Sim.unsupported
 case ptr hab=>
  refine Sim.cE (Sim.asInt hy) λcw h1 n=>?_
  have hab:=hab.mono h1;simp only;split
  ·refine Sim.bind' (Sim.viewAt hab.1) λbM h2 x y r=>?_
   obtain⟨rfl,rfl⟩:=r;exact Sim.pure' λ_ h3=>⟨_,_,rfl,rfl,hab.mono (Ren.le_trans h2 h3)⟩
  ·split
   ·exact Sim.BI
   ·refine Sim.Fw hab.1 λej h3 x=>?_
    cases x with
    |none=>exact Sim.unsupported
    |some x=>
     refine Sim.bind' Sim.program λlB h4 p p' hp=>?_
     obtain⟨rfl,rfl⟩:=hp;simp only[ams,BF,FK,hab.2.1];split
     ·exact Sim.pure' λ_ h5=>⟨_,_,rfl,rfl,(hab.mono (Ren.le_trans h3 (Ren.le_trans h4 h5))).1,rfl,hab.2.2⟩
     ·exact Sim.unsupported
 all_goals exact Sim.stuck
def Ey(t:ό)(x y:υ):Sem υ:=do
 let π (φ n):=x|Ab4 #[] t #[x,y]
 let (a,lost) <-Go.behindNumber n
 match <-Ab4 #[] t #[π (φ a),y] with
 | .pointer (φ b)=>Go.asNumber b lost
 |v=>pure v
def Sim.Ey(t:ό){x x' y y':υ}(hx:ah ρ x x')(hy:ah ρ y y'):Sim (tw P F) P C ρ ah (Ey t x y) (Ey t x' y'):=by
 unfold Go.Sim.Ey;have gen:Sim (tw P F) P C ρ ah (Ab4 #[] t #[x,y]) (Ab4 #[] t #[x',y']):=(Sim.unsafeAdd t hx hy).SC λ_ _ _ _ ⟨a,b,e1,e2,h⟩=>by subst e1 e2;exact .ptr h
 cases hx;case ptr hab=>
  refine Sim.bind' (Sim.behindNumber hab) λbM h2 a b r=>?_
  obtain⟨a,l⟩:=a;obtain⟨b,l'⟩:=b;obtain⟨r,e⟩:=r;simp only at r e |-
  subst e;refine Sim.bind' (Sim.unsafeAdd t (.ptr r) (hy.mono h2)) λej h3 u u' hu=>?_
  obtain⟨a,b,rfl,rfl,hab⟩:=hu;exact Sim.asNumber hab _
 case junk=>exact Sim.stuck
 all_goals exact gen
def Sim.movedNumber(t:ό){x x' y y':υ}(hx:ah ρ x x')(hy:ah ρ y y'):Sim (tw P F) P C ρ ah (Go.movedNumber t x y) (Go.movedNumber t x' y'):=by
 unfold Go.movedNumber;refine Sim.fu λcw h1 d _=>?_
 have hx:=hx.mono h1;have hy:=hy.mono h1;cases d<;>first|exact Sim.BI|exact Sim.Ey t hx hy
def Sim.yq(op:Abo)(t:ό)(k:Abb)(a:Int)(k':Abb)(b:Int):Sim (tw P F) P C ρ ah (Go.binOp op t (.int k a) (.int k' b)) (Go.binOp op t (.int k a) (.int k' b)):=by
 have shift:∀op,Sim (tw P F) P C ρ ah (Op.shift op k a k' b) (Op.shift op k a k' b):=by
  intro op;unfold Op.shift;split
  ·exact Sim.never (nL _)
  ·cases op<;>first|exact Sim.stuck|exact Sim.pure' λ_ _=>.int _ _
 have div:∀op,Sim (tw P F) P C ρ ah (Op.intDiv op k a b) (Op.intDiv op k a b):=by
  intro op;unfold Op.intDiv;split
  ·exact Sim.never (nL _)
  ·cases op<;>first|exact Sim.stuck|exact Sim.pure' λ_ _=>.int _ _
 cases op;case shl=>exact shift .shl
 case shr=>exact shift .shr
 all_goals
  simp only[Go.binOp];split
  ·exact Sim.stuck
  ·first|exact div _|exact Sim.pure' λ_ _=>.int _ _|exact Sim.pure' λ_ _=>.bool _
def Sim.y7(op:Abo)(t:ό)(a b:ByteArray):Sim (tw P F) P C ρ ah (Go.binOp op t (.string a) (.string b)) (Go.binOp op t (.string a) (.string b)):=by
 cases op;case add=>
  simp only[Go.binOp,Op.stringOp];split
  ·exact Sim.unsupported
  ·exact Sim.pure' λ_ _=>.string _
 all_goals first|exact Sim.pure' λ_ _=>.bool _|exact Sim.stuck
def Sim.Sd{x y:Sem Bool}(h:Sim (tw P F) P C ρ (λ_ a b=>a=b) x y)(f:Bool->Bool):Sim (tw P F) P C ρ ah (x>>=λb=>Ϩ (Value.bool (f b))) (y>>=λb=>Ϩ (Value.bool (f b))):=
 Sim.cE h λ_ _ _=>Sim.pure' λ_ _=>.bool _
def Oy(t:ό)(y:υ):br (tw P F) (Adq t (μ #[]) y):=by
 show br _ (Adp (9999+1) t (μ #[]) y);unfold Adp;refine br.kI λd=>?_
 cases d<;>first|exact br.halt| (cases y<;>exact br.halt)
def Oz(t:ό)(x:υ):br (tw P F) (Adq t x (μ #[])):=by
 show br _ (Adp (9999+1) t x (μ #[]));unfold Adp;refine br.kI λd=>?_
 cases d<;>(cases x<;>first|exact br.halt| (rename_i a _ _;cases a<;>exact br.halt) | (rename_i a;cases a<;>exact br.halt))
def Sim.RS(neq:Bool)(t:ό){n:Nat}(ht:gK P n t=θ){x x' y y':υ}(hx:ah ρ x x')(hy:ah ρ y y'):
 Sim (tw P F) P C ρ ah (Go.binOp (if neq then .neq else .eql) t x y) (Go.binOp (if neq then .neq else .eql) t x' y'):=by
 have e:Sim (tw P F) P C ρ (λ_ a b=>a=b) (Adq t x y) (Adq t x' y'):=Sim.equalIn _ n t ht hx hy
 have e1:=Sim.Sd e id;have e2:=Sim.Sd e not;cases neq;all_goals
  simp only[Aa2,if_false,if_true];cases hx<;>cases hy<;>first|exact e1|exact e2|exact Sim.yq .eql t _ _ _ _|exact Sim.y7 .eql t _ _|exact Sim.yq .neq t _ _ _ _|exact Sim.y7 .neq t _ _|exact Sim.never (br.bind (Oy _ _)) |exact Sim.never (br.bind (Oz _ _))
def Sim.movedPointer(t:ό){x x' y y':υ}(hx:ah ρ x x')(hy:ah ρ y y'):Sim (tw P F) P C ρ ah (Go.movedPointer t x y) (Go.movedPointer t x' y'):=by
 unfold Go.movedPointer;have gen:∀ax,ρ.le ax->Sim (tw P F) P C ax ah (Ab4 #[] t #[x,y]) (Ab4 #[] t #[x',y']):=λax h'=>(Sim.unsafeAdd t (hx.mono h') (hy.mono h')).SC λ_ _ _ _ ⟨a,b,e1,e2,h⟩=>by subst e1 e2;exact .ptr h
 cases hx;case ptr hab=>
  refine Sim.bind' (Sim.numberAt hab.1) λbM h2 a b r=>?_
  cases r with
  |none=>exact gen bM h2
  |some r=>exact Sim.BI
 case junk=>exact Sim.stuck
 all_goals exact gen ρ ρ.le_refl
def Wf(a b:ϕ):br (tw P F) (Op.twoPlaces a b):=by
 unfold Op.twoPlaces;refine br.program ?_
 simp only;have:(a.block !=b.block||decide (a.block>=(tw P F).globals.size))=θ:=by simp[tw]
 rw[if_pos this];exact br.bind br.halt
def Sim.addrMod(k:Abb){a b:ϕ}(h:dU ρ a b)(n:Int):Sim (tw P F) P C ρ ah (Adr k a n) (Adr k b n):=by
 unfold Adr;refine Sim.Fw h.1 λcw h1 x=>?_
 cases x with
 |none=>exact Sim.unsupported
 |some x=>
  refine Sim.BH λbM h2 i _=>?_
  simp only;split
  ·exact Sim.BI
  ·exact Sim.cE (Sim.byteOf (h.mono (Ren.le_trans h1 h2))) λ_ _ _=>Sim.pure' λ_ _=>.int _ _
def aiQ(op:Abo)(a b:ϕ):br (tw P F) (Go.behindNumber a>>=λx=>Go.behindNumber b>>=λy=>Op.addrCmp op x.1 y.1):=by
 refine br.kI λx=>br.kI λy=>?_
 unfold Op.addrCmp;exact br.bind (Wf _ _)
def aiR(a b:ϕ):br (tw P F) (Go.behindNumber a>>=λx=>Go.behindNumber b>>=λy=>Op.addrSub .u64 x.1 y.1):=by
 refine br.kI λx=>br.kI λy=>?_
 unfold Op.addrSub;exact br.bind (Wf _ _)
def Sim.WA(k:Abb){a b:ϕ}(h:dU ρ a b)(n:Int):Sim (tw P F) P C ρ ah (Go.behindNumber a>>=λx=>Adr k x.1 n) (Go.behindNumber b>>=λx=>Adr k x.1 n):=
 Sim.bind' (Sim.behindNumber h) λ_ _ _ _ r=>Sim.addrMod k r.1 n
def Sim.ajH(t:ό){x x' y y':υ}(hx:ah ρ x x')(hy:ah ρ y y'):
 Sim (tw P F) P C ρ ah (Go.underlying t>>=λd=>if(match d with| .unsafePointer=>θ|_=>χ)=θ then Go.movedPointer t x y else Go.movedNumber t x y)
  (Go.underlying t>>=λd=>if(match d with| .unsafePointer=>θ|_=>χ)=θ then Go.movedPointer t x' y' else Go.movedNumber t x' y'):=by
 refine Sim.fu λcw h1 d _=>?_
 split
 ·exact Sim.movedPointer t (hx.mono h1) (hy.mono h1)
 ·exact Sim.movedNumber t (hx.mono h1) (hy.mono h1)
def Sim.afP(t:ό){x x' y y':υ}(hx:ah ρ x x')(hy:ah ρ y y'):Sim (tw P F) P C ρ ah (Go.binOp .add t x y) (Go.binOp .add t x' y'):=by
 have p1:=Sim.ajH (P:=P) (F:=F) (C:=C) t hx hy;have p2:=Sim.movedNumber (P:=P) (F:=F) (C:=C) t hy hx;cases hx<;>cases hy<;>first|exact Sim.stuck|exact Sim.unsupported|exact Sim.yq .add t _ _ _ _|exact Sim.y7 .add t _ _|exact p1|exact p2
def Sim.ZF(t:ό){x x' y y':υ}(hx:ah ρ x x')(hy:ah ρ y y'):Sim (tw P F) P C ρ ah (Go.binOp .sub t x y) (Go.binOp .sub t x' y'):=by
 have p:∀k n,Sim (tw P F) P C ρ ah (Go.movedNumber t x (.int k (-n))) (Go.movedNumber t x' (.int k (-n))):=λk n=>Sim.movedNumber t hx (.int _ _)
 cases hx<;>cases hy<;>first|exact Sim.stuck|exact Sim.unsupported|exact Sim.yq .sub t _ _ _ _|exact Sim.y7 .sub t _ _|exact p _ _|exact Sim.never (aiR _ _)
def Sim.ZB(t:ό){x x' y y':υ}(hx:ah ρ x x')(hy:ah ρ y y'):Sim (tw P F) P C ρ ah (Go.binOp .and t x y) (Go.binOp .and t x' y'):=by
 cases hx<;>cases hy<;>first|exact Sim.stuck|exact Sim.unsupported|exact Sim.yq .and t _ _ _ _|exact Sim.y7 .and t _ _|exact Sim.WA _ (by assumption) _
def Sim.ZE(t:ό){x x' y y':υ}(hx:ah ρ x x')(hy:ah ρ y y'):Sim (tw P F) P C ρ ah (Go.binOp .rem t x y) (Go.binOp .rem t x' y'):=by
 cases hx<;>cases hy<;>first|exact Sim.stuck|exact Sim.unsupported|exact Sim.yq .rem t _ _ _ _|exact Sim.y7 .rem t _ _|exact Sim.WA _ (by assumption) _
inductive oT:Abo->Prop
 |mul:oT .mul
 |quo:oT .quo
 |or:oT .or
 |xor:oT .xor
 |shl:oT .shl
 |shr:oT .shr
 |andNot:oT .andNot
 |lss:oT .lss
 |leq:oT .leq
 |gtr:oT .gtr
 |geq:oT .geq
def Sim.ZC(op:Abo)(ho:oT op)(t:ό){x x' y y':υ}(hx:ah ρ x x')(hy:ah ρ y y'):Sim (tw P F) P C ρ ah (Go.binOp op t x y) (Go.binOp op t x' y'):=by
 cases ho<;>(cases hx<;>cases hy<;>first|exact Sim.stuck|exact Sim.unsupported|exact Sim.yq _ t _ _ _ _|exact Sim.y7 _ t _ _|exact Sim.never (aiQ _ _ _))
def Sim.binOp(op:Abo)(t:ό){n:Nat}(ht:op=.eql\/op=.neq->gK P n t=θ){x x' y y':υ}(hx:ah ρ x x')(hy:ah ρ y y'):
 Sim (tw P F) P C ρ ah (Go.binOp op t x y) (Go.binOp op t x' y'):=by
 cases op;case eql=>exact Sim.RS χ t (ht (.inl rfl)) hx hy
 case neq=>exact Sim.RS θ t (ht (.inr rfl)) hx hy
 case add=>exact Sim.afP t hx hy
 case sub=>exact Sim.ZF t hx hy
 case and=>exact Sim.ZB t hx hy
 case rem=>exact Sim.ZE t hx hy
 all_goals exact Sim.ZC _ (by constructor) t hx hy
def aiS(op:Abo)(t:ό)(b:υ):br (tw P F) (Go.binOp op t (μ #[]) b):=by
 cases op;case eql=>cases b<;>exact br.bind (Oy t _)
 case neq=>cases b<;>exact br.bind (Oy t _)
 all_goals (cases b<;>exact br.halt)
def aiT(op:Abo)(t:ό)(a:υ):br (tw P F) (Go.binOp op t a (μ #[])):=by
 cases op;case eql=>cases a<;>exact br.bind (Oz t _)
 case neq=>cases a<;>exact br.bind (Oz t _)
 all_goals (cases a<;>first|exact br.halt| (rename_i a;cases a<;>exact br.halt))
def Sim.ajj(op:Abo)(t:ό){n:Nat}(ht:op=.eql\/op=.neq->gK P n t=θ/\P.eqGuardType P.depth t=χ)(x y:Abp){a a' b b':υ}(ha:ah ρ a a')(hb:ah ρ b b'):
 Sim (tw P F) P C ρ ah (do Go.eqGuard op t x y a b;Go.binOp op t a b) (do Go.eqGuard op t x y a' b';Go.binOp op t a' b'):=by
 by_cases ja:a=μ #[]
 ·subst ja
  exact Sim.never (br.kI λ_=>aiS op t b)
 by_cases jb:b=μ #[]
 ·subst jb
  exact Sim.never (br.kI λ_=>aiT op t a)
 refine Sim.bind' (R:=λ_ _ _=>True) ?_ λcw h1 _ _ _=>Sim.binOp op t (λh=>(ht h).1) (ha.mono h1) (hb.mono h1)
 have pt:∀ {ρ:Ren},Sim (tw P F) P C ρ (λ_ _ _=>True) (Ϩ ():Sem Unit) (Ϩ ()):=Sim.pure' λ_ _=>trivial
 by_cases he:op=.eql\/op=.neq
 ·obtain⟨_,hg⟩:=ht he
  have adU:∀u u' v v',Sim (tw P F) P C ρ (λ_ _ _=>True)
   (do if !(<-Go.program).eqGuardType (<-Go.program).depth t then return
       if <-Ads Adt t u v then Go.unsupported (.noEntry "binop/eql: two nil values of an interface type with methods, in a part of a struct or an array"))
   (do if !(<-Go.program).eqGuardType (<-Go.program).depth t then return
       if <-Ads Adt t u' v' then Go.unsupported (.noEntry "binop/eql: two nil values of an interface type with methods, in a part of a struct or an array")):=by
   intro u u' v v';refine Sim.bind' Sim.program λcw h1 p p' hp=>?_
   obtain⟨rfl,rfl⟩:=hp;refine Sim.bind' Sim.program λbM h2 q q' hq=>?_
   obtain⟨rfl,rfl⟩:=hq;rw[Jk,BF,hg];exact pt
  have NJ:Sim (tw P F) P C ρ (λ_ _ _=>True)
   (do if(match x with| .const _=>θ|_=>χ) || (match y with| .const _=>θ|_=>χ) then return
       if <-Ads Adt t .nilIface .nilIface then Go.unsupported (.noEntry "binop/eql: two nil values of an interface type with methods, neither of them the literal nil"))
   (do if(match x with| .const _=>θ|_=>χ) || (match y with| .const _=>θ|_=>χ) then return
       if <-Ads Adt t .nilIface .nilIface then Go.unsupported (.noEntry "binop/eql: two nil values of an interface type with methods, neither of them the literal nil")):=by
   have tail:Sim (tw P F) P C ρ (λ_ _ _=>True)
    (do if <-Ads Adt t .nilIface .nilIface then Go.unsupported (.noEntry "binop/eql: two nil values of an interface type with methods, neither of them the literal nil"))
    (do if <-Ads Adt t .nilIface .nilIface then Go.unsupported (.noEntry "binop/eql: two nil values of an interface type with methods, neither of them the literal nil")):=by
    refine Sim.cE (Sim.fu λcw h1 d hd=>?_) λcw h1 r=>?_
    ·cases d<;>exact Sim.pure' λ_ _=>rfl
    ·cases r
     ·exact pt
     ·exact Sim.unsupported
   cases x<;>cases y<;>first|exact pt|exact tail
  rcases he with rfl|rfl
  all_goals
   cases ha<;>cases hb<;>first|exact pt|exact adU _ _ _ _|exact NJ|exact absurd rfl ja|exact absurd rfl jb
 ·unfold Go.eqGuard
  cases op<;>first|exact pt| (exact absurd (.inl rfl) he) | (exact absurd (.inr rfl) he)
def Sim.not{v v':υ}(h:ah ρ v v'):Sim (tw P F) P C ρ ah (Op.unary .not v) (Op.unary .not v'):=by
 cases h<;>first|exact Sim.stuck|exact Sim.pure' λ_ _=>.bool _
def Sim.extract{v v':υ}(h:ah ρ v v')(i:Nat):Sim (tw P F) P C ρ ah (Acw v i) (Acw v' i):=by
 unfold Acw;cases h;case tuple hx h1=>
  rcases bU.get? (R:=ah ρ) ⟨hx,h1⟩ i with⟨e1,_⟩ | ⟨a,b,e1,e2,r⟩
  ·simp only[e1];exact Sim.stuck
  ·simp only[e1,e2];exact Sim.pure' λ_ h=>r.mono h
 case junk h _ _=>simp only[Array.getElem?_empty];exact Sim.stuck
 all_goals exact Sim.stuck
def Sim.makeFunc(f:Ϫ){x x' y y':Array υ}(hx:aP ρ x x')(hy:aP ρ y y'):Sim (tw P F) P C ρ ah (Instr.makeFunc (.func f) x y) (Instr.makeFunc (.func f) x' y'):=
 Sim.pure' λ_ h=>.func (.func f) (hx.mono h).1 (hx.mono h).2 (hy.mono h).1 (hy.mono h).2
def Sim.ahW(t:ό):Sim (tw P F) P C ρ ah (Acx t ν) (Acx t ν):=by
 unfold Acx;exact Sim.bind' (Sim.newObj (.map 0 .empty)) λ_ _ _ _ h=>Sim.pure' λ_ h'=>.map (h' _ _ h)
def Sim.askRoom{P':ϑ}(n:Nat):Sim P' P C ρ (λ_ _ _=>True) (Go.askRoom n) (Go.askRoom n):=by
 unfold Go.askRoom;split
 ·exact Sim.noRoom
 ·exact Sim.pure' λ_ _=>trivial
def aP.get! {x y:Array υ}(h:aP ρ x y)(i:Nat):ah ρ x[i]! y[i]! :=by
 have hs:=h.1;by_cases hi:i<x.size
 ·simpa [Aam,Aaa,hi,hs▸hi] using h.2 i hi (hs▸hi)
 ·have e1:x[i]! =default:=by simp[Aam,Aaa];rw[Aan (by omega)];rfl
  have e2:y[i]! =default:=by simp[Aam,Aaa];rw[Aan (by omega)];rfl
  rw[e1,e2];exact .bool _
def aP.Pu{x y:Array υ}(h:aP ρ x y)(n:Nat):aP ρ ((Aao n).map (x[· % x.size]!)) ((Aao n).map (y[· % y.size]!)):=by
 refine⟨by simp,λi hi bu=>?_⟩
 simp only[Aap,Aaq];rw[<-h.1];exact aP.get! h _
def Sim.makeSlice(T:oe P)(t:ό){l l' c c':υ}(hl:ah ρ l l')(hc:ah ρ c c'):Sim (tw P F) P C ρ ah (Acy t l c) (Acy t l' c'):=by
 unfold Acy;refine Sim.fu λcw h1 d hd=>?_
 cases d;case slice e=>
  simp only;refine Sim.cE (Sim.asInt (hl.mono h1)) λbM h2 ln=>?_
  refine Sim.cE (Sim.asInt (hc.mono (Ren.le_trans h1 h2))) λej h3 cp=>?_
  refine Sim.BH λlB h4 i hi=>?_
  have tail:Sim (tw P F) P C lB ah
   (do
     Go.askRoom ((Ϛ.wrap cp).toNat * i.bytes)
     let n:=(Ϛ.wrap cp).toNat * (<-Go.sizeOf e)
     let zero <-if n=0 then Ϩ #[] else do Ϩ (<-Go.zeroValue e).cells
     let a <-Go.newRow e ((Aao n).map (zero[· % zero.size]!))
     Ϩ (ζ (φ a) (Ϛ.wrap ln).toNat (Ϛ.wrap cp).toNat))
   (do
     Go.askRoom ((Ϛ.wrap cp).toNat * i.bytes)
     let n:=(Ϛ.wrap cp).toNat * (<-Go.sizeOf e)
     let zero <-if n=0 then Ϩ #[] else do Ϩ (<-Go.zeroValue e).cells
     let a <-Go.newRow e ((Aao n).map (zero[· % zero.size]!))
     Ϩ (ζ (φ a) (Ϛ.wrap ln).toNat (Ϛ.wrap cp).toNat)):=by
   refine Sim.bind' (Sim.askRoom _) λuq h5 _ _ _=>?_
   refine Sim.cE (Sim.sizeOf e) λQC h6 sz=>?_
   simp only;split
   ·refine Sim.bind' (R:=aP) (Sim.pure' λ_ _=>bU.empty) λFT h7 x y hxy=>?_
    exact Sim.bind' (Sim.newRow e (aP.Pu hxy _)) λYi h8 a b hab=>Sim.pure' λ_ h9=>.slice _ _ (hab.mono h9)
   ·refine Sim.bind' (Sim.zeroValue T e) λFT h7 v v' hv=>?_
    refine Sim.bind' (R:=aP) (Sim.pure' λ_ h=>aP.mono h hv.cells) λFT h7 x y hxy=>?_
    exact Sim.bind' (Sim.newRow e (aP.Pu hxy _)) λYi h8 a b hab=>Sim.pure' λ_ h9=>.slice _ _ (hab.mono h9)
  split
  ·refine Sim.never ?_
   split
   ·exact br.bind (nL _)
   ·split
    ·exact br.bind (nL _)
    ·exact br.kI λ_=>br.bind (nL _)
  ·exact tail
 all_goals exact Sim.stuck
abbrev zw(ρ:Ren):Nat×υ->Nat×υ->Prop:=λp q=>p.1=q.1/\ah ρ p.2 q.2
def acO{x y:List (υ×Nat)}(h:fT (λp q=>ah ρ p.1 q.1/\p.2=q.2) x y)(off:Nat):∀ {c c':Array υ},aP ρ c c'->
 aP ρ (x.foldl (λcs p=>cs.setIfInBounds (off+p.2) p.1) c) (y.foldl (λcs p=>cs.setIfInBounds (off+p.2) p.1) c'):=by
 induction h with
 |nil=>intro c c' hc;exact hc
 |cons hp _ ih=>
  intro c c' hc;simp only[List.foldl_cons];rw[<-hp.2];exact ih (hc.set _ hp.1)
def ans{x y:List υ}(h:fT (ah ρ) x y):∀n,fT (λp q=>ah ρ p.1 q.1/\p.2=q.2) (x.zipIdx n) (y.zipIdx n):=by
 induction h with
 |nil=>intro n;exact .nil
 |cons hp _ ih=>intro n;simp only[List.zipIdx_cons];exact .cons ⟨hp,rfl⟩ (ih _)
def Me(place:Nat->Option (Nat×Nat)){p q:List (Nat×υ)}(h:fT (zw ρ) p q):∀ {c c':Array υ},aP ρ c c'->fl (aP ρ) (Acz place c p) (Acz place c' q):=by
 induction h with
 |nil=>intro c c' hc;exact .some hc
 | @cons a b x y hp _ ih=>
   intro c c' hc;obtain⟨i,v⟩:=a;obtain⟨i',v'⟩:=b;obtain⟨e,hv⟩:=hp;simp only at e hv;subst e;have fg:=hv.cells;unfold Acz;cases place i with
   |none=>exact .none
   |some os=>
    obtain⟨off,size⟩:=os;simp only;rw[<-fg.1,<-hc.1];split
    ·exact .none
    ·refine ih ?_
     have:=acO (ans fg.oG 0) off hc;rw[<-Aar,<-Aar,Aas,Aas];exact this
def Sim.build(T:oe P)(t:ό){p q:Array (Nat×υ)}(h:bU (zw ρ) p q):Sim (tw P F) P C ρ ah (Ac0 t p) (Ac0 t q):=by
 unfold Ac0;refine Sim.bind' (Sim.zeroValue T t) λcw h1 z z' hz=>?_
 refine Sim.fu λbM h2 d hd=>?_
 have hz:=(hz.mono h2).cells;have h:bU (zw bM) p q:=h.mono λ_ _ x=>⟨x.1,x.2.mono (Ren.le_trans h1 h2)⟩
 cases d;case struct fs=>
  simp only;refine Sim.cE (Sim.ahX fs λf _=>Sim.cE (Sim.sizeOf f.type) λ_ _ _=>Sim.pure' λ_ _=>rfl) λej h3 places=>?_
  have:=Me (λi=>places[i]?) h.oG hz
  generalize Acz (λi=>places[i]?) z.cells p.toList=r at this |-
  generalize Acz (λi=>places[i]?) z'.cells q.toList=r' at this |-
  cases this with
  |none=>exact Sim.stuck
  |some hr=>exact Sim.pure' λ_ h4=>ah.uF (hr.mono (Ren.le_trans h3 h4))
 case array n e=>
  simp only;refine Sim.cE (Sim.sizeOf e) λej h3 size=>?_
  have:=Me (λi=>φ (i * size,size)) h.oG hz
  generalize Acz (λi=>φ (i * size,size)) z.cells p.toList=r at this |-
  generalize Acz (λi=>φ (i * size,size)) z'.cells q.toList=r' at this |-
  cases this with
  |none=>exact Sim.stuck
  |some hr=>exact Sim.pure' λ_ h4=>ah.uF (hr.mono (Ren.le_trans h3 h4))
 all_goals exact Sim.stuck
def Sim.buildSlice(T:oe P)(t:ό)(n:Nat){p q:Array (Nat×υ)}(h:bU (zw ρ) p q):Sim (tw P F) P C ρ ah (Ac1 t n p) (Ac1 t n q):=by
 unfold Ac1;refine Sim.fu λcw h1 d hd=>?_
 cases d;case slice e=>
  simp only;refine Sim.cE (Sim.sizeOf e) λbM h2 size=>?_
  split
  ·exact Sim.BI
  ·have tail:∀ {ax:Ren},bM.le ax->∀ {z z':Array υ},aP ax z z'->Sim (tw P F) P C ax ah
    (match Acz (λi=>φ (i * size,size)) ((Aao (n * size)).map (z[· % z.size]!)) p.toList with
      |some cells=>do Ϩ (ζ (φ (<-Go.newRow e cells)) n n)
      |_=>Go.stuck "buildSlice: a part of the wrong size")
    (match Acz (λi=>φ (i * size,size)) ((Aao (n * size)).map (z'[· % z'.size]!)) q.toList with
      |some cells=>do Ϩ (ζ (φ (<-Go.newRow e cells)) n n)
      |_=>Go.stuck "buildSlice: a part of the wrong size"):=by
    intro ax h' z z' hz;have h:bU (zw ax) p q:=h.mono λ_ _ x=>⟨x.1,x.2.mono (Ren.le_trans h1 (Ren.le_trans h2 h'))⟩
    have:=Me (λi=>φ (i * size,size)) h.oG (aP.Pu hz (n * size))
    generalize Acz (λi=>φ (i * size,size)) ((Aao (n * size)).map (z[· % z.size]!)) p.toList=r at this |-
    generalize Acz (λi=>φ (i * size,size)) ((Aao (n * size)).map (z'[· % z'.size]!)) q.toList=r' at this |-
    cases this with
    |none=>exact Sim.stuck
    |some hr=>exact Sim.bind' (Sim.newRow e hr) λ_ _ a b hab=>Sim.pure' λ_ h9=>.slice _ _ (hab.mono h9)
   split
   ·refine Sim.bind' (R:=aP) (Sim.pure' λ_ _=>bU.empty) λFT h7 x y hxy=>?_
    exact tail h7 hxy
   ·refine Sim.bind' (Sim.zeroValue T e) λFT h7 v v' hv=>?_
    refine Sim.bind' (R:=aP) (Sim.pure' λ_ h=>aP.mono h hv.cells) λYi h8 x y hxy=>?_
    exact tail (Ren.le_trans h7 h8) hxy
 all_goals exact Sim.stuck
def Sim.lenOf{v v':υ}(h:ah ρ v v'):Sim (tw P F) P C ρ (λ_ a b=>a=b) (Ab5 v) (Ab5 v'):=by
 cases h<;>first|exact Sim.pure' λ_ _=>rfl|exact Sim.stuck
def Se(b:ByteArray):aP ρ (b.data.map λb=>.int .u8 b.toNat) (b.data.map λb=>.int .u8 b.toNat):=by
 refine bU.refl λa ha=>?_
 obtain⟨b,_,rfl⟩:=Array.mem_map.1 ha;exact .int _ _
def Dn(v:υ)(n:Nat):Prop:=∀a,v=ζ (φ a) 0 0->n=0
def Sim.OO{v v':υ}(h:ah ρ v v'):Sim (tw P F) P C ρ (λ_ a b=>a=b/\Dn v a) (Ab5 v) (Ab5 v'):=by
 cases h<;>first|exact Sim.pure' λ_ _=>⟨rfl,λa e=>by cases e;rfl⟩ |exact Sim.pure' λ_ _=>⟨rfl,λa e=>by cases e⟩ |exact Sim.stuck
def Sim.S8(size:Nat){v v':υ}(h:ah ρ v v'):Sim (tw P F) P C ρ (λ_ a b=>a=#[]/\b=#[]) (Ab6 size 0 v) (Ab6 size 0 v'):=by
 cases h;case slice len cap hab=>simp only[Ab6,Aec];exact Sim.pure' λ_ _=>⟨rfl,rfl⟩
 case sliceDead=>simp only[Ab6,Aec];exact Sim.pure' λ_ _=>⟨rfl,rfl⟩
 case sliceNone=>exact Sim.pure' λ_ _=>⟨rfl,rfl⟩
 case string s=>exact Sim.pure' λ_ _=>⟨by simp,by simp⟩
 all_goals exact Sim.stuck
def Sim.firstCells(size n:Nat){v v':υ}(h:ah ρ v v')(hd:Dn v n):Sim (tw P F) P C ρ aP (Ab6 size n v) (Ab6 size n v'):=by
 cases h;case slice len cap hab=>exact Sim.loadCells hab _
 case sliceNone=>exact Sim.pure' λ_ _=>.empty
 case sliceDead a b=>
  obtain rfl:=hd a rfl;simp only[Ab6,Aec];exact Sim.pure' λ_ _=>.empty
 case string s=>exact Sim.pure' λ_ _=>Se _
 all_goals exact Sim.stuck
def aP.zeroCells{x y:Array υ}(h:aP ρ x y)(n:Nat):aP ρ (Ab7 x n) (Ab7 y n):=by
 unfold Ab7;rw[<-h.1];refine⟨by simp,λi hi bu=>?_⟩
 simp only[Aap,Aaq];exact aP.get! h _
def Sim.len{v v':υ}(ts:Array ό)(t:ό)(h:ah ρ v v'):Sim (tw P F) P C ρ ah (Ab8 ts t #[v]) (Ab8 ts t #[v']):=by
 unfold Ab8;cases ts[0]? with
 |none=>exact Sim.stuck
 |some u=>
  refine Sim.fu λcw h1 d hd=>?_
  have h:=h.mono h1;cases d;case array n e=>exact Sim.pure' λ_ _=>.int _ _
  case string=>cases h<;>first|exact Sim.stuck|exact Sim.pure' λ_ _=>.int _ _
  case slice e=>cases h<;>first|exact Sim.stuck|exact Sim.pure' λ_ _=>.int _ _
  case pointer e=>
   refine Sim.fu λbM h2 d hd=>?_
   cases d<;>first|exact Sim.stuck|exact Sim.pure' λ_ _=>.int _ _
  case map k e=>
   cases h;case mapNone=>exact Sim.pure' λ_ _=>.int _ _
   case map r=>
    refine Sim.bind' (Sim.getObj r) λbM h2 o o' ro=>?_
    cases ro;case map clock hm=>simp only[hm.1];exact Sim.pure' λ_ _=>.int _ _
    all_goals exact Sim.stuck
   all_goals exact Sim.stuck
  case chan dd e=>
   cases h;case chanNone=>exact Sim.pure' λ_ _=>.int _ _
   case chan r=>
    refine Sim.bind' (Sim.getObj r) λbM h2 o o' ro=>?_
    cases ro<;>exact Sim.stuck
   all_goals exact Sim.stuck
  all_goals (cases h<;>exact Sim.stuck)
def Sim.max2{a a' b b':υ}(ha:ah ρ a a')(hb:ah ρ b b'):Sim (tw P F) P C ρ ah (Builtin.max2 a b) (Builtin.max2 a' b'):=by
 cases ha<;>cases hb<;>first|exact Sim.stuck|exact Sim.unsupported|exact Sim.pure' λ_ _=>.int _ _|exact Sim.pure' λ_ _=>.string _
def Sim.min2{a a' b b':υ}(ha:ah ρ a a')(hb:ah ρ b b'):Sim (tw P F) P C ρ ah (Builtin.min2 a b) (Builtin.min2 a' b'):=by
 cases ha<;>cases hb<;>first|exact Sim.stuck|exact Sim.unsupported|exact Sim.pure' λ_ _=>.int _ _|exact Sim.pure' λ_ _=>.string _
def Sim.foldlM{f g:υ->υ->Sem υ}(hf:∀ {ax:Ren} {a a' b b'},ah ax a a'->ah ax b b'->Sim (tw P F) P C ax ah (f a b) (g a' b')){x y:List υ}(h:fT (ah ρ) x y):
 ∀ {ax:Ren},ρ.le ax->∀ {a b},ah ax a b->Sim (tw P F) P C ax ah (x.foldlM f a) (y.foldlM g b):=by
 induction h with
 |nil=>intro ax h' a b hab;exact Sim.pure' λ_ h=>hab.mono h
 |cons hp _ ih=>
  intro ax h' a b hab;simp only[List.foldlM_cons];exact Sim.bind' (hf hab (hp.mono h')) λeY dR _ _ r=>ih (Ren.le_trans h' dR) r
def Sim.max(ts:Array ό)(t:ό){x y:Array υ}(h:aP ρ x y):Sim (tw P F) P C ρ ah (Ab9 ts t x) (Ab9 ts t y):=by
 unfold Ab9;have:=h.oG;generalize x.toList=l at this |-
 generalize y.toList=l' at this |-
 cases this with
 |nil=>exact Sim.stuck
 |cons hp ht=>exact Sim.foldlM Sim.max2 ht ρ.le_refl hp
def Sim.min(ts:Array ό)(t:ό){x y:Array υ}(h:aP ρ x y):Sim (tw P F) P C ρ ah (Aca ts t x) (Aca ts t y):=by
 unfold Aca;have:=h.oG;generalize x.toList=l at this |-
 generalize y.toList=l' at this |-
 cases this with
 |nil=>exact Sim.stuck
 |cons hp ht=>exact Sim.foldlM Sim.min2 ht ρ.le_refl hp
def Sim.copy(ts:Array ό)(t:ό){a a' b b':υ}(ha:ah ρ a a')(hb:ah ρ b b'):Sim (tw P F) P C ρ ah (Acb ts t #[a,b]) (Acb ts t #[a',b']):=by
 unfold Acb;cases ts[0]? with
 |none=>exact Sim.stuck
 |some u=>
  refine Sim.fu λcw h1 d hd=>?_
  cases d;case slice e=>
   have ha:=ha.mono h1;have hb:=hb.mono h1;cases ha;case sliceDead a1 a2=>
    refine Sim.cE (Sim.lenOf hb) λbM h2 m=>?_
    refine Sim.cE (Sim.sizeOf e) λej h3 s=>?_
    simp only[show Nat.min m 0=0 from Nat.min_zero m]
    refine Sim.bind' (Sim.S8 s (hb.mono (Ren.le_trans h2 h3))) λlB h4 x y hxy=>?_
    obtain⟨rfl,rfl⟩:=hxy;exact Sim.pure' λ_ _=>.int _ _
   case slice n c hab=>
    refine Sim.bind' (Sim.OO hb) λbM h2 m m' hm=>?_
    obtain⟨rfl,dm⟩:=hm;refine Sim.cE (Sim.sizeOf e) λej h3 s=>?_
    refine Sim.bind' (Sim.firstCells s _ (hb.mono (Ren.le_trans h2 h3)) λa e=>by have:=dm a e;subst this;exact Nat.zero_min _) λlB h4 x y hxy=>?_
    exact Sim.bind' (Sim.storeCells (hab.mono (Ren.le_trans h2 (Ren.le_trans h3 h4))) hxy.oG 0) λ_ _ _ _ _=>Sim.pure' λ_ _=>.int _ _
   case sliceNone n c=>
    refine Sim.bind' (Sim.OO hb) λbM h2 m m' hm=>?_
    obtain⟨rfl,dm⟩:=hm;refine Sim.cE (Sim.sizeOf e) λej h3 s=>?_
    refine Sim.bind' (Sim.firstCells s _ (hb.mono (Ren.le_trans h2 h3)) λa e=>by have:=dm a e;subst this;exact Nat.zero_min _) λlB h4 x y hxy=>?_
    exact Sim.pure' λ_ _=>.int _ _
   all_goals exact Sim.stuck
  all_goals exact Sim.stuck
def Sim.clear(T:oe P)(ts:Array ό)(t:ό){a a':υ}(ha:ah ρ a a'):Sim (tw P F) P C ρ ah (Acd ts t #[a]) (Acd ts t #[a']):=by
 unfold Acd;have e:∀ {ax:Ren},ah ax (μ #[]) (μ #[]):=ah.tuple' .empty
 cases ts[0]? with
 |none=>exact Sim.stuck
 |some u=>
  refine Sim.fu λcw h1 d hd=>?_
  have ha:=ha.mono h1;cases ha;case slice n c hab=>
   cases n with
   |zero=>cases d<;>exact Sim.pure' λ_ _=>e
   |succ n=>
    cases d;case slice el=>
     refine Sim.bind' (Sim.zeroValue T el) λbM h2 v v' hv=>?_
     exact Sim.bind' (Sim.storeCells (hab.mono h2) (aP.zeroCells hv.cells _).oG 0) λ_ _ _ _ _=>Sim.pure' λ_ _=>e
    all_goals exact Sim.stuck
  case sliceNone n c=>cases d<;>exact Sim.pure' λ_ _=>e
  case sliceDead a b=>cases d<;>exact Sim.pure' λ_ _=>e
  case mapNone=>cases d<;>exact Sim.pure' λ_ _=>e
  case map r=>
   cases d;all_goals
    refine Sim.bind' (Sim.getObj r) λbM h2 o o' ro=>?_
    cases ro;case map clock hm=>exact Sim.bind' (Sim.setObj (h2 _ _ r) (.map clock .empty)) λ_ _ _ _ _=>Sim.pure' λ_ _=>e
    all_goals exact Sim.stuck
  all_goals (cases d<;>exact Sim.stuck)
def wV(elem:ό)(base:Option ϕ)(eF gG:Nat)(s x:υ)(size n:Nat):Sem υ:=do
 let nK:=eF+n
 if nK<=gG then
  let new <-Ab6 size n x
  if let φ a:=base then Go.storeCells (a.add (eF * size)) new.toList
  pure (.slice base nK gG)
 else
  if(nK:Int)>Ϛ.max/\(χ\/(<-Go.typeInfo elem).bytes=0) then runtimePanic (.error "growslice: len out of range")
  if Ace nK gG * (<-Go.typeInfo elem).bytes>2 ^ 48 then(if χ then runtimePanic (.error "growslice: len out of range") else do
   if !(<-Acf size eF n base x) then Go.mark .noRoom
   Go.unsupported (.resourceLimit "append: a slice or a string whose bytes no memory bears"))
  let jE <-Go.choose (.appendCap nK gG elem)
  Go.askRoom (jE * (<-Go.typeInfo elem).bytes)
  let old <-Ab6 size eF s
  let new <-Ab6 size n x
  let rest:=Ab7 (<-Go.zeroValue elem).cells (jE - nK)
  pure (ζ (φ (<-Go.newRow elem (old++new++rest))) nK jE)
def Sim.grow(T:oe P)(elem:ό)(nK gG eF size n:Nat){s s' x x':υ}(hs:ah ρ s s')(hx:ah ρ x x')(ds:Dn s eF)(dx:Dn x n):Sim (tw P F) P C ρ ah
 (do
   let jE <-Go.choose (.appendCap nK gG elem)
   Go.askRoom (jE * (<-Go.typeInfo elem).bytes)
   let old <-Ab6 size eF s
   let new <-Ab6 size n x
   let rest:=Ab7 (<-Go.zeroValue elem).cells (jE - nK)
   Ϩ (ζ (φ (<-Go.newRow elem (old++new++rest))) nK jE))
 (do
   let jE <-Go.choose (.appendCap nK gG elem)
   Go.askRoom (jE * (<-Go.typeInfo elem).bytes)
   let old <-Ab6 size eF s'
   let new <-Ab6 size n x'
   let rest:=Ab7 (<-Go.zeroValue elem).cells (jE - nK)
   Ϩ (ζ (φ (<-Go.newRow elem (old++new++rest))) nK jE)):=by
 refine Sim.cE (Sim.choose _) λcw h1 jE=>?_
 refine Sim.BH λbM h2 i hi=>?_
 refine Sim.bind' (Sim.askRoom _) λej h3 _ _ _=>?_
 have l3:=Ren.le_trans h1 (Ren.le_trans h2 h3);refine Sim.bind' (Sim.firstCells _ _ (hs.mono l3) ds) λlB h4 o o' ho=>?_
 refine Sim.bind' (Sim.firstCells _ _ (hx.mono (Ren.le_trans l3 h4)) dx) λuq h5 w w' hw=>?_
 refine Sim.bind' (Sim.zeroValue T elem) λQC h6 z z' hz=>?_
 refine Sim.bind' (Sim.newRow elem (((ho.mono (Ren.le_trans h5 h6)).append (hw.mono h6)).append (aP.zeroCells hz.cells _))) λFT h7 a b hab=>Sim.pure' λ_ h8=>.slice _ _ (hab.mono h8)
def Sim.wV(T:oe P)(elem:ό){b b':Option ϕ}(eF gG:Nat)(hb:fl (dU ρ) b b'\/(∃a a',b=φ a/\b'=φ a'/\eF=0/\gG=0)){s s' x x':υ}(hs:ah ρ s s')(hx:ah ρ x x')(size n:Nat)(ds:Dn s eF)(dx:Dn x n):
 Sim (tw P F) P C ρ ah (wV elem b eF gG s x size n) (wV elem b' eF gG s' x' size n):=by
 unfold Go.Sim.wV;simp only;split
 ·rename_i hle
  rcases hb with hb| ⟨a,a',rfl,rfl,rfl,rfl⟩
  rotate_left
  ·obtain rfl:n=0:=by omega
   refine Sim.bind' (Sim.S8 _ hx) λcw h1 u u' hu=>?_
   obtain⟨rfl,rfl⟩:=hu;exact Sim.pure' λ_ _=>.sliceDead _ _
  refine Sim.bind' (Sim.firstCells _ _ hx dx) λcw h1 u u' hu=>?_
  cases hb with
  |none=>exact Sim.pure' λ_ _=>.sliceNone _ _
  |some hb=>exact Sim.bind' (Sim.storeCells ((hb.mono h1).add _) hu.oG 0) λ_ h2 _ _ _=>Sim.pure' λ_ h3=>.slice _ _ (hb.mono (Ren.le_trans h1 (Ren.le_trans h2 h3)))
 ·refine Sim.BH λcw h1 i hi=>?_
  have second:∀ {ax:Ren},ρ.le ax->Sim (tw P F) P C ax ah
   (do
     if Ace (eF+n) gG * (<-Go.typeInfo elem).bytes>2 ^ 48 then(if χ then runtimePanic (.error "growslice: len out of range") else do
      if !(<-Acf size eF n b x) then Go.mark .noRoom
      Go.unsupported (.resourceLimit "append: a slice or a string whose bytes no memory bears"))
     let jE <-Go.choose (.appendCap (eF+n) gG elem)
     Go.askRoom (jE * (<-Go.typeInfo elem).bytes)
     let old <-Ab6 size eF s
     let new <-Ab6 size n x
     let rest:=Ab7 (<-Go.zeroValue elem).cells (jE - (eF+n))
     Ϩ (ζ (φ (<-Go.newRow elem (old++new++rest))) (eF+n) jE))
   (do
     if Ace (eF+n) gG * (<-Go.typeInfo elem).bytes>2 ^ 48 then(if χ then runtimePanic (.error "growslice: len out of range") else do
      if !(<-Acf size eF n b' x') then Go.mark .noRoom
      Go.unsupported (.resourceLimit "append: a slice or a string whose bytes no memory bears"))
     let jE <-Go.choose (.appendCap (eF+n) gG elem)
     Go.askRoom (jE * (<-Go.typeInfo elem).bytes)
     let old <-Ab6 size eF s'
     let new <-Ab6 size n x'
     let rest:=Ab7 (<-Go.zeroValue elem).cells (jE - (eF+n))
     Ϩ (ζ (φ (<-Go.newRow elem (old++new++rest))) (eF+n) jE)):=by
   intro ax h';refine Sim.BH λbM h2 i hi=>?_
   split
   ·refine Sim.never ?_
    simp only[Aa2,if_false];refine br.bind (br.kI λ_=>?_)
    split
    ·exact br.kI λ_=>br.halt
    ·exact br.halt
   ·exact Sim.grow T elem _ _ _ _ _ (hs.mono (Ren.le_trans h' h2)) (hx.mono (Ren.le_trans h' h2)) ds dx
  split
  ·exact Sim.never (br.bind (nL _))
  ·exact second h1
def Sim.append(T:oe P)(ts:Array ό)(t:ό)(hz:∀u,ts[1]?=φ u->∀k,P.underlying u≠φ (.int k)){s s' x x':υ}(hs:ah ρ s s')(hx:ah ρ x x'):
 Sim (tw P F) P C ρ ah (Acg ts t #[s,x]) (Acg ts t #[s',x']):=by
 unfold Acg;cases ts[0]? with
 |none=>exact Sim.stuck
 |some u=>
  refine Sim.fu λcw h1 d hd=>?_
  have hs:=hs.mono h1;have hx:=hx.mono h1;cases d;case slice elem=>
   have tail:∀ {ax:Ren},cw.le ax->∀ {b b':Option ϕ} (eF gG size:Nat) (_:fl (dU ax) b b'\/(∃a a',b=φ a/\b'=φ a'/\eF=0/\gG=0)),ah ax (.slice b eF gG) (.slice b' eF gG)->Sim (tw P F) P C ax ah
    (Ab5 x>>=λn=>Go.Sim.wV elem b eF gG (.slice b eF gG) x size n)
    (Ab5 x'>>=λn=>Go.Sim.wV elem b' eF gG (.slice b' eF gG) x' size n):=by
    intro ax h' b b' eF gG size hb hs;refine Sim.bind' (Sim.OO (hx.mono h')) λej h3 n n' hn=>?_
    obtain⟨rfl,dx⟩:=hn;exact Sim.wV T elem eF gG (hb.imp (λhb=>hb.mono λ_ _ h=>dU.mono h3 h) id) (hs.mono h3) (hx.mono (Ren.le_trans h' h3)) size n (λa e=>by cases e;rfl) dx
   cases hs;case slice n c hab=>
    refine Sim.cE (Sim.sizeOf elem) λbM h2 size=>?_
    cases e:ts[1]? with
    |none=>exact tail h2 n c size (.inl (.some (hab.mono h2))) (.slice n c (hab.mono h2))
    |some u2=>
     refine Sim.fu λej h3 d2 fJ=>?_
     have l:=Ren.le_trans h2 h3;cases d2;case int k=>exact absurd fJ (hz u2 e k)
     all_goals exact tail l n c size (.inl (.some (hab.mono l))) (.slice n c (hab.mono l))
   case sliceNone n c=>
    refine Sim.cE (Sim.sizeOf elem) λbM h2 size=>?_
    cases e:ts[1]? with
    |none=>exact tail h2 n c size (.inl .none) (.sliceNone n c)
    |some u2=>
     refine Sim.fu λej h3 d2 fJ=>?_
     have l:=Ren.le_trans h2 h3;cases d2;case int k=>exact absurd fJ (hz u2 e k)
     all_goals exact tail l n c size (.inl .none) (.sliceNone n c)
   case sliceDead a a'=>
    refine Sim.cE (Sim.sizeOf elem) λbM h2 size=>?_
    cases e:ts[1]? with
    |none=>exact tail h2 0 0 size (.inr ⟨a,a',rfl,rfl,rfl,rfl⟩) (.sliceDead a a')
    |some u2=>
     refine Sim.fu λej h3 d2 fJ=>?_
     have l:=Ren.le_trans h2 h3;cases d2;case int k=>exact absurd fJ (hz u2 e k)
     all_goals exact tail l 0 0 size (.inr ⟨a,a',rfl,rfl,rfl,rfl⟩) (.sliceDead a a')
   all_goals exact Sim.stuck
  all_goals exact Sim.stuck
def Tr(w:Ψ)(c:Array υ)(e:ό):
 Ad5 {w with heap:=w.heap.push (.cells c e (0,0))} {block:=w.heap.size,off:=c.size} 1={w with heap:=w.heap.push (.cells c e (c.size,c.size+1))}:=by
 unfold Ad5;simp only[Nat.one_ne_zero,if_false];congr 1;apply Aat
 ·simp
 ·intro i h1 h2
  simp only[Aau,Array.getElem_push];by_cases hi:w.heap.size=i
  ·subst hi;simp
  ·rw[if_neg hi]
   have:i<w.heap.size:=by simp at h2;omega
   simp[this]
def vL(e:ό)(c:Array υ):Sem ϕ:=do
 let a <-Go.newRow e c
 Go.markStringish a
 pure a
def aiU(p:ϑ)(e:ό)(c:Array υ)(w:Ψ):(vL e c).run p w=.ok ⟨w.heap.size,0,ν⟩ {w with heap:=w.heap.push (.cells c e (c.size,c.size+1))}:=by
 have hs:({w with heap:=w.heap.push (.cells c e (0,0))}:Ψ).shape? w.heap.size=φ (e,c.size):=by simp[Ad4]
 show ϣ p (Sem.new _ _) w=_;simp only[ϣ];show ϣ p (Sem.shape _ _) _=_;simp only[ϣ,hs];show ϣ p (Sem.freeze _ _ _) _=_;simp only[ϣ,Tr];rfl
def aiV(p:ϑ)(e:ό)(c:Array υ)(w:Ψ)(es:Array ϥ):(vL e c).runT p w es=(.ok ⟨w.heap.size,0,ν⟩ {w with heap:=w.heap.push (.cells c e (c.size,c.size+1))},es):=by
 have hs:({w with heap:=w.heap.push (.cells c e (0,0))}:Ψ).shape? w.heap.size=φ (e,c.size):=by simp[Ad4]
 show ϧ p (Sem.new _ _) w es=_;unfold ϧ;show ϧ p (Sem.shape _ _) _ es=_;unfold ϧ;rw[hs];show ϧ p (Sem.freeze _ _ _) _ es=_;unfold ϧ;rw[Tr];rfl
def Sim.vL(e:ό){c c':Array υ}(h:aP ρ c c'):Sim (tw P F) P C ρ dU (vL e c) (vL e c'):=by
 intro aE h1 w w' es hw a aa hr;rw[aiU] at hr;simp only[Adv] at hr;obtain⟨rfl,rfl⟩:=hr;have ho:iE C ρ (.cells c e (c.size,c.size+1)) (.cells c' e (c'.size,c'.size+1)):=.cells e h (.inl (by rw[h.1]))
 obtain⟨bH,b,aA,eD,k1,k2,k3,k4,k5⟩:=Sim.newObj (P':=tw P F) (P:=P) ho aE h1 w w' es hw _ _ rfl;have e1:(Go.newObj (.cells c' e (c'.size,c'.size+1))).runT P w' es=(.ok w'.heap.size {w' with heap:=w'.heap.push (.cells c' e (c'.size,c'.size+1))},es):=by
  unfold Go.newObj;simp only[ϧ]
 rw[e1] at k1;simp only[Prod.mk.injEq,Adv] at k1;obtain⟨⟨rfl,rfl⟩,k1⟩:=k1;refine⟨bH,⟨w'.heap.size,0,ν⟩,_,eD,?_,⟨k2,rfl,rfl⟩,k3,k4,k5⟩
 rw[aiV,<-k1]
def ahZ(e:ό)(c:Array υ)(f:ϕ->Sem υ):(Go.newRow e c>>=λa=>Go.markStringish a>>=λ_=>f a)=vL e c>>=f:=by
 unfold vL;simp only[bind_assoc,pure_bind]
def Sim.stringToBytes(e:ό)(s:ByteArray):Sim (tw P F) P C ρ ah (Conv.stringToBytes e s) (Conv.stringToBytes e s):=by
 unfold Conv.stringToBytes;refine Sim.cE (Sim.choose _) λcw h1 cap=>?_
 have hc:aP cw ((s.data.map λb=>Value.int .u8 b.toNat)++Array.replicate (cap - s.size) (Value.int .u8 0)) ((s.data.map λb=>Value.int .u8 b.toNat)++Array.replicate (cap - s.size) (Value.int .u8 0)):=
  (Se s).append (bU.refl λa ha=>by
    rw[(Aav.1 ha).2];exact .int _ _)
 simp only[ahZ];exact Sim.bind' (Sim.vL e hc) λbM h2 a b hab=>Sim.pure' λ_ h3=>.slice _ _ (hab.mono h3)
inductive QR(P:ϑ)(src dst:ό):Prop
 |ints (j k:Abb) (h1:P.underlying src=φ (.int j)) (h2:P.underlying dst=φ (.int k))
 |bytes (e:ό) (h1:P.underlying src=φ .string) (h2:P.underlying dst=φ (.slice e)) (h3:P.underlying e=φ (.int .u8))
def Sim.convert(src dst:ό)(hc:QR P src dst){v v':υ}(h:ah ρ v v'):Sim (tw P F) P C ρ ah (Go.convert src dst v) (Go.convert src dst v'):=by
 unfold Go.convert;refine Sim.fu λcw h1 d1 jT=>?_
 refine Sim.fu λbM h2 d2 fJ=>?_
 have h:=h.mono (Ren.le_trans h1 h2);cases hc with
 |ints j k e1 e2=>
  rw[jT] at e1;rw[fJ] at e2;obtain rfl:=ϟ e1;obtain rfl:=ϟ e2;cases h<;>first|exact Sim.unsupported|exact Sim.pure' λ_ _=>.int _ _
 |bytes e e1 e2 e3=>
  rw[jT] at e1;rw[fJ] at e2;obtain rfl:=ϟ e1;obtain rfl:=ϟ e2;cases h;case string s=>
   refine Sim.fu λej h3 d3 hd3=>?_
   rw[hd3] at e3;obtain rfl:=ϟ e3;exact Sim.stringToBytes e s
  all_goals exact Sim.unsupported
def Sim.checkKey(empty:Bool):∀(d n:Nat) (t:ό) {x x':υ} {ρ:Ren},gK P n t=θ->ah ρ x x'->Sim (tw P F) P C ρ (λ_ _ _=>True) (Ac2 empty d t x) (Ac2 empty d t x'):=by
 intro d;induction d with
 |zero=>intro n t x x' ρ _ _;exact Sim.halt
 |succ d ih=>
  intro n t x x' ρ h hx;have pt:∀ {ρ:Ren},Sim (tw P F) P C ρ (λ_ _ _=>True) (Ϩ ():Sem Unit) (Ϩ ()):=Sim.pure' λ_ _=>trivial
  cases n with
  |zero=>cases h
  |succ n=>
  unfold Ac2;refine Sim.fu λcw h1 ds hd=>?_
  have hx:=hx.mono h1;unfold gK at h;cases hi: P.info? t with
  |none=>rw[hi] at h;cases h
  |some info=>
  rw[hi,hd] at h;simp only[Aa3] at h;obtain⟨_,h⟩:=h;cases ds;case struct fs=>
   cases hx;case agg hxs hxs'=>
    simp only;refine Sim.cE (Sim.Tg fs (λf hf s=>?_) _) λ_ _ _=>pt
    have Nl:gK P n f.type=θ:=by
     simp only[Aal] at h;exact h f hf
    split
    ·refine Sim.bind' (Sim.part f.type ⟨hxs,hxs'⟩ _) λej h3 a a' ha=>?_
     exact Sim.bind' (ih n f.type Nl ha) λ_ _ _ _ _=>Sim.pure' λ_ _=>rfl
    ·exact Sim.pure' λ_ _=>rfl
   all_goals exact Sim.stuck
  case array len e=>
   cases hx;case agg hxs hxs'=>
    simp only[Aej];refine Sim.cE (Sim.Mh _ (λi hi s=>?_) _) λ_ _ _=>pt
    refine Sim.cE (Sim.sizeOf e) λbM h2 m=>?_
    refine Sim.bind' (Sim.part e (aP.mono h2 ⟨hxs,hxs'⟩) _) λej h3 a a' ha=>?_
    exact Sim.bind' (ih n e h ha) λ_ _ _ _ _=>Sim.pure' λ_ _=>rfl
   all_goals exact Sim.stuck
  case bool=>cases hx<;>exact pt
  case int=>cases hx<;>exact pt
  case string=>cases hx<;>exact pt
  case slice=>cases hx<;>exact pt
  case map=>cases hx<;>exact pt
  case func=>cases hx<;>exact pt
  all_goals cases h
abbrev Kq(ρ:Ren):Nat×υ->Nat×υ->Prop:=λp q=>p.1=q.1/\ah ρ p.2 q.2
def jm.key{a b:Abe}(h:jm ρ a b):ah ρ a.key b.key:=by cases h;assumption
def jm.val{a b:Abe}(h:jm ρ a b):ah ρ a.val b.val:=by cases h;assumption
def Sim.findAsking{n:Nat}{t:ό}(ht:gK P n t=θ){k k':υ}{es es':List Abe}(h:fT (jm ρ) es es'):
 ∀ {ax:Ren},ρ.le ax->ah ax k k'->∀i,Sim (tw P F) P C ax (λρ=>fl (Kq ρ)) (Ac3 t k es i) (Ac3 t k' es' i):=by
 induction h with
 |nil=>intro ax _ _ i;exact Sim.pure' λ_ _=>.none
 |cons he _ ih=>
  intro ax h' hk i;unfold Ac3;refine Sim.cE (Sim.equalIn _ n t ht hk (he.key.mono h')) λeY dR b=>?_
  cases b with
  |true=>exact Sim.pure' λ_ h3=>.some ⟨rfl,he.val.mono (Ren.le_trans h' (Ren.le_trans dR h3))⟩
  |false=>exact ih (Ren.le_trans h' dR) (hk.mono dR) (i+1)
def amA{p:ϑ}{t:ό}{d:Abl}(h:p.underlying t=φ d)(f:Abl->Sem α)(w:Ψ)(es:Array ϥ):(Go.underlying t>>=f).runT p w es=(f d).runT p w es:=by
 show((Go.underlying t).bind f).runT p w es=_;rw[pA];have:(Go.underlying t).runT p w es=(.ok d w,es):=by
  unfold Go.underlying;show(match p.underlying t with|some d=>Ϩ d|none=>Go.stuck "no such type" :Sem Abl).runT p w es=_
  rw[h];rfl
 rw[this]
def SZ{p:ϑ}{t:ό}{d:Abl}(h:p.underlying t=φ d){x y:υ}{b:Bool}(hs:Ac4 d x y=φ b)(w:Ψ)(es:Array ϥ):(Adq t x y).runT p w es=(.ok b w,es):=by
 show(Adp (9999+1) t x y).runT p w es=_;unfold Adp;rw[amA h];cases d;case bool=>cases x<;>cases y<;>first| (cases hs;done) | (simp only[Ac4,Aeh] at hs;subst hs;rfl)
 case string=>cases x<;>cases y<;>first| (cases hs;done) | (simp only[Ac4,Aeh] at hs;subst hs;rfl)
 case int k0=>
  cases x;case int k a=>
   cases y;case int k' a'=>
    have key:((if k=k' then Ϩ (a==a') else Go.stuck "==: kinds differ" :Sem Bool)).runT p w es=(.ok b w,es):=by
     simp only[Ac4] at hs;split at hs
     ·rename_i e
      rw[if_pos e];obtain rfl:=ϟ hs;rfl
     ·cases hs
    cases a with
    |ofNat a=>cases a<;>(cases a' with|ofNat b=>cases b<;>exact key|negSucc b=>exact key)
    |negSucc a=>cases a' with|ofNat b=>cases b<;>exact key|negSucc b=>exact key
   all_goals cases hs
  all_goals (cases y<;>cases hs)
 all_goals (cases x<;>cases y<;>cases hs)
def S7{p:ϑ}{t:ό}{d:Abl}(h:p.underlying t=φ d){k:υ}:∀(es:List Abe) (i:Nat) {r:Option (Nat×υ)},Ac5 d k es i=φ r->∀(w:Ψ) (ev:Array ϥ),
 (Ac3 t k es i).runT p w ev=(.ok r w,ev)
 | [],i,r,hr,w,ev=>by
   simp only[Ac5,Aeh] at hr;subst hr;rfl
 |e::es,i,r,hr,w,ev=>by
  unfold Ac5 at hr;unfold Ac3;show((Adq t k e.key).bind _).runT p w ev=_;rw[pA];split at hr
  ·rename_i hs
   rw[SZ h hs];obtain rfl:=ϟ hr;rfl
  ·rename_i hs
   rw[SZ h hs];exact S7 h es (i+1) hr w ev
  ·cases hr
def W7{d:Abl}{x x' y y':υ}(hx:ah ρ x x')(hy:ah ρ y y'){b:Bool}(h:Ac4 d x y=φ b):Ac4 d x' y'=φ b:=by
 have no:∀d:Abl,(∀k,d≠ .int k)->d≠ .string->d≠ .bool->Ac4 d x y≠φ b:=by
  intro d h1 h2 h3 e;unfold Ac4 at e;split at e<;>simp_all
 cases d;case bool=>cases hx<;>first| (cases y<;>cases h;done) | (cases hy<;>first| (cases h;done) |exact h)
 case string=>cases hx<;>first| (cases y<;>cases h;done) | (cases hy<;>first| (cases h;done) |exact h)
 case int k=>cases hx<;>first| (cases y<;>cases h;done) | (cases hy<;>first| (cases h;done) |exact h)
 all_goals exact absurd h (no _ (λ_=>by simp) (by simp) (by simp))
def acF{d:Abl}{k k':υ}(hk:ah ρ k k'){es es':List Abe}(h:fT (jm ρ) es es'):∀(i:Nat) {r:Option (Nat×υ)},Ac5 d k es i=φ r->
 ∃r',Ac5 d k' es' i=φ r'/\fl (Kq ρ) r r':=by
 induction h with
 |nil=>intro i r hr;simp only[Ac5,Aeh] at hr;subst hr;exact⟨ν,rfl,.none⟩
 |cons he _ ih=>
  intro i r hr;unfold Ac5 at hr |-
  split at hr
  ·rename_i hs
   rw[W7 hk he.key hs];obtain rfl:=ϟ hr;exact⟨_,rfl,.some ⟨rfl,he.val⟩⟩
  ·rename_i hs
   rw[W7 hk he.key hs];exact ih _ hr
  ·cases hr
def Sim.aaV{P':ϑ}{s:Sem α}{s' WW:Sem β}(h:Sim P' P C ρ R s s')(e:∀w es,WW.runT P w es=s'.runT P w es):Sim P' P C ρ R s WW:=by
 intro aE h1 w w' es hw a aa hr;rw[e];exact h aE h1 w w' es hw a aa hr
def Sim.findKey{n:Nat}{t:ό}(ht:gK P n t=θ){k k':υ}(hk:ah ρ k k'){es es':List Abe}(h:fT (jm ρ) es es'):
 Sim (tw P F) P C ρ (λρ=>fl (Kq ρ)) (Ac6 t k es) (Ac6 t k' es'):=by
 unfold Ac6;refine Sim.fu λcw h1 d hd=>?_
 have ask:=Sim.findAsking (F:=F) (C:=C) ht h h1 (hk.mono h1) 0;have h:fT (jm cw) es es':=by
  clear ask hd;induction h with
  |nil=>exact .nil
  |cons he _ ih=>exact .cons (he.mono h1) ih
 cases e:Ac5 d k es 0 with
 |some r=>
  obtain⟨r',e',hr⟩:=acF (hk.mono h1) h 0 e;rw[e'];exact Sim.pure' λ_ h3=>hr.mono λ_ _ x=>⟨x.1,x.2.mono h3⟩
 |none=>
  simp only;cases e':Ac5 d k' es' 0 with
  |none=>exact ask
  |some r'=>exact ask.aaV λw ev=>by rw[S7 hd es' 0 e'];rfl
def fT.mono{R R':α->β->Prop}(h:∀a b,R a b->R' a b){x:List α}{y:List β}(k:fT R x y):fT R' x y:=by
 induction k with
 |nil=>exact .nil
 |cons he _ ih=>exact .cons (h _ _ he) ih
def Sim.lookup(T:oe P)(t:ό)(ht:∀k e,P.underlying t=φ (.map k e)->∃n,gK P n k=θ)(ok:Bool){m m' x x':υ}(hm:ah ρ m m')(hx:ah ρ x x'):
 Sim (tw P F) P C ρ ah (Ac7 t m x ok) (Ac7 t m' x' ok):=by
 unfold Ac7;refine Sim.fu λcw h1 d hd=>?_
 cases d;case map key elem=>
  obtain⟨n,hn⟩:=ht key elem hd;have hm:=hm.mono h1;simp only;have tail:∀ {ax:Ren} {es es':Array Abe},cw.le ax->bU (jm ax) es es'->Sim (tw P F) P C ax ah
   (do
     Ac2 es.isEmpty 10000 key x
     let (v,o) <-match <-Ac6 key x es.toList with
      |some (_,v)=>Ϩ (v,θ)
      |none=>Ϩ (<-Go.zeroValue elem,χ)
     Ϩ (if ok then μ #[v,.bool o] else v))
   (do
     Ac2 es'.isEmpty 10000 key x'
     let (v,o) <-match <-Ac6 key x' es'.toList with
      |some (_,v)=>Ϩ (v,θ)
      |none=>Ϩ (<-Go.zeroValue elem,χ)
     Ϩ (if ok then μ #[v,.bool o] else v)):=by
   intro ax es es' h' he;have hx:=hx.mono (Ren.le_trans h1 h');have e1:es.isEmpty=es'.isEmpty:=by simp[Array.isEmpty,he.1]
   rw[e1];refine Sim.bind' (Sim.checkKey _ _ n key hn hx) λbM h2 _ _ _=>?_
   refine Sim.bind' (Sim.findKey hn (hx.mono h2) (he.oG.mono λ_ _ x=>jm.mono h2 x)) λej h3 r r' hr=>?_
   have fin:∀ {ax:Ren} {v v':υ} (o:Bool),ah ax v v'->Sim (tw P F) P C ax ah (Ϩ (if ok then μ #[v,.bool o] else v):Sem υ) (Ϩ (if ok then μ #[v',.bool o] else v')):=by
    intro ax v v' o hv;refine Sim.pure' λeY dR=>?_
    split
    ·exact ah.tuple' ⟨rfl,λi hi bu=>by
      have:i=0\/i=1:=by simp at hi;omega
      rcases this with rfl|rfl
      ·exact hv.mono dR
      ·exact .bool _⟩
    ·exact hv.mono dR
   cases hr with
   |some hr=>exact fin θ hr.2
   |none=>exact Sim.bind' (Sim.zeroValue T elem) λ_ _ _ _ hv=>fin χ hv
  cases hm;case mapNone=>exact tail cw.le_refl .empty
  case map r=>
   refine Sim.bind' (Sim.getObj r) λbM h2 o o' ro=>?_
   cases ro;case map clock hmm=>exact tail h2 hmm
   all_goals exact Sim.stuck
  all_goals exact Sim.stuck
 all_goals exact Sim.stuck
end
end Go.Sim
namespace Go.Sim
open Go
structure bV(C:bQ)(ρ:Ren)(w w':Ψ):Prop where
 dA:∀a b,ρ a b->a<w.heap.size
 dc:∀a b,ρ a b->b<w'.heap.size
 fn:∀a b b',ρ a b->ρ a b'->b=b'
 inj:∀a a' b,ρ a b->ρ a' b->a=a'
 obj:∀a b o,ρ a b->w.heap[a]?=φ o->∃o',w'.heap[b]?=φ o'/\iE C ρ o o'
def gY.core{C:bQ}{ρ:Ren}{w w':Ψ}(h:gY C ρ w w'):bV C ρ w w':=⟨h.dA,h.dc,h.fn,h.inj,h.obj⟩
def bV.rel{C:bQ}{ρ:Ren}{w w':Ψ}(h:bV C ρ w w')(t:∀j q,w.tape (w.drawn+j) q=w'.tape (w'.drawn+j) q):gY C ρ w w':=⟨h.dA,h.dc,h.fn,h.inj,h.obj,t⟩
def ed(P' P:ϑ)(C:bQ)(ρ:Ren){α β:Type}(R:Ren->α->β->Prop)(s:Sem α)(s':Sem β):Prop:=
 ∀aE,ρ.le aE->∀(w w':Ψ) (es:Array ϥ),gY C aE w w'->∀a aa,s.run P' w=.ok a aa->
  ∃bH b aA eD,s'.runT P w' es=(.ok b aA,es++eD)/\R bH a b/\bV C bH aa aA/\Trans aE bH w w' aa aA/\∀e∈eD,pM bH w e
section
variable {P' P:ϑ}{F:Array Ϣ}{C:bQ}{ρ:Ren}{α β γ δ:Type}
variable {R:Ren->α->β->Prop}{S:Ren->γ->δ->Prop}
def Sim.lx{s:Sem α}{s':Sem β}(h:Sim P' P C ρ R s s'):ed P' P C ρ R s s':=by
 intro aE h1 w w' es hw a aa hr;obtain⟨bH,b,aA,eD,h2,h3,h4,h5,h6⟩:=h aE h1 w w' es hw a aa hr;exact⟨bH,b,aA,eD,h2,h3,h4.core,h5,h6⟩
def Sim.Gs{s:Sem α}{s':Sem β}{f:α->Sem γ}{g:β->Sem δ}(h:Sim P' P C ρ R s s')(hf:∀ax,ρ.le ax->∀a b,R ax a b->ed P' P C ax S (f a) (g b)):
 ed P' P C ρ S (s>>=f) (s'>>=g):=by
 intro aE h1 w w' es hw c aq hr;have hr:(s.bind f).run P' w=.ok c aq:=hr;rw[run_bind] at hr;cases e:s.run P' w with
 |halt h w=>rw[e] at hr;cases hr
 |ok a aa=>
  rw[e] at hr;obtain⟨bH,b,aA,eD,h2,h3,h4,h5,h6⟩:=h aE h1 w w' es hw a aa e;obtain⟨BR,d,mo,adx,k2,k3,k4,k5,k6⟩:=hf bH (Ren.le_trans h1 h5.le) a b h3 bH bH.le_refl aa aA (es++eD) h4 c aq hr;refine⟨BR,d,mo,eD++adx,?_,k3,k4,h5.trans k5,λx hx=>?_⟩
  ·show(s'.bind g).runT P w' es=_
   rw[pA,h2];simp only[k2,Aac]
  ·rcases Aad.1 hx with hx|hx
   ·exact(h6 x hx).mono k5.le
   ·exact(k6 x hx).back h5
def ed.ZG{s:Sem α}{s':Sem β}{f:α->γ}{g:β->δ}(h:ed P' P C ρ R s s')(hf:∀ax a b,R ax a b->S ax (f a) (g b)):ed P' P C ρ S (s>>=λa=>Ϩ (f a)) (s'>>=λb=>Ϩ (g b)):=by
 intro aE h1 w w' es hw c aq hr;have hr:(s.bind λa=>Ϩ (f a)).run P' w=.ok c aq:=hr
 rw[run_bind] at hr;cases e:s.run P' w with
 |halt h w=>rw[e] at hr;cases hr
 |ok a aa=>
  rw[e] at hr;have hr:Result.ok (f a) aa=.ok c aq:=hr;simp only[Adv] at hr;obtain⟨rfl,rfl⟩:=hr;obtain⟨bH,b,aA,eD,h2,h3,h4,h5,h6⟩:=h aE h1 w w' es hw a aa e;refine⟨bH,g b,aA,eD,?_,hf _ _ _ h3,h4,h5,h6⟩
  show(s'.bind _).runT P w' es=_;rw[pA,h2];rfl
def ed.never{s:Sem α}{s':Sem β}(h:br P' s):ed P' P C ρ R s s':=(Sim.never h).lx
def bytes_beq{s t:ByteArray}(h:(s==t)=θ):s=t:=by
 have h:ByteArray.beq s t=θ:=h;unfold ByteArray.beq at h;simp at h;exact ByteArray.ext h
def QB{x y:Array υ}(hs:x.size=y.size){f:υ×υ->Bool}:(x.toList.zip y.toList).all f=θ↔∀i (h:i<x.size) (h':i<y.size),f (x[i],y[i])=θ:=by
 rw[List.all_eq_true];constructor
 ·intro h i h1 h2
  refine h _ ?_
  rw[List.mem_iff_getElem];exact⟨i,by simp;omega,by simp⟩
 ·intro h p hp
  rw[List.mem_iff_getElem] at hp;obtain⟨i,hi,rfl⟩:=hp;simp only[List.length_zip,Array.length_toList] at hi;simpa using h i (by omega) (by omega)
def aiy:∀(n:Nat) {a b:υ},Ac8 n a b=θ->a=b:=by
 intro n;induction n with
 |zero=>intro a b h;cases a<;>cases b<;>first| (simp_all [Ac8];done) | (rw[bytes_beq h])
 |succ n ih=>
  intro a b h;cases a<;>cases b<;>try first| (simp_all [Ac8];done) | (rw[bytes_beq h];done)
  case agg x y=>
   simp only[Ac8,Aa3,beq_iff_eq] at h;obtain⟨hs,ha⟩:=h;congr 1;exact Aat hs λi h1 h2=>ih ((QB hs).1 ha i h1 h2)
  case iface t v u w=>
   simp only[Ac8,Aa3,beq_iff_eq] at h;rw[h.1,ih h.2]
def sameBits_self(hb:J4 ρ):∀(n:Nat) {a a' b':υ},Ac8 n a a=θ->ah ρ a a'->ah ρ a b'->Ac8 n a' b'=θ:=by
 have leaf:∀(n:Nat) {a a' b':υ},(∀x,a≠ .agg x)->(∀t x,a≠ .iface t x)->Ac8 n a a=θ->ah ρ a a'->ah ρ a b'->Ac8 n a' b'=θ:=by
  intro n a a' b' n1 n2 h ha eH;cases ha;case bool=>cases eH;exact h
  case int=>cases eH;exact h
  case string=>cases eH;exact h
  case ptrNone=>cases eH;exact h
  case ptr x y hxy=>
   cases eH;case ptr z hxz=>
    have e:y=z:=by
     obtain⟨y1,y2,y3⟩:=y;obtain⟨z1,z2,z3⟩:=z;obtain⟨p1,p2,p3⟩:=hxy;obtain⟨q1,q2,q3⟩:=hxz;simp only at p1 p2 p3 q1 q2 q3;rw[<-p2,<-p3,<-q2,<-q3,hb.1 _ _ _ p1 q1]
    subst e;cases n<;>simp[Ac8]
  case chanNone=>cases eH;exact h
  case chan x y hxy=>
   cases eH;case chan z hxz=>
    rw[hb.1 _ _ _ hxy hxz];cases n<;>simp[Ac8]
  case nilIface=>cases eH;exact h
  case iface t v v' hv=>exact absurd rfl (n2 t v)
  case agg x x' hx h1=>exact absurd rfl (n1 x)
  all_goals (cases n<;>simp[Ac8] at h)
 intro n;induction n with
 |zero=>
  intro a a' b' h ha eH;refine leaf 0 (λx e=>?_) (λt x e=>?_) h ha eH<;>(subst e;simp[Ac8] at h)
 |succ n ih=>
  intro a a' b' h ha eH;cases ha;case agg x x' hx h1=>
   cases eH;case agg y' hy h2=>
    simp only[Ac8,Aa3,beq_iff_eq] at h |-
    have hs:x'.size=y'.size:=hx.symm.trans hy;refine⟨hs,(QB hs).2 λi i1 i2=>?_⟩
    exact ih ((QB rfl).1 h.2 i (by omega) (by omega)) (h1 i (by omega) i1) (h2 i (by omega) i2)
  case iface t v v' hv=>
   cases eH;case iface w hw=>
    simp only[Ac8,Aa3,beq_iff_eq] at h |-
    exact⟨trivial,ih h.2 hv hw⟩
  all_goals exact leaf _ (λ_=>by simp) (λ_ _=>by simp) h (by first|exact ah.fjunk _ _ _|exact ah.sliceDead _ _| (constructor<;>assumption)) eH
def ed.ZI{s:Sem α}{s':Sem β}(h:∀ax,ρ.le ax->J4 ax->ed P' P C ax R s s'):ed P' P C ρ R s s':=
 λaE h1 w w' es hw a aa hr=>h aE h1 ⟨hw.fn,hw.inj⟩ aE aE.le_refl w w' es hw a aa hr
def ed.abj(q:Question)(hq:q.forced=χ){a b:Nat}(h:ρ a b){f:Nat->Obj}{o':Obj}(ho:∀n,iE C ρ (f n) o'):
 ed P' P C ρ (λ_ _ _=>True) (Go.choose q>>=λn=>Go.setObj a (f n)) (Go.setObj b o'):=by
 intro aE h1 w w' es hw u aa hr;have hr:(Sem.choose q λn=>Go.setObj a (f n)).run P' w=.ok u aa:=hr
 unfold ϣ at hr;simp only[hq,Aa2,if_false] at hr;have ht:∀(x:Nat) (aq:Ψ),(Go.setObj a (f x)).run P' {w with drawn:=w.drawn+1}=.ok () aq->∃ky,(Go.setObj a (f x)).run P' w=.ok () ky/\aq={ky with drawn:=w.drawn+1}:=by
  intro x aq h2;unfold Go.setObj ϣ at h2 |-
  cases ho:w.heap[a]? with
  |none=>simp only[ho] at h2;cases h2
  |some o=>
   simp only[ho] at h2 |-
   cases o<;>simp only[ϣ] at h2 |- <;>first| (cases h2;exact⟨_,rfl,rfl⟩) |cases h2
 obtain⟨ky,e3,rfl⟩:=ht _ _ hr;obtain⟨bH,b',aA,eD,k1,k2,k3,k4,k5⟩:=(Sim.setObj (P':=P') (P:=P) h (ho _)) aE h1 w w' es hw _ _ e3;exact⟨bH,b',aA,eD,k1,trivial,⟨k3.dA,k3.dc,k3.fn,k3.inj,k3.obj⟩,⟨k4.le,k4.new,k4.mP,k4.fQ,k4.kE,k4.im,k4.Gl,k4.Jg,k4.wv,k4.vR,k4.vS⟩,k5⟩
def bU.modify{R:α->α->Prop}{x y:Array α}(h:bU R x y)(i:Nat){f g:α->α}(hf:∀a b,R a b->R (f a) (g b)):bU R (x.modify i f) (y.modify i g):=by
 refine⟨by simp[h.1],λj hj qq=>?_⟩
 simp only[Aau];split
 ·exact hf _ _ (h.2 _ _ _)
 ·exact h.2 _ _ _
def ed.agw(hb:J4 ρ){r r':Nat}(hr:ρ r r'){old O8 new cG:υ}(ho:ah ρ old O8)(hn:ah ρ new cG){f g:υ->Obj}(hf:∀ {bM k k'},ρ.le bM->ah bM k k'->iE C bM (f k) (g k')):
 ed P' P C ρ (λ_ _ _=>True) (Ac9 old new>>=λk=>Go.setObj r (f k)) (Ac9 O8 cG>>=λk=>Go.setObj r' (g k)):=by
 unfold Ac9;by_cases e:Ac8 10000 old new=θ
 ·have e0:=aiy 10000 e
  subst e0;rw[if_pos e,if_pos (sameBits_self hb 10000 e ho hn)];exact(Sim.setObj hr (hf ρ.le_refl hn)).lx
 ·rw[if_neg e]
  by_cases e':Ac8 10000 O8 cG=θ
  ·have e0:=aiy 10000 e'
   subst e0;rw[if_pos e'];exact ed.abj _ rfl hr λn=>by
     by_cases hz:n=0
     ·rw[if_pos hz];exact hf ρ.le_refl hn
     ·rw[if_neg hz];exact hf ρ.le_refl ho
  ·rw[if_neg e']
   refine Sim.lx ?_
   refine Sim.bind (R:=ah) (Sim.cE (Sim.choose _) λcw h1 n=>Sim.pure ?_) λcw h1 k k' hk=>?_
   ·split
    ·exactλ_ h2=>hn.mono (Ren.le_trans h1 h2)
    ·exactλ_ h2=>ho.mono (Ren.le_trans h1 h2)
   ·exact Sim.setObj (h1 _ _ hr) (hf h1 hk)
def ed.mapUpdate(t:ό)(ht:∀k e,P.underlying t=φ (.map k e)->∃n,gK P n k=θ){m m' k k' v v':υ}(hm:ah ρ m m')(hk:ah ρ k k')(hv:ah ρ v v'):
 ed (tw P F) P C ρ (λ_ _ _=>True) (Ada t m k v) (Ada t m' k' v'):=by
 unfold Ada;refine Sim.Gs (Sim.underlying t) λcw h1 d d' hd=>?_
 obtain⟨rfl,hd⟩:=hd;cases d;case map key elem=>
  obtain⟨n,hn⟩:=ht key elem hd;have hm:=hm.mono h1;cases hm;case mapNone=>exact ed.never (nL _)
  case map r=>
   refine Sim.Gs (Sim.getObj r) λbM h2 o o' ro=>?_
   cases ro;case map es es' clock he=>
    have hk:=hk.mono (Ren.le_trans h1 h2);have hv:=hv.mono (Ren.le_trans h1 h2);refine Sim.Gs (Sim.checkKey _ _ n key hn hk) λej h3 _ _ _=>?_
    refine Sim.Gs (Sim.findKey hn (hk.mono h3) (he.oG.mono λ_ _ x=>jm.mono h3 x)) λlB h4 f f' hff=>?_
    refine ed.ZI λuq h5 hb=>?_
    have l5:=Ren.le_trans h3 (Ren.le_trans h4 h5);have Nd:bU (jm uq) es es':=he.mono λ_ _ x=>jm.mono l5 x
    have U9:=Ren.le_trans h2 l5 _ _ r;cases hff with
    |none=>exact(Sim.setObj U9 (.map _ (Nd.push (.mk _ (hk.mono l5) (hv.mono l5))))).lx
    | @some p q hpq=>
      obtain⟨i,x⟩:=p;obtain⟨j,y⟩:=q;obtain⟨e,_⟩:=hpq;simp only at e;subst e;refine ed.agw hb U9 ?_ (hk.mono l5) λh6 rI=>.map _ ((Nd.mono λ_ _ x=>jm.mono h6 x).modify _ λa b hab=>?_)
      ·rcases Nd.get? i with⟨e1,e2⟩ | ⟨a,b,e1,e2,hab⟩
       ·rw[e1,e2];exact hk.mono l5
       ·rw[e1,e2];exact hab.key
      ·cases hab with
       |mk born _ _=>exact .mk born rI (hv.mono (Ren.le_trans l5 h6))
   all_goals exact ed.never br.halt
  all_goals exact ed.never br.halt
 all_goals exact ed.never br.halt
end
end Go.Sim
namespace Go.Sim
open Go
def kF:Nat->υ->Bool
 |0,_=>χ
 |n+1,v=>match v with
  | .bool _| .int .. | .string _| .pointer ν| .slice ν _ _| .map ν| .chan ν| .nilFunc| .nilIface=>θ
  | .func (.func _) x y=>x.isEmpty && y.isEmpty
  | .iface _ v=>kF n v
  | .agg x=>x.all (kF n)
  | .tuple x=>x.all (kF n)
  |_=>χ
def oH(G:Nat->Bool):Abp->Bool
 | .tmp _=>θ
 | .const v=>kF 10 v
 | .global g=>G g
 | .func _=>θ
def VJ:Abo->Bool
 | .eql| .neq=>θ
 |_=>χ
def CR(P:ϑ)(t:ό):Bool:=gK P 20 t && !P.eqGuardType P.depth t
def zK(P:ϑ)(e:ό):Bool:=match P.underlying e with
 |some (.int .u8)=>θ
 |_=>χ
def zO(P:ϑ)(s d:ό):Bool:=match P.underlying s,P.underlying d with
 |some (.int _),φ (.int _)=>θ
 |some .string,φ (.slice e)=>zK P e
 |_,_=>χ
def CV(P:ϑ)(s:ό)(i:Nat):Bool:=match P.underlying s with
 |some (.struct fs)=>(match fs[i]? with
  |some f=>(P.info? f.type).any (·.size !=0)
  |none=>χ)
 |_=>χ
def yG(P:ϑ)(t:ό):Bool:=match P.underlying t with
 |some (.map k _)=>gK P 20 k
 |_=>χ
def EH(P:ϑ)(t:Option ό):Bool:=match t with
 |none=>θ
 |some u=>(match P.underlying u with
  |some (.int _)=>χ
  |_=>θ)
def uL(P:ϑ)(ts:Array ό)(n:Nat):Builtin->Bool
 | .len=>n==1
 | .max| .min=>θ
 | .copy=>n==2
 | .clear=>n==1
 | .append=>n==2 && EH P ts[1]?
 |_=>χ
def iO(P:ϑ)(o:Op):Bool:=match o with
 | .move _| .assign _| .pick .. | .alloc _| .box .. | .build .. | .buildSlice .. | .load .. | .store .. | .makeSlice .. | .slice .. | .field .. | .indexAddr .. | .index .. | .extract .. =>θ
 | .unOp .not _ _| .nilCheck _=>θ
 | .binOp op t _ _ _=> !VJ op||CR P t
 | .convert s d _=>zO P s d
 | .makeFunc (.func _) _ _=>θ
 | .makeMap _ ν=>θ
 | .fieldAddr s _ i=>CV P s i
 | .lookup t _ _ _=>yG P t
 | .mapUpdate t _ _ _=>yG P t
 | .call ⟨.value _,_,_⟩=>θ
 | .call ⟨.builtin b,args,ts⟩=>uL P ts args.size b
 |_=>χ
def j7(P:ϑ)(G:Nat->Bool)(o:Oper):Bool:=o.op.operands.all (oH G) && iO P o.op
def cr(P:ϑ)(G:Nat->Bool):ϖ->Bool
 | .skip| .label _| .ret| .exit _=>θ
 | .region _ ops _=>ops.all (j7 P G)
 | .seq a b=>cr P G a && cr P G b
 | .cond c a b=>oH G c && cr P G a && cr P G b
 | .block _ b=>cr P G b
 | .loop b=>cr P G b
 | .scope b=>cr P G b
 | .rangeFunc f _ a b=>oH G f && cr P G a && cr P G b
 |_=>χ
end Go.Sim
namespace Go.Sim
open Go
inductive kR(C:bQ)(ρ:Ren):Next->Next->Prop
 |value {v v':υ} (h:ah ρ v v'):kR C ρ (.value v) (.value v')
 |skip:kR C ρ .skip .skip
 |enter (f:Ϫ) {x x':Array υ} (hf:C.ok f=θ) (h:aP ρ x x'):kR C ρ (.enter f x) (.enter f x')
 |hole (f:Ϫ) {x x':Array υ} (hf:C.hole f=θ) (h:aP ρ x x'):kR C ρ (.enter f x) (.enter f x')
 |round {l l':Nat} (hl:ρ l l') (f:Ϫ) {x x':Array υ} (h:aP ρ x x') {a b:ϖ} (ha:C.clean a) (hb:C.clean b):kR C ρ (.round l f x a b) (.round l' f x' a b)
structure QS(fn:Ϣ):Prop where
 name:(fn.name== "runtime.NumGoroutine")=χ
 body:fn.body=ν
 next:Extern.findNext fn=ν
 row:Extern.find fn=ν
 init:fn.name.endsWith ".init" =χ
structure Env(P:ϑ)(F:Array Ϣ)(C:bQ)(G:Nat->Bool):Prop where
 sG:oe P
 clean:∀c,C.clean c↔cr P G c=θ
 get:∀f,C.ok f=θ->∃fn c,F[f]?=φ fn/\P.funcs[f]?=φ fn/\fn.body=φ c/\cr P G c=θ/\(fn.name== "runtime.NumGoroutine")=χ
 dead:∀f,C.ok f=χ->C.hole f=χ->F[f]?=ν\/∃fn,F[f]?=φ fn/\QS fn
 DT:∀f,C.hole f=θ->∃fn fn' c c',F[f]?=φ fn/\P.funcs[f]?=φ fn'/\fn.body=φ c/\fn'.body=φ c'/\(fn.name== "runtime.NumGoroutine")=χ/\(fn'.name== "runtime.NumGoroutine")=χ
 ahead:(tw P F).follows .staticDataAhead=θ
 steps:∀g,(tw P F).stepOf g=ν
def Env.never{P:ϑ}{F:Array Ϣ}{C:bQ}{G:Nat->Bool}(E:Env P F C G)(f:Ϫ)(args:Array υ)(h:C.ok f=χ)(h':C.hole f=χ):br (tw P F) (Go.callFunc f args):=by
 intro w a aa hr;rcases E.dead f h h' with e| ⟨fn,e,D⟩
 ·have e1:(tw P F).funcs[f]?=ν:=e
  simp[Go.callFunc,Go.program,bind,Ϯ,ϣ,e1,Go.stuck] at hr
 ·have e1:(tw P F).funcs[f]?=φ fn:=e
  have nm:¬fn.name= "runtime.NumGoroutine" :=λq=>by have:=D.name;rw[q] at this;simp at this
  simp[Go.callFunc,Go.program,Go.mark,bind,Ϯ,ϣ,e1,D.body,D.next,D.row,D.init,Go.unsupported,nm] at hr
def Tb:∀(n:Nat) {v:υ},kF n v=θ->Flat v:=by
 intro n;induction n with
 |zero=>intro v h;simp[kF] at h
 |succ n ih=>
  intro v h;have arr:∀x:Array υ,x.all (kF n)=θ->aP (λ_ _=>False) x x:=λx hx=>bU.refl λa ha=>ih (by simpa using Aal.1 hx a ha)
  cases v<;>try(simp[kF] at h;done)
  case bool=>exact .bool _
  case int=>exact .int _ _
  case string=>exact .string _
  case pointer p=>cases p with
   |none=>exact .ptrNone
   |some=>simp[kF] at h
  case slice p n c=>cases p with
   |none=>exact .sliceNone _ _
   |some=>simp[kF] at h
  case map p=>cases p with
   |none=>exact .mapNone
   |some=>simp[kF] at h
  case chan p=>cases p with
   |none=>exact .chanNone
   |some=>simp[kF] at h
  case func fn x y=>
   cases fn<;>try(simp[kF] at h;done)
   simp[kF] at h;obtain⟨rfl,rfl⟩:=h;exact .func (.func _) rfl (by simp) rfl (by simp)
  case nilFunc=>exact .nilFunc
  case iface t v=>exact .iface t (ih (by simpa [kF] using h))
  case nilIface=>exact .nilIface
  case agg x=>exact ah.uF (arr x (by simpa [kF] using h))
  case tuple x=>exact ah.tuple' (arr x (by simpa [kF] using h))
def pL(G:Nat->Bool)(ρ:Ren)(e e':Abp->υ):Prop:=∀x,oH G x=θ->ah ρ (e x) (e' x)
section
variable {P:ϑ}{F:Array Ϣ}{C:bQ}{G:Nat->Bool}{ρ:Ren}
def Sim.val{s s':Sem υ}(h:Sim (tw P F) P C ρ ah s s'):Sim (tw P F) P C ρ (kR C) (do Ϩ (Adn (<-s))) (do Ϩ (Adn (<-s'))):=
 Sim.bind' h λ_ _ _ _ r=>Sim.pure' λ_ h2=>.value (r.mono h2)
def Sim.kL{s s':Sem υ}(h:Sim (tw P F) P C ρ ah s s'):ed (tw P F) P C ρ (kR C) (do Ϩ (Adn (<-s))) (do Ϩ (Adn (<-s'))):=(Sim.val h).lx
def Sim.Ql{s s':Sem Unit}(h:Sim (tw P F) P C ρ (λ_ _ _=>True) s s'):ed (tw P F) P C ρ (kR C) (do s;Ϩ Ado) (do s';Ϩ Ado):=
 (Sim.bind' h λ_ _ _ _ _=>Sim.pure' λ_ _=>.skip).lx
def Sim.callFunc(E:Env P F C G)(f:Ϫ){x x':Array υ}(h:aP ρ x x'):Sim (tw P F) P C ρ (kR C) (Go.callFunc f x) (Go.callFunc f x'):=by
 by_cases hf:C.ok f=θ
 ·obtain⟨fn,c,h1,h2,h3,h4,h5⟩:=E.get f hf
  unfold Go.callFunc;refine Sim.bind' Sim.program λcw l1 a b ⟨ha,hb⟩=>?_
  have e1:a.funcs[f]?=φ fn:=by rw[ha];exact h1
  have e2:b.funcs[f]?=φ fn:=by rw[hb];exact h2
  simp only[e1,e2,h5,h3,Aed,Aa2,if_false];exact Sim.pure' λ_ l2=>.enter f hf (h.mono (Ren.le_trans l1 l2))
 ·by_cases hh:C.hole f=θ
  ·obtain⟨fn,fn',c,c',h1,h2,h3,h4,h5,h6⟩:=E.DT f hh
   unfold Go.callFunc;refine Sim.bind' Sim.program λcw l1 a b ⟨ha,hb⟩=>?_
   have e1:a.funcs[f]?=φ fn:=by rw[ha];exact h1
   have e2:b.funcs[f]?=φ fn':=by rw[hb];exact h2
   simp only[e1,e2,h5,h6,h3,h4,Aed,Aa2,if_false];exact Sim.pure' λ_ l2=>.hole f hh (h.mono (Ren.le_trans l1 l2))
  ·exact Sim.never (E.never f x (by simpa using hf) (by simpa using hh))
def Sim.getLoop{l l':Nat}(h:ρ l l'):Sim (tw P F) P C ρ (zu C) (Adb l) (Adb l'):=by
 unfold Adb;refine Sim.bind' (Sim.getObj h) λcw l1 o o' r=>?_
 cases r;case loop hl=>exact Sim.pure' λ_ l2=>hl.mono l2
 all_goals exact Sim.stuck
def foldl_rel{l:List (Tmp×υ)}{l':List (Tmp×υ)}(h:fT (λa b=>a.1=b.1/\ah ρ a.2 b.2) l l'):∀ {t t':Array υ},aP ρ t t'->
 aP ρ (l.foldl (λtmps (x:Tmp×υ)=>tmps.setIfInBounds x.1 x.2) t) (l'.foldl (λtmps (x:Tmp×υ)=>tmps.setIfInBounds x.1 x.2) t'):=by
 induction h with
 |nil=>exactλh=>h
 |cons hab _ ih=>
  intro t t' ht;simp only[List.foldl_cons];refine ih ?_
  rw[hab.1];exact bU.set ht _ hab.2
def Sim.yield{l l':Nat}(h:ρ l l'){x x':Array υ}(hx:aP ρ x x'):Sim (tw P F) P C ρ (kR C) (Adc l x) (Adc l' x'):=by
 unfold Adc;refine Sim.bind' (Sim.getLoop h) λcw l1 o o' r=>?_
 cases r with
 |mk st px fn ps oU body ht hd ha hb hp=>
  simp only;rw[hx.1];split
  ·exact Sim.y8
  ·refine Sim.pure' λbM l2=>.round (l2 _ _ (l1 _ _ h)) fn ?_ ha hb
   simp only[<-Aar];refine foldl_rel ?_ (ht.mono l2)
   have:∀(ps:List Tmp) {x x':List υ},fT (ah bM) x x'->fT (λa b:Tmp×υ=>a.1=b.1/\ah bM a.2 b.2) (ps.zip x) (ps.zip x'):=by
    intro ps;induction ps with
    |nil=>intro x x' h;simp only[List.zip_nil_left];exact .nil
    |cons p ps ih=>
     intro x x' h;cases h with
     |nil=>simp only[List.zip_nil_right];exact .nil
     |cons hab t=>simp only[List.zip_cons_cons];exact .cons ⟨rfl,hab⟩ (ih t)
   simpa using this ps.toList (hx.mono (Ren.le_trans l1 l2)).oG
end
end Go.Sim
namespace Go.Sim
open Go
section
variable {P:ϑ}{F:Array Ϣ}{C:bQ}{G:Nat->Bool}{ρ:Ren}{e e':Abp->υ}
def Sim.AT(E:Env P F C G){v v':υ}(hv:ah ρ v v'){x x':Array υ}(hx:aP ρ x x'):
 Sim (tw P F) P C ρ (kR C) (do let d <-Ach v x;Go.invoke d.target d.args) (do let d <-Ach v' x';Go.invoke d.target d.args):=by
 cases hv;case func fn fn' a a' b b' h ha h1 hb h2=>
  cases h with
  |func f=>exact Sim.callFunc E f ((bU.append ⟨ha,h1⟩ hx).append ⟨hb,h2⟩)
  |yield hl=>exact Sim.yield hl (bU.append ⟨ha,h1⟩ hx)
 case nilFunc=>exact Sim.never λw a aa hr=>nL (P':=tw P F) (α:=Next) .nilDeref w a aa hr
 case fjunk=>
  have e:(do let d <-Ach (.func (.method "") #[.nilIface] #[]) x;Go.invoke d.target d.args:Sem Next)=runtimePanic .nilDeref:=by
   show Go.invoke (.fn (.method "") #[]) (#[.nilIface]++x)=_;have h0:(#[Value.nilIface]++x)[0]?=φ .nilIface:=by rw[Aaw (by simp)];rfl
   unfold Go.invoke;simp only[h0,Go.callMethod]
  rw[e];exact Sim.never λw a aa hr=>nL (P':=tw P F) (α:=Next) .nilDeref w a aa hr
 all_goals exact Sim.y8
def Wr{α:Type}{x:Array α}(h:x.size=1):∃a,x=#[a]:=⟨x[0],by
 apply Aat<;>simp[h]
 intro i h1;have:i=0:=by omega
 subst this;rfl⟩
def XS{α:Type}{x:Array α}(h:x.size=2):∃a b,x=#[a,b]:=⟨x[0],x[1],by
 apply Aat<;>simp[h]
 intro i h1;have:i=0\/i=1:=by omega
 rcases this with rfl|rfl<;>exactλ_=>rfl⟩
def bU.inv1{α β:Type}{R:α->β->Prop}{a:α}{b:β}(h:bU R #[a] #[b]):R a b:=h.2 0 (by simp) (by simp)
def bU.inv2{α β:Type}{R:α->β->Prop}{a c:α}{b d:β}(h:bU R #[a,c] #[b,d]):R a b/\R c d:=⟨h.2 0 (by simp) (by simp),h.2 1 (by simp) (by simp)⟩
def Sim.builtin(E:Env P F C G)(b:Builtin)(ts:Array ό)(t:ό)(cs:Array Bool){x x':Array υ}(hx:aP ρ x x')(hb:uL P ts x.size b=θ):
 Sim (tw P F) P C ρ (kR C) (Go.builtin b ts t cs x) (Go.builtin b ts t cs x'):=by
 have h1:x.size=1->∃a a',x=#[a]/\x'=#[a']/\ah ρ a a':=λh=>by
  obtain⟨a,rfl⟩:=Wr h;obtain⟨a',rfl⟩:=Wr (hx.1.symm.trans h);exact⟨a,a',rfl,rfl,hx.inv1⟩
 have h2:x.size=2->∃a b a' b',x=#[a,b]/\x'=#[a',b']/\ah ρ a a'/\ah ρ b b':=λh=>by
  obtain⟨a,b,rfl⟩:=XS h;obtain⟨a',b',rfl⟩:=XS (hx.1.symm.trans h);exact⟨a,b,a',b',rfl,rfl,hx.inv2⟩
 cases b<;>simp only[uL,Aa3,beq_iff_eq,reduceCtorEq] at hb
 case len=>
  obtain⟨a,a',rfl,rfl,ha⟩:=h1 hb;exact Sim.val (Sim.len ts t ha)
 case max=>exact Sim.val (Sim.max ts t hx)
 case min=>exact Sim.val (Sim.min ts t hx)
 case copy=>
  obtain⟨a,b,a',b',rfl,rfl,ha,hb⟩:=h2 hb;exact Sim.val (Sim.copy ts t ha hb)
 case clear=>
  obtain⟨a,a',rfl,rfl,ha⟩:=h1 hb;exact Sim.val (Sim.clear E.sG ts t ha)
 case append=>
  obtain⟨a,b,a',b',rfl,rfl,ha,hc⟩:=h2 hb.1;refine Sim.val (Sim.append E.sG ts t (λu hu k hk=>?_) ha hc)
  have:=hb.2;simp[EH,hu,hk] at this
def Gm{x:Array Abp}(h:x.all (oH G)=θ){o:Abp}(ho:o∈x):oH G o=θ:=by simpa using Aal.1 h o ho
def Ip(h:pL G ρ e e'){x:Array Abp}(hx:x.all (oH G)=θ):aP ρ (x.map e) (x.map e'):=by
 refine⟨by simp,λi h1 h2=>?_⟩
 simp only[Aap];exact h _ (Gm hx (Aab _))
def afM(h:pL G ρ e e'){x:Array (Nat×Abp)}(hx:∀p∈x,oH G p.2=θ):bU (zw ρ) (x.map λ(i,o)=>(i,e o)) (x.map λ(i,o)=>(i,e' o)):=by
 refine⟨by simp,λi h1 h2=>?_⟩
 simp only[Aap];exact⟨rfl,h _ (hx _ (Aab _))⟩
def OT(h:pL G ρ e e'){x:Option Abp}(hx:∀o,x=φ o->oH G o=θ):fl (ah ρ) (x.map e) (x.map e'):=by
 cases x with
 |none=>exact .none
 |some o=>exact .some (h _ (hx o rfl))
def ed.execOp(E:Env P F C G)(o:Oper)(ho:j7 P G o=θ)(h:pL G ρ e e'):ed (tw P F) P C ρ (kR C) (Go.execOp e o) (Go.execOp e' o):=by
 unfold j7 at ho;rw[Aa3] at ho;obtain⟨nO,ab⟩:=ho;unfold Go.execOp;have T:=E.sG;have mem:∀x,x∈o.op.operands->ah ρ (e x) (e' x):=λx hx=>h x (Gm nO hx)
 have vK:∀x,x∈o.op.operands->oH G x=θ:=λx hx=>Gm nO hx
 generalize o.op=op at *;cases op<;>try(simp[iO] at ab;done)
 case move x=>exact Sim.lx (Sim.pure' λ_ l=>.value ((mem x (by simp[Adu])).mono l))
 case assign x=>exact Sim.lx (Sim.pure' λ_ l=>.value ((mem x (by simp[Adu])).mono l))
 case pick c a b=>
  refine Sim.lx (Sim.cE (Sim.asBool (mem c (by simp[Adu]))) λcw l1 x=>Sim.pure' λbM l2=>.value ?_)
  cases x
  ·exact(mem b (by simp[Adu])).mono (Ren.le_trans l1 l2)
  ·exact(mem a (by simp[Adu])).mono (Ren.le_trans l1 l2)
 case alloc t=>exact Sim.kL (Sim.alloc T t)
 case box t x=>exact Sim.kL (Sim.box t (mem x (by simp[Adu])))
 case build t ps=>exact Sim.kL (Sim.build T t (afM h λp hp=>vK p.2 (by simp[Adu];exact⟨p.1,hp⟩)))
 case buildSlice t n ps=>exact Sim.kL (Sim.buildSlice T t n (afM h λp hp=>vK p.2 (by simp[Adu];exact⟨p.1,hp⟩)))
 case load t a=>exact Sim.kL (Sim.loadAt t (mem a (by simp[Adu])))
 case store t a x=>exact Sim.Ql (Sim.storeAt t (mem a (by simp[Adu])) (mem x (by simp[Adu])))
 case binOp bop t x y yt=>
  refine Sim.kL (Sim.ajj (n:=20) bop t (λhq=>?_) x y (mem x (by simp[Adu])) (mem y (by simp[Adu])))
  simp only[iO,CR,Bool.or_eq_true,Aa3,Bool.not_eq_true'] at ab;rcases ab with ab|ab
  ·rcases hq with rfl|rfl<;>simp[VJ] at ab
  ·exact ab
 case unOp u t x=>
  cases u<;>try(simp[iO] at ab;done)
  exact Sim.kL (Sim.not (mem x (by simp[Adu])))
 case nilCheck x=>
  have hx:=mem x (by simp[Adu])
  simp only;generalize e x=v at hx |-
  generalize e' x=v' at hx |-
  have vF:=hx;have np:∀ {s':Sem Next},ed (tw P F) P C ρ (kR C) (Go.runtimePanic .nilDeref:Sem Next) s':=Sim.lx (Sim.never λw a aa hr=>nL (P':=tw P F) (α:=Next) .nilDeref w a aa hr)
  cases hx;case func fn fn' _ _ _ _ hf _ _ _ _=>cases hf<;>exact Sim.lx (Sim.pure' λ_ l=>.value (ah.mono l vF))
  case ptrNone=>exact np
  case nilIface=>exact np
  case nilFunc=>exact np
  case fjunk=>exact np
  case junk h hb hc=>
   have hv:ah ρ (μ #[]) v':=.junk h hb hc;have ok:ed (tw P F) P C ρ (kR C) (Ϩ (Adn (μ #[])):Sem Next) (Ϩ (Adn v')):=Sim.lx (Sim.pure' λ_ l=>.value (ah.mono l hv))
   cases v';case pointer x=>
    cases x
    ·exact absurd rfl hc.1
    ·exact ok
   case nilIface=>exact absurd rfl hc.2.1
   case nilFunc=>exact absurd rfl hc.2.2.1
   case func f x y=>exact absurd rfl (hc.2.2.2 f x y)
   all_goals exact ok
  all_goals exact Sim.lx (Sim.pure' λ_ l=>.value (ah.mono l vF))
 case convert s d x=>
  refine Sim.kL (Sim.convert s d ?_ (mem x (by simp[Adu])))
  simp only[iO,zO] at ab;split at ab
  ·exact .ints _ _ (by assumption) (by assumption)
  ·unfold zK at ab
   split at ab
   ·exact .bytes _ (by assumption) (by assumption) (by assumption)
   ·cases ab
  ·cases ab
 case makeFunc fn a b=>
  cases fn<;>try(simp[iO] at ab;done)
  have ha:a.all (oH G)=θ:=Aal.2 λx hx=>by simpa using vK x (by simp[Adu,hx])
  have hb:b.all (oH G)=θ:=Aal.2 λx hx=>by simpa using vK x (by simp[Adu,hx])
  exact Sim.kL (Sim.makeFunc _ (Ip h ha) (Ip h hb))
 case makeMap t r=>
  cases r with
  |some=>simp[iO] at ab
  |none=>exact Sim.kL (Sim.ahW t)
 case makeSlice t l c=>exact Sim.kL (Sim.makeSlice T t (mem l (by simp[Adu])) (mem c (by simp[Adu])))
 case slice t x lo hi mx=>
  exact Sim.kL (Sim.sliceAt t (mem x (by simp[Adu])) (OT h λo hx=>vK o (by subst hx;simp[Adu])) (OT h λo hx=>vK o (by subst hx;simp[Adu])) (OT h λo hx=>vK o (by subst hx;simp[Adu])))
 case fieldAddr s x i=>
  refine Sim.kL (Sim.fieldAt s (mem x (by simp[Adu])) i λfs f h1 h2=>?_)
  simp only[iO,CV,h1,h2] at ab;cases hi: P.info? f.type with
  |none=>rw[hi] at ab;cases ab
  |some info=>exact⟨info,rfl,by rw[hi] at ab;simpa using ab⟩
 case field t x i=>exact Sim.kL (Sim.field t (mem x (by simp[Adu])) i)
 case indexAddr t x i=>exact Sim.kL (Sim.indexAt t (mem x (by simp[Adu])) (mem i (by simp[Adu])))
 case index t x i=>exact Sim.kL (Sim.index t (mem x (by simp[Adu])) (mem i (by simp[Adu])))
 case lookup t x i ok=>
  refine Sim.kL (Sim.lookup T t (λk el hk=>⟨20,?_⟩) ok (mem x (by simp[Adu])) (mem i (by simp[Adu])))
  simpa [iO,yG,hk] using ab
 case mapUpdate t m k x=>
  refine ed.ZG (f:=λ_=>Ado) (g:=λ_=>Ado) (ed.mapUpdate t (λk el hk=>⟨20,?_⟩) (mem m (by simp[Adu])) (mem k (by simp[Adu])) (mem x (by simp[Adu]))) λ_ _ _ _=>.skip
  simpa [iO,yG,hk] using ab
 case extract x i=>exact Sim.kL (Sim.extract (mem x (by simp[Adu])) i)
 case call c=>
  obtain⟨callee,args,ts⟩:=c;have ha:args.all (oH G)=θ:=Aal.2 λx hx=>by simpa using vK x (by simp[Adu,Call.operands,hx])
  cases callee with
  |invoke=>simp[iO] at ab
  |value f=>exact(Sim.AT E (mem f (by simp[Adu,Call.operands])) (Ip h ha)).lx
  |builtin b=>exact(Sim.builtin E b ts _ _ (Ip h ha) (by simpa [iO] using ab)).lx
end
end Go.Sim
namespace Go.Sim
open Go
section
variable {P:ϑ}{F:Array Ϣ}{C:bQ}{G:Nat->Bool}{ρ:Ren}
def Sim.enterLoop(fn:Ϫ){t t':Array υ}(ht:aP ρ t t')(ps:Array Tmp){a b:ϖ}(ha:C.clean a)(hb:C.clean b){r r':Option Nat}(hr:fl ρ r r'):
 Sim (tw P F) P C ρ (λρ x y=>ρ x.1 y.1/\fT (sM ρ) x.2 y.2) (Ade fn t ps a b r) (Ade fn t' ps a b r'):=by
 have last:∀ {cw:Ren},ρ.le cw->∀ {d d':Nat},cw d d'->∀ {m m':List Abf},fT (sM cw) m m'->Sim (tw P F) P C cw (λρ x y=>ρ x.1 y.1/\fT (sM ρ) x.2 y.2)
  (do Ϩ (<-Go.newObj (.loop {state:=.ready,pending:=ν,fn,tmps:=t,params:=ps,assign:=a,body:=b,defers:=d}),m))
  (do Ϩ (<-Go.newObj (.loop {state:=.ready,pending:=ν,fn,tmps:=t',params:=ps,assign:=a,body:=b,defers:=d'}),m')):=by
  intro cw l1 d d' hd m m' hm;refine Sim.bind' (Sim.newObj (.loop (.mk _ _ _ _ _ _ (ht.mono l1) hd ha hb (by simp)))) λbM l2 x y hxy=>Sim.pure' λej l3=>⟨l3 _ _ hxy,?_⟩
  exact hm.mono λ_ _ h=>by cases h with|collected h=>exact .collected (l3 _ _ (l2 _ _ h))
 unfold Ade;cases hr with
 |none=>
  simp only[pure_bind];exact Sim.bind' (Sim.newObj .calls) λcw l1 x y hxy=>last l1 hxy (.cons (.collected hxy) .nil)
 |some h=>
  simp only[pure_bind];refine Sim.bind' (Sim.getLoop h) λcw l1 o o' hl=>?_
  cases hl with
  |mk st px fn ps oU body ht hd ha hb hp=>exact last l1 hd .nil
def Sim.beginRound{l l':Nat}(h:ρ l l'):Sim (tw P F) P C ρ (λ_ _ _=>True) (Adf l) (Adf l'):=by
 unfold Adf;refine Sim.bind' (Sim.getLoop h) λcw l1 o o' hl=>?_
 cases hl with
 |mk st px fn ps oU body ht hd ha hb hp=>
  refine Sim.bind' (Sim.setObj (l1 _ _ h) (.loop (.mk _ _ _ _ _ _ ht hd ha hb hp))) λbM l2 _ _ _=>?_
  cases st
  ·exact Sim.pure' λ_ _=>trivial
  all_goals exact Sim.never (nL _)
def Sim.endRound{l l':Nat}(h:ρ l l')(j:Option ϖ)(hj:∀c,j=φ c->C.clean c):Sim (tw P F) P C ρ ah (Adg l j) (Adg l' j):=by
 unfold Adg;refine Sim.bind' (Sim.getLoop h) λcw l1 o o' hl=>?_
 cases hl with
 |mk st px fn ps oU body ht hd ha hb hp=>
  exact Sim.bind' (Sim.setObj (l1 _ _ h) (.loop (.mk _ _ _ _ _ _ ht hd ha hb hj))) λbM l2 _ _ _=>Sim.pure' λ_ _=>.bool _
def Sim.endLoop{l l':Nat}(h:ρ l l'):Sim (tw P F) P C ρ (λ_ a b=>a=b/\∀c,a=φ c->C.clean c) (Adh l) (Adh l'):=by
 unfold Adh;refine Sim.bind' (Sim.getLoop h) λcw l1 o o' hl=>?_
 cases hl with
 |mk st px fn ps oU body ht hd ha hb hp=>
  simp only;split
  ·exact Sim.never (br.bind (nL _))
  ·exact Sim.bind' (Sim.setObj (l1 _ _ h) (.loop (.mk _ _ _ _ _ _ ht hd ha hb hp))) λbM l2 _ _ _=>Sim.pure' λ_ _=>⟨rfl,hp⟩
def Sim.takeDeferred{l l':Nat}(h:ρ l l'):Sim (tw P F) P C ρ (λ_ a b=>a=[]/\b=[]) (Adi l) (Adi l'):=by
 unfold Adi;refine Sim.bind' (Sim.getObj h) λcw l1 o o' ro=>?_
 cases ro;case calls=>exact Sim.bind' (Sim.setObj (l1 _ _ h) .EF) λbM l2 _ _ _=>Sim.pure' λ_ _=>⟨rfl,rfl⟩
 all_goals exact Sim.stuck
def Sim.results(fn:Ϣ){t t':Array υ}(ht:aP ρ t t'):Sim (tw P F) P C ρ ah (Go.results fn t) (Go.results fn t'):=by
 unfold Go.results;have:∀(l:List ResultVar) {cw:Ren},ρ.le cw->Sim (tw P F) P C cw (λρ=>fT (ah ρ)) (l.mapM λ
  | .tmp x=>Ϩ (t.getD x ω)
  | .cell a ty=>do Go.loadVar ty (<-Go.asAddr (t.getD a ω)))
  (l.mapM λ
    | .tmp x=>Ϩ (t'.getD x ω)
    | .cell a ty=>do Go.loadVar ty (<-Go.asAddr (t'.getD a ω))):=by
  intro l;induction l with
  |nil=>intro cw l1;simp only[List.mapM_nil];exact Sim.pure' λ_ _=>.nil
  |cons r l ih=>
   intro cw l1;simp only[List.mapM_cons];refine Sim.bind' (R:=ah) ?_ λbM l2 v v' hv=>Sim.bind' (ih (Ren.le_trans l1 l2)) λej l3 x x' hx=>Sim.pure' λlB l4=>.cons (hv.mono (Ren.le_trans l3 l4)) (hx.mono λ_ _ h=>h.mono l4)
   cases r with
   |tmp x=>exact Sim.pure' λbM l2=>bU.getD (ht.mono (Ren.le_trans l1 l2)) x .undef
   |cell a ty=>exact Sim.bind' (Sim.asAddr (bU.getD (ht.mono l1) a .undef)) λbM l2 _ _ hab=>Sim.loadVar ty hab
 rw[Aak,Aak,map_eq_pure_bind,map_eq_pure_bind,bind_assoc,bind_assoc];refine Sim.bind' (this fn.results.toList ρ.le_refl) λcw l1 x x' hx=>?_
 simp only[pure_bind];refine Sim.pure' λbM l2=>?_
 have hx:=hx.mono λ_ _ h=>ah.mono l2 h
 cases hx with
 |nil=>exact ah.tuple' .empty
 |cons hab t=>
  cases t with
  |nil=>exact hab
  |cons AY t=>exact ah.tuple' (bU.ai9 (.cons hab (.cons AY t)))
end
end Go.Sim
namespace Go.Sim
open Go
structure Tl where
 code:ϖ
 items:List Item
 defers:List Abf
 callers:List Ϙ
 kind:CallKind
def di:ϖ:=.refuse ""
def cQ:Abf:={target:=.fn (.method "") #[],args:=#[]}
inductive Cut(C:bQ)(S:Tl):ϖ->ϖ->Prop
 |stop:Cut C S di S.code
 |seq {a b b':ϖ} (ha:C.clean a) (hb:Cut C S b b'):Cut C S (.seq a b) (.seq a b')
inductive lG(C:bQ)(S:Tl)(ρ:Ren):Item->Item->Prop
 |code (c:ϖ) (h:C.clean c):lG C S ρ (.code c) (.code c)
 |cut {c c':ϖ} (h:Cut C S c c'):lG C S ρ (.code c) (.code c')
 |inBlock (id:Nat):lG C S ρ (.inBlock id) (.inBlock id)
 |inLoop (c:ϖ) (h:C.clean c):lG C S ρ (.inLoop c) (.inLoop c)
 |inScope (c:ϖ) (h:C.clean c):lG C S ρ (.inScope c) (.inScope c)
 |inRegion (id:Nat) (d:Bool) (ops:Array Oper) (todo:List Nat) (h:C.clean (.region id ops d)):lG C S ρ (.inRegion ops todo) (.inRegion ops todo)
 |inRangeFunc {l l':Nat} (h:ρ l l'):lG C S ρ (.inRangeFunc l) (.inRangeFunc l')
 |endRangeFunc {l l':Nat} (h:ρ l l'):lG C S ρ (.endRangeFunc l) (.endRangeFunc l')
 |beginRound:lG C S ρ .beginRound .beginRound
def lG.mono{C:bQ}{S:Tl}{ρ ax:Ren}(h:ρ.le ax){a b:Item}(x:lG C S ρ a b):lG C S ax a b:=by
 cases x with
 |code c hc=>exact .code c hc
 |cut hc=>exact .cut hc
 |inBlock id=>exact .inBlock id
 |inLoop c hc=>exact .inLoop c hc
 |inScope c hc=>exact .inScope c hc
 |inRegion id d ops todo hc=>exact .inRegion id d ops todo hc
 |inRangeFunc hl=>exact .inRangeFunc (h _ _ hl)
 |endRangeFunc hl=>exact .endRangeFunc (h _ _ hl)
 |beginRound=>exact .beginRound
def sM.mono{ρ ax:Ren}(h:ρ.le ax){a b:Abf}(x:sM ρ a b):sM ax a b:=by
 cases x with|collected hr=>exact .collected (h _ _ hr)
inductive oc(C:bQ)(S:Tl)(ρ:Ren):Bool->List Item->List Item->Prop
 |nil:oc C S ρ χ [] []
 |stop:oc C S ρ θ [.code di] S.items
 |cons {b:Bool} {i i':Item} {k k':List Item} (h:lG C S ρ i i') (t:oc C S ρ b k k'):oc C S ρ b (i::k) (i'::k')
inductive jJ(S:Tl)(ρ:Ren):Bool->List Abf->List Abf->Prop
 |nil:jJ S ρ χ [] []
 |stop:jJ S ρ θ [cQ] S.defers
 |cons {b:Bool} {d d':Abf} {k k':List Abf} (h:sM ρ d d') (t:jJ S ρ b k k'):jJ S ρ b (d::k) (d'::k')
def oc.mono{C:bQ}{S:Tl}{ρ ax:Ren}(h:ρ.le ax){b:Bool}{k k':List Item}(x:oc C S ρ b k k'):oc C S ax b k k':=by
 induction x with
 |nil=>exact .nil
 |stop=>exact .stop
 |cons hi _ ih=>exact .cons (hi.mono h) ih
def jJ.mono{S:Tl}{ρ ax:Ren}(h:ρ.le ax){b:Bool}{k k':List Abf}(x:jJ S ρ b k k'):jJ S ax b k k':=by
 induction x with
 |nil=>exact .nil
 |stop=>exact .stop
 |cons hi _ ih=>exact .cons (hi.mono h) ih
def jJ.app{S:Tl}{ρ:Ren}{b:Bool}{m m' k k':List Abf}(h:fT (sM ρ) m m')(x:jJ S ρ b k k'):jJ S ρ b (m++k) (m'++k'):=by
 induction h with
 |nil=>exact x
 |cons hd _ ih=>exact .cons hd ih
inductive Ld:FrameMode->Prop
 |run:Ld .run
 |returning:Ld .returning
structure Fit(C:bQ)(K:CallKind)(b:Bool)(f:Ϫ)(r:Option Nat)(m:FrameMode)(eT:CallKind):Prop where
 ok:b=χ->r=ν->C.ok f=θ
 base:b=θ->r=ν
 round:r≠ν->m=.run
 kind:b=χ->eT=.normal
 early:(eT==.early)=χ
 Cv:b=θ->eT=K
inductive eS(C:bQ)(S:Tl)(ρ:Ren)(b:Bool):Ϙ->Ϙ->Prop
 |mk (f:Ϫ) {t t':Array υ} (ht:aP ρ t t') {k k':List Item} (hk:oc C S ρ b k k') {d d':List Abf} (hd:jJ S ρ b d d')
   {m:FrameMode} (hm:Ld m) {r r':Option Nat} (hr:fl ρ r r') {eT:CallKind} (hf:Fit C S.kind b f r m eT):eS C S ρ b ⟨f,t,k,d,m,.normal,r⟩ ⟨f,t',k',d',m,eT,r'⟩
def eS.mono{C:bQ}{S:Tl}{ρ ax:Ren}(h:ρ.le ax){q:Bool}{a b:Ϙ}(x:eS C S ρ q a b):eS C S ax q a b:=by
 cases x with
 |mk f ht hk hd hm hr hf=>
  refine .mk f (ht.mono h) (hk.mono h) (hd.mono h) hm ?_ hf
  cases hr with
  |none=>exact .none
  |some hr=>exact .some (h _ _ hr)
inductive Below(C:bQ)(S:Tl)(ρ:Ren):Bool->List Ϙ->List Ϙ->Prop
 |base:Below C S ρ θ [] S.callers
 |call {b:Bool} {fr aV:Ϙ} {cs bh:List Ϙ} (h:eS C S ρ b fr aV) (aw:fr.todo≠ [.code di]) (t:Below C S ρ b cs bh):Below C S ρ χ (fr::cs) (aV::bh)
def Below.mono{C:bQ}{S:Tl}{ρ ax:Ren}(h:ρ.le ax){q:Bool}{a b:List Ϙ}(x:Below C S ρ q a b):Below C S ax q a b:=by
 induction x with
 |base=>exact .base
 |call hf aw _ ih=>exact .call (hf.mono h) aw ih
abbrev aO(fr:Ϙ)(cs:List Ϙ):ώ:={frame:=fr,callers:=cs,status:=.running,dying:=ν}
inductive sP(P P':ϑ)(C:bQ)(S:Tl)(ρ:Ren):ώ->ώ->Prop
 |inside {b:Bool} {fr aV:Ϙ} {cs bh:List Ϙ} (h:eS C S ρ b fr aV) (hL:Below C S ρ b cs bh):sP P P' C S ρ (aO fr cs) (aO aV bh)
 |hole {b:Bool} (f:Ϫ) (hf:C.hole f=θ) {x x':Array υ} (hx:aP ρ x x') {fr aV:Ϙ} {cs bh:List Ϙ} (h:eS C S ρ b fr aV) (aw:fr.todo≠ [.code di]) (hL:Below C S ρ b cs bh):
   sP P P' C S ρ (aO (Aci P' f x .normal) (fr::cs)) (aO (Aci P f x' .normal) (aV::bh))
section
variable {P:ϑ}{F:Array Ϣ}{C:bQ}{S:Tl}{G:Nat->Bool}{ρ:Ren}
def lG.SG{c c':ϖ}(h:Cut C S c c'):c=di\/∃a b b',c=.seq a b/\c'=.seq a b'/\C.clean a/\Cut C S b b':=by
 cases h with
 |stop=>exact .inl rfl
 |seq ha hb=>exact .inr ⟨_,_,_,rfl,rfl,ha,hb⟩
def CX{q:Bool}{fr aV:Ϙ}(h:eS C S ρ q fr aV){v v':υ}(hv:ah ρ v v')(aw:fr.todo≠ [.code di]):eS C S ρ q (fr.finish v) (aV.finish v'):=by
 cases h with
 |mk f ht hk hd hm hr hf=>
  cases hk with
  |nil=>exact .mk f ht .nil hd hm hr hf
  |stop=>exact absurd rfl aw
  |cons hi hk=>
   cases hi with
   |inRegion id d ops todo hc=>
    cases todo with
    |nil=>exact .mk f ht (.cons (.inRegion id d _ _ hc) hk) hd hm hr hf
    |cons i rest=>
     unfold Acj;simp only;cases(ops[i]?).bind (·.dst) with
     |none=>exact .mk f ht (.cons (.inRegion id d _ _ hc) hk) hd hm hr hf
     |some x=>exact .mk f (bU.set ht _ hv) (.cons (.inRegion id d _ _ hc) hk) hd hm hr hf
   |inRangeFunc hl=>exact .mk f ht (.cons (.endRangeFunc hl) hk) hd hm hr hf
   |beginRound=>exact .mk f ht hk hd hm hr hf
   |code c hc=>exact .mk f ht (.cons (.code c hc) hk) hd hm hr hf
   |cut hc=>exact .mk f ht (.cons (.cut hc) hk) hd hm hr hf
   |inBlock id=>exact .mk f ht (.cons (.inBlock id) hk) hd hm hr hf
   |inLoop c hc=>exact .mk f ht (.cons (.inLoop c hc) hk) hd hm hr hf
   |inScope c hc=>exact .mk f ht (.cons (.inScope c hc) hk) hd hm hr hf
   |endRangeFunc hl=>exact .mk f ht (.cons (.endRangeFunc hl) hk) hd hm hr hf
def abM(E:Env P F C G)(f:Ϫ)(hf:C.ok f=θ){x x':Array υ}(hx:aP ρ x x'):eS C S ρ χ (Aci (tw P F) f x .normal) (Aci P f x' .normal):=by
 obtain⟨fn,c,h1,h2,h3,h4,h5⟩:=E.get f hf;have e1:(tw P F).funcs[f]?=φ fn:=h1;unfold Aci;simp only[e1,h2,h3,Option.map_some,Option.bind_some,Option.getD_some];rw[<-hx.1];exact .mk f (hx.append (bU.refl λa ha=>by rw[(Aav.1 ha).2];exact .undef)) (.cons (.code c ((E.clean c).2 h4)) .nil) .nil .run .none ⟨λ_ _=>hf,by simp,by simp,λ_=>rfl,rfl,λh=>by simp at h⟩
def Fh{t t':Array υ}{f:Ϫ}{k k':List Item}{d d':List Abf}{m:FrameMode}{r r':Option Nat}{kd eT:CallKind}(hG:∀g,G g=θ->ρ g g)(ht:aP ρ t t'):
 pL G ρ (Ack ⟨f,t,k,d,m,kd,r⟩) (Ack ⟨f,t',k',d',m,eT,r'⟩):=by
 intro x hx;cases x with
 |tmp t=>exact bU.getD ht _ .undef
 |const v=>exact(Tb 10 hx).rel ρ
 |global g=>exact .ptr ⟨hG g hx,rfl,rfl⟩
 |func f=>exact .func (.func f) rfl (by simp) rfl (by simp)
def Plain(g:ώ):Prop:=(∃fr cs,g=aO fr cs)/\∀ch,g.frame.mode≠ .panicking ch
def dE(P:ϑ)(F:Array Ϣ)(C:bQ)(S:Tl)(ρ:Ren)(w w':Ψ)(s s':Abs):Prop:=
 ∀dG aa es,s=.go dG aa es->Plain dG->∃bH eZ aA es',s'=.go eZ aA es'/\sP P (tw P F) C S bH dG eZ/\bV C bH aa aA/\Trans ρ bH w w' aa aA/\∀e∈es',pM bH w e
def dE.pure{w w':Ψ}(hw:gY C ρ w w'){g g':ώ}(h:sP P (tw P F) C S ρ g g'){es:Array ϥ}:dE P F C S ρ w w' (.go g w es) (.go g' w' #[]):=by
 intro dG aa es e _;cases e;exact⟨ρ,_,_,_,rfl,h,hw.core,Trans.refl ..,by simp⟩
def dE.ended{w w' aq:Ψ}{o:Outcome}{es:Array ϥ}{s':Abs}:dE P F C S ρ w w' (.ended o aq es) s':=by
 intro dG aa es e;cases e
def mem_seen{p:ϑ}{fn:Ϫ}{es:Array ϥ}{e:ϥ}(h:e∈seen p fn es):e∈es:=by
 unfold seen at h;simp only at h;rw[<-Aar] at h;have:∀(l:List ϥ) (q:Bool) (kept:Array ϥ),e∈(l.foldl (init:=(q,kept)) λ(x:Bool×Array ϥ) e=>
  match x with
  | (q,kept)=>match e.loc with
    | .mark (.extern f)=>((p.funcs[f]?).any (·.norace),kept)
    |_=>(q,if q && !e.sync then kept else kept.push e)).2->e∈l\/e∈kept:=by
  intro l;induction l with
  |nil=>intro q kept h;exact .inr h
  |cons a l ih=>
   intro q kept h;simp only[List.foldl_cons] at h;split at h
   ·rcases ih _ _ h with h|h
    ·exact .inl (by simp[h])
    ·exact .inr h
   ·rcases ih _ _ h with h|h
    ·exact .inl (by simp[h])
    ·split at h
     ·exact .inr h
     ·rcases Array.mem_push.1 h with h|h
      ·exact .inr h
      ·exact .inl (by simp[h])
 rcases this _ _ _ h with h|h
 ·simpa using h
 ·simp at h
end
end Go.Sim
namespace Go.Sim
open Go
def raise_mode(fr:Ϙ)(vs:List Abt):∃ch,(fr.raise vs).mode=.panicking ch:=by
 unfold Acl;split<;>exact⟨_,rfl⟩
def Ll{es es':Array ϥ}{s:Abs}{g:ώ}{w:Ψ}(h:Acm es s=.go g w es'):∃e,s=.go g w e:=by
 cases s<;>simp only[Acm,reduceCtorEq,Aco] at h
 obtain⟨rfl,rfl,_⟩:=h;exact⟨_,rfl⟩
section
variable {P:ϑ}{F:Array Ϣ}{C:bQ}{S:Tl}{G:Nat->Bool}{ρ:Ren}
def abF(E:Env P F C G)(fr:Ϙ)(cs:List Ϙ)(d:Option Dying)(g:Nat)(w:Ψ):∃o w' es,early (tw P F) fr cs d g w=.ended o w' es:=by
 unfold early;simp only[E.ahead,E.steps g,Aa4,Aa2,if_false];exact⟨_,_,_,rfl⟩
def abK{p:ϑ}{fr:Ϙ}{cs:List Ϙ}{d:Option Dying}{m:String}{w:Ψ}{g:ώ}{aa:Ψ}{es:Array ϥ}(h:endFatal p fr cs d m w=.go g aa es):∀fr cs,g≠aO fr cs:=by
 unfold endFatal at h;simp only at h;split at h
 ·unfold dieOf at h
  simp only[Aco] at h;obtain⟨rfl,_⟩:=h;intro fr cs e;simp at e
 ·cases h
 ·cases h
def abL{fr:Ϙ}{m:String}{w:Ψ}{g:ώ}{aa:Ψ}{es:Array ϥ}(h:endThrow fr m w=.go g aa es):∀fr cs,g≠aO fr cs:=by
 unfold endThrow dieOf at h;simp only[Aco] at h;obtain⟨rfl,_⟩:=h;intro fr cs e;simp at e
def Lr(E:Env P F C G){w w':Ψ}(hw:gY C ρ w w'){q:Bool}{fr aV:Ϙ}(b7:eS C S ρ q fr aV)(aw:fr.todo≠ [.code di]){cs bh:List Ϙ}(hL:Below C S ρ q cs bh)
 {s s':Sem Next}(hs:ed (tw P F) P C ρ (kR C) s s')(b:Bool):
 dE P F C S ρ w w' (Ad7 (tw P F) b fr cs ν s w) (Ad7 P θ aV bh ν s' w'):=by
 intro dG aa es h hg;obtain⟨⟨jR,lM,rfl⟩,hm⟩:=hg;have key:∃pr:Abu Next×Array ϥ,pr.1=s.run (tw P F) w/\(if b=θ then s.runT (tw P F) w #[] else(s.run (tw P F) w,#[]))=pr:=⟨_,by cases b<;>simp,rfl⟩
 obtain⟨⟨r,E6⟩,e1,e2⟩:=key;unfold Ad7 at h;simp only[e2] at h;obtain⟨E7,h⟩:=Ll h;simp only at e1;cases hr:s.run (tw P F) w with
 |halt x aq=>
  rw[hr] at e1;subst e1;exfalso;cases x with
  |panic v=>
   simp only[Aco,aO,Acp] at h;obtain⟨⟨rfl,_⟩,_⟩:=h;obtain⟨ch,e⟩:=raise_mode fr [{v,recovered:=χ}];exact hm ch e
  |goexit=>
   simp only[Aco,aO,Acp] at h;obtain⟨⟨rfl,_⟩,_⟩:=h;obtain⟨ch,e⟩:=raise_mode fr [goexitEntry];exact hm ch e
  |blocked=>simp[aO] at h
  |waiting=>simp[aO] at h
  |exit=>simp at h
  |fatal m=>exact abK h _ _ rfl
  |throw m=>exact abL h _ _ rfl
  |unsupported u=>
   by_cases hu:∃g,u=.initOrder g
   ·obtain⟨g,rfl⟩:=hu
    obtain⟨o,w',es,e⟩:=abF E fr cs ν g aq;simp only[e] at h;cases h
   ·cases u<;>first| (exact hu ⟨_,rfl⟩) | (simp at h)
  |stuck=>simp at h
 |ok n aq=>
  rw[hr] at e1;subst e1;obtain⟨bH,n',mo,eD,k1,k2,k3,k4,k5⟩:=hs ρ ρ.le_refl w w' #[] hw n aq hr;have my:=b7.mono k4.le;have nB:=hL.mono k4.le;have sub:∀e∈seen P aV.fn (if(aV.kind==CallKind.early)=θ then #[] else eD),pM bH w e:=λe he=>by
   have:=mem_seen he;split at this
   ·simp at this
   ·exact k5 e this
  unfold Ad7;simp only[if_true,k1,Array.empty_append];cases k2 with
  |value hv=>
   simp only[Aco] at h;obtain⟨e,rfl,_⟩:=h;rw[<-e];exact⟨bH,_,_,_,rfl,.inside (CX my hv aw) nB,k3,k4,by simpa using sub⟩
  |skip=>
   simp only[Aco] at h;obtain⟨e,rfl,_⟩:=h;rw[<-e];exact⟨bH,_,_,_,rfl,.inside (CX my .undef aw) nB,k3,k4,by simpa using sub⟩
  |enter f hf hx=>
   simp only[Aco] at h;obtain⟨e,rfl,_⟩:=h;rw[<-e];have fin:=sP.inside (P:=P) (P':=tw P F) (abM (S:=S) E f hf hx) (.call my aw nB);cases b7 with
   |mk f0 ht hk hd hm' DX Hg=>
    cases hk with
    |nil=>exact⟨bH,_,_,_,rfl,fin,k3,k4,by simpa using sub⟩
    |stop=>exact absurd rfl aw
    |cons hi hk=>cases hi<;>exact⟨bH,_,_,_,rfl,fin,k3,k4,by simpa using sub⟩
  |hole f hf hx=>
   simp only[Aco] at h;obtain⟨e,rfl,_⟩:=h;rw[<-e];have fin:=sP.hole (P:=P) (P':=tw P F) f hf hx my aw nB;cases b7 with
   |mk f0 ht hk hd hm' DX Hg=>
    cases hk with
    |nil=>exact⟨bH,_,_,_,rfl,fin,k3,k4,by simpa using sub⟩
    |stop=>exact absurd rfl aw
    |cons hi hk=>cases hi<;>exact⟨bH,_,_,_,rfl,fin,k3,k4,by simpa using sub⟩
  |round hl f hx ha hb=>
   simp only[Aco] at h;obtain⟨e,rfl,_⟩:=h;rw[<-e];exact⟨bH,_,_,_,rfl,.inside (.mk f hx (.cons (.code _ ha) (.cons .beginRound (.cons (.code _ hb) .nil))) .nil .run (.some hl) ⟨by simp,by simp,by simp,λ_=>rfl,rfl,λh=>by simp at h⟩) (.call my aw nB),k3,k4,by simpa using sub⟩
end
end Go.Sim
namespace Go.Sim
open Go
section
variable {P:ϑ}{F:Array Ϣ}{C:bQ}{S:Tl}{G:Nat->Bool}{ρ:Ren}
def dE.step{w w' aq mo:Ψ}{bH:Ren}(ht:Trans ρ bH w w' aq mo){eD es:Array ϥ}(hn:∀e∈eD,pM bH w e){s s':Abs}(h:dE P F C S bH aq mo s s'):
 dE P F C S ρ w w' (Acm es s) (Acm eD s'):=by
 intro dG aa E7 e hp;obtain⟨e2,e⟩:=Ll e;obtain⟨BR,eZ,aA,es',h1,h2,h3,h4,h5⟩:=h dG aa e2 e hp;refine⟨BR,eZ,aA,eD++es',by rw[h1];rfl,h2,h3,ht.trans h4,λx hx=>?_⟩
 rcases Aad.1 hx with hx|hx
 ·exact(hn x hx).mono h4.le
 ·exact(h5 x hx).back ht
def dE.ue{α β:Type}{w w':Ψ}(hw:gY C ρ w w'){R:Ren->α->β->Prop}{s:Sem α}{s':Sem β}(hs:Sim (tw P F) P C ρ R s s'){fn:Ϫ}
 {k:Abu α->Abs}{k':Abu β->Abs}(hh:∀h aq g aa es,k (.halt h aq)=.go g aa es->¬Plain g)
 (hk:∀bH aq mo a b,ρ.le bH->gY C bH aq mo->R bH a b->dE P F C S bH aq mo (k (.ok a aq)) (k' (.ok b mo))):
 dE P F C S ρ w w' (Acm (seen (tw P F) fn (s.runT (tw P F) w #[]).2) (k (s.runT (tw P F) w #[]).1)) (Acm (seen P fn (s'.runT P w' #[]).2) (k' (s'.runT P w' #[]).1)):=by
 rw[Adz];cases hr:s.run (tw P F) w with
 |halt x aq=>
  intro dG aa es e hp;obtain⟨e2,e⟩:=Ll e;exact(hh _ _ _ _ _ e hp).elim
 |ok a aq=>
  obtain⟨bH,b,mo,eD,k1,k2,k3,k4,k5⟩:=hs ρ ρ.le_refl w w' #[] hw a aq hr;rw[k1];exact dE.step k4 (λe he=>k5 e (by simpa using mem_seen he)) (hk bH aq mo a b k4.le k3 k2)
def SO{w w':Ψ}(hw:gY C ρ w w'){fr aV:Ϙ}(b7:eS C S ρ χ fr aV){cs bh:List Ϙ}(hL:Below C S ρ χ cs bh){v v':υ}(hv:ah ρ v v')(m m':Bool):
 dE P F C S ρ w w' (Abv (tw P F) m fr cs ν v w) (Abv P m' aV bh ν v' w'):=by
 cases b7 with
 |mk f ht hk hd hm hr hf=>
  cases hL with
  |call hq aw hL=>
   have:=hf.kind rfl;subst this;exact dE.pure hw (.inside (CX hq hv aw) hL)
def acu(id:Nat){b:Bool}{k k':List Item}(h:oc C S ρ b k k'):(exitTo id k=ν/\(b=χ->exitTo id k'=ν))\/∃k₁ AV,exitTo id k=φ k₁/\exitTo id k'=φ AV/\oc C S ρ b k₁ AV:=by
 induction h with
 |nil=>exact .inl ⟨rfl,λ_=>rfl⟩
 |stop=>exact .inl ⟨rfl,λh=>by cases h⟩
 |cons hi hk ih=>
  cases hi<;>try exact ih
  case inBlock id'=>
   unfold exitTo;split
   ·exact .inr ⟨_,_,rfl,rfl,hk⟩
   ·exact ih
def anm(ops:Array Oper){t t':Array υ}(ht:aP ρ t t'):yielded ops t=yielded ops t':=by
 funext j;unfold yielded;cases(ops[j]?).bind (·.dst) with
 |none=>rfl
 |some x=>
  simp only[Option.bind_some];rcases ht.get? x with⟨e1,e2⟩ | ⟨a,b,e1,e2,hab⟩
  ·rw[e1,e2]
  ·rw[e1,e2]
   cases hab<;>try rfl
   case junk h hb _=>
    cases b<;>first|rfl|exact absurd rfl (hb _)
def aiY(p:ϑ)(fr:Ϙ)(cs:List Ϙ)(dy:Option Dying)(w:Ψ):∃o aa es,Abw p fr cs dy cQ w=.ended o aa es:=by
 unfold Abw cQ;simp[Go.invoke,Go.stuck,ϧ,bind,Ϯ,Acm]
def amC(E:Env P F C G){w w':Ψ}(hw:gY C ρ w w'){b:Bool}{fr aV:Ϙ}(b7:eS C S ρ b fr aV)(qw:fr.mode=.returning){cs bh:List Ϙ}(hL:Below C S ρ b cs bh)(m m':Bool):
 dE P F C S ρ w w' (Abx (tw P F) m fr cs ν w) (Abx P m' aV bh ν w'):=by
 cases b7 with
 | @mk f t t' ht k k' hk d d' hd md hm ro iS hr eT hf=>
   simp only at qw;subst qw;have DY:ro=ν:=by
    rcases Aee ro with e| ⟨x,e⟩
    ·exact e
    ·exact absurd (hf.round (by simp[e])) (by simp)
   subst DY;cases hd with
   |nil=>
    obtain⟨fn,cd,h1,h2,h3,h4,h5⟩:=E.get f (hf.ok rfl rfl);have e1:(tw P F).funcs[f]?=φ fn:=h1;unfold Abx;simp only[e1,h2];refine dE.ue hw (Sim.results fn ht) (k:=λr=>match r with
     | .ok v w=>Abv (tw P F) m _ cs ν v w
     | .halt (.stuck s) w=>.ended (.stuck s _) w
     | .halt _ w=>.ended (.stuck "return: the result variables cannot be read" _) w) (k':=λr=>match r with
     | .ok v w=>Abv P m' _ bh ν v w
     | .halt (.stuck s) w=>.ended (.stuck s _) w
     | .halt _ w=>.ended (.stuck "return: the result variables cannot be read" _) w) (λh aq g aa es e=>?_) λbH aq mo a b l2 eC hab=>?_
    ·cases h<;>simp at e
    ·exact SO eC ((eS.mk f ht hk .nil hm hr hf).mono l2) (hL.mono l2) hab m m'
   |stop=>
    intro dG aa es e hp;obtain⟨o,aq,anS,h⟩:=aiY (tw P F) (⟨f,t,k,[],.returning,.normal,ν⟩) cs ν w;have e':Abw (tw P F) (⟨f,t,k,[],.returning,.normal,ν⟩) cs ν cQ w=.go dG aa es:=e;rw[h] at e';cases e'
   |cons hi hd=>
    cases hi with
    |collected hb=>
     refine dE.ue hw (Sim.takeDeferred hb) (k:=λr=>match r with
      | .ok calls w=>.go {frame:={ (⟨f,t,k,_,.returning,.normal,ν⟩:Ϙ) with defers:=calls++_},callers:=cs,status:=.running,dying:=ν} w
      | .halt _ w=>.ended (.stuck "the deferred calls of a range-over-func loop have been taken" _) w) (k':=λr=>match r with
      | .ok calls w=>.go {frame:={ (⟨f,t',k',_,.returning,eT,iS⟩:Ϙ) with defers:=calls++_},callers:=bh,status:=.running,dying:=ν} w
      | .halt _ w=>.ended (.stuck "the deferred calls of a range-over-func loop have been taken" _) w) (λh aq g aa es e=>?_) λbH aq mo a b l2 eC hab=>?_
     ·simp at e
     ·obtain⟨rfl,rfl⟩:=hab
      exact dE.pure eC (.inside ((eS.mk f ht hk hd hm hr hf).mono l2) (hL.mono l2))
def Ev(p:ϑ)(main:Bool)(fr:Ϙ)(callers:List Ϙ)(w:Ψ)(jump:Option ϖ):Abs:=
 match fr.roundOf with
 |none=>if(match jump with|none|some .ret=>θ|_=>χ)=θ then .go {frame:={fr with mode:=.returning},callers,status:=.running,dying:=ν} w else .ended (.stuck "exit, goto: no such block or label" (fr.pos p)) w
 |some l=>
  Acm (seen p fr.fn ((Adg l jump).runT p w #[]).2)<|match((Adg l jump).runT p w #[]).1 with
  | .ok v w=>Abv p main fr callers ν v w
  | .halt _ w=>.ended (.stuck "range over a function: no such loop" (fr.pos p)) w
def ON{w w':Ψ}(hw:gY C ρ w w'){b:Bool}{fr aV:Ϙ}(b7:eS C S ρ b fr aV){cs bh:List Ϙ}(hL:Below C S ρ b cs bh)(m m':Bool)(j:Option ϖ)(hj:∀c,j=φ c->C.clean c):
 dE P F C S ρ w w' (Ev (tw P F) m fr cs w j) (Ev P m' aV bh w' j):=by
 have gw:=b7;cases b7 with
 | @mk f t t' ht k k' hk d d' hd md hm ro iS hr eT hf=>
   unfold Ev;cases hr with
   |none=>
    simp only;split
    ·exact dE.pure hw (.inside (.mk f ht hk hd .returning .none ⟨hf.ok,hf.base,by simp,hf.kind,hf.early,hf.Cv⟩) hL)
    ·exact dE.pure hw (.inside (.mk f ht hk hd .returning .none ⟨hf.ok,hf.base,by simp,hf.kind,hf.early,hf.Cv⟩) hL)
    ·exact dE.ended
   |some hl=>
    have hb:b=χ:=by
     cases b with
     |false=>rfl
     |true=>exact absurd (hf.base rfl) (by simp)
    subst hb;simp only;refine dE.ue hw (Sim.endRound hl j hj) (k:=λr=>match r with
     | .ok v w=>Abv (tw P F) m _ cs ν v w
     | .halt _ w=>.ended (.stuck "range over a function: no such loop" _) w) (k':=λr=>match r with
     | .ok v w=>Abv P m' _ bh ν v w
     | .halt _ w=>.ended (.stuck "range over a function: no such loop" _) w) (λh aq g aa es e=>?_) λbH aq mo a b l2 eC hab=>?_
    ·simp at e
    ·exact SO eC (gw.mono l2) (hL.mono l2) hab m m'
def acp(E:Env P F C G)(hG:∀g,G g=θ->ρ g g){w w':Ψ}(hw:gY C ρ w w'){q:Bool}{fr aV:Ϙ}(b7:eS C S ρ q fr aV)(qw:fr.mode=.run){cs bh:List Ϙ}(hL:Below C S ρ q cs bh)(m m' b:Bool):
 dE P F C S ρ w w' (Ad8 (tw P F) m b fr cs ν w) (Ad8 P m' θ aV bh ν w'):=by
 have gw:=b7;cases b7 with
 | @mk f t t' ht k k' hk d d' hd md hm ro iS hr eT hf=>
   simp only at qw;subst qw;have cl:∀ {c},C.clean c->cr P G c=θ:=λh=>(E.clean _).1 h
   have lc:∀ {c},cr P G c=θ->C.clean c:=λh=>(E.clean _).2 h
   have afv:∀c,φ Code.ret=φ c->C.clean c:=λc e=>by cases e;exact lc rfl
   have pu:∀ {k₁ AV:List Item},oc C S ρ q k₁ AV->dE P F C S ρ w w' (.go (aO ⟨f,t,k₁,d,.run,.normal,ro⟩ cs) w) (.go (aO ⟨f,t',AV,d',.run,eT,iS⟩ bh) w'):=
    λNw=>dE.pure hw (.inside (.mk f ht Nw hd .run hr hf) hL)
   have ev:∀ {k k':List Item} {d d':List Abf} {r r':Option Nat},pL G ρ (Ack ⟨f,t,k,d,.run,.normal,r⟩) (Ack ⟨f,t',k',d',.run,eT,r'⟩):=Fh hG ht
   cases hk with
   |nil=>exact ON hw gw hL m m' ν (by simp)
   |stop=>exact dE.ended
   | @cons _ i i' k k' hi hk=>
     cases hi with
     |inBlock id=>exact pu hk
     |inScope c hc=>exact pu hk
     |inLoop c hc=>exact pu (.cons (.code c hc) (.cons (.inLoop c hc) hk))
     |inRangeFunc hl=>exact dE.ended
     |beginRound=>
      refine Lr E hw gw (by simp) hL (Sim.Ql ?_) b
      cases hr with
      |none=>exact Sim.stuck
      |some hl=>exact Sim.beginRound hl
     |endRangeFunc hl=>
      refine dE.ue hw (Sim.endLoop hl) (k:=λr=>match r with
       | .ok jump w=>.go (aO ⟨f,t,(jump.map Item.code).toList++k,d,.run,.normal,ro⟩ cs) w
       | .halt (.panic v) w=>.go (aO ((⟨f,t,_,d,.run,.normal,ro⟩:Ϙ).raise [{v,recovered:=χ}]) cs) w
       | .halt _ w=>.ended (.stuck "range over a function: no such loop" _) w) (k':=λr=>match r with
       | .ok jump w=>.go (aO ⟨f,t',(jump.map Item.code).toList++k',d',.run,eT,iS⟩ bh) w
       | .halt (.panic v) w=>.go (aO ((⟨f,t',_,d',.run,eT,iS⟩:Ϙ).raise [{v,recovered:=χ}]) bh) w
       | .halt _ w=>.ended (.stuck "range over a function: no such loop" _) w) (λh aq g aa es e hp=>?_) λbH aq mo a b l2 eC hab=>?_
      ·cases h<;>simp only[reduceCtorEq,Aco] at e
       obtain⟨rfl,_⟩:=e;obtain⟨ch,e⟩:=raise_mode ⟨f,t,_,d,.run,.normal,ro⟩ _;exact hp.2 ch e
      ·obtain⟨rfl,hc⟩:=hab
       have cP:=hk.mono l2;cases a with
       |none=>exact dE.pure eC (.inside ((eS.mk f ht hk hd .run hr hf).mono l2) (hL.mono l2))
       |some cd=>exact dE.pure eC (.inside ((eS.mk f ht (.cons (.code cd (hc cd rfl)) hk) hd .run hr hf).mono l2) (hL.mono l2))
     |inRegion id dr ops todo hc=>
      cases todo with
      |nil=>exact pu hk
      |cons i rest=>
       have ya:ops.all (j7 P G)=θ:=cl hc;unfold Ad8;simp only[anm ops ht];split
       ·unfold stepG.oper
        simp only[Frame.oper?];cases ho:ops[i]? with
        |none=>exact dE.ended
        |some o=>
         have mB:o∈ops:= Aax ho;have k8:j7 P G o=θ:=by simpa using Aal.1 ya o mB
         have nH:∀q,o.op≠ .defer q:=λq e=>by simp[j7,iO,e] at k8
         have hs:=ed.execOp E o k8 (ev (k:=.inRegion ops (i::rest)::k) (k':=.inRegion ops (i::rest)::k') (d:=d) (d':=d') (r:=ro) (r':=iS));have:=Lr E hw gw (by simp) hL hs b
         simp only;cases hr with
         |none=>exact this
         |some hl=>
          cases ab:o.op<;>first|exact absurd ab (nH _) |exact this
       ·exact dE.pure hw (.inside (CX gw .undef (by simp)) hL)
     |cut hc=>
      rcases lG.SG hc with rfl| ⟨x,y,y',rfl,rfl,ha,hb⟩
      ·exact dE.ended
      ·exact pu (.cons (.code x ha) (.cons (.cut hb) hk))
     |code cd hc=>
      have fB:=cl hc;cases cd with
      |skip=>exact pu hk
      |label l=>exact pu hk
      |ret=>exact ON hw gw hL m m' (φ .ret) afv
      |seq x y=>
       simp only[cr,Aa3] at fB;exact pu (.cons (.code x (lc fB.1)) (.cons (.code y (lc fB.2)) hk))
      |cond x y z=>
       simp only[cr,Aa3] at fB;have hx:=ev (k:=.code (.cond x y z)::k) (k':=.code (.cond x y z)::k') (d:=d) (d':=d') (r:=ro) (r':=iS) x fB.1.1;have fin:∀ {v1 v2:υ},ah ρ v1 v2->dE P F C S ρ w w'
        (match v1 with
          | .bool q=>.go (aO ⟨f,t,.code (if q then y else z)::k,d,.run,.normal,ro⟩ cs) w
          |_=>.ended (.stuck "cond: bool expected" (Frame.pos (tw P F) ⟨f,t,.code (.cond x y z)::k,d,.run,.normal,ro⟩)) w)
        (match v2 with
          | .bool q=>.go (aO ⟨f,t',.code (if q then y else z)::k',d',.run,eT,iS⟩ bh) w'
          |_=>.ended (.stuck "cond: bool expected" (Frame.pos P ⟨f,t',.code (.cond x y z)::k',d',.run,eT,iS⟩)) w'):=by
        intro v1 v2 hv;cases hv;case bool q=>cases q with
         |false=>exact pu (.cons (.code _ (lc fB.2)) hk)
         |true=>exact pu (.cons (.code _ (lc fB.1.2)) hk)
        all_goals exact dE.ended
       exact fin hx
      |block id x=>exact pu (.cons (.code x (lc fB)) (.cons (.inBlock id) hk))
      |loop x=>exact pu (.cons (.code x (lc fB)) (.cons (.inLoop x (lc fB)) hk))
      |scope x=>exact pu (.cons (.code x (lc fB)) (.cons (.inScope x (lc fB)) hk))
      |exit id=>
       have hx:=acu (C:=C) (S:=S) (ρ:=ρ) id hk;have:=ON (P:=P) (F:=F) hw gw hL m m' (φ (.exit id)) (λc e=>by cases e;exact hc)
       unfold Ad8;simp only;rcases hx with⟨e1,e2⟩ | ⟨k₁,AV,e1,e2,Nw⟩
       ·rw[e1]
        cases q with
        |false=>rw[e2 rfl];exact this
        |true=>
         have DY:=hf.base rfl;subst DY;cases hr;exact dE.ended
       ·rw[e1,e2];exact pu Nw
      |region id ops dr=>
       unfold Ad8;simp only;cases dr with
       |false=>exact pu (.cons (.inRegion id χ ops _ hc) hk)
       |true=>
        simp only[Aa4,Aa2,if_false];cases hq:(Go.choose (.order f id)).run (tw P F) w with
        |halt h aq=>exact dE.ended
        |ok n aq=>
         obtain⟨bH,n',mo,eD,k1,rfl,k3,k4,k5⟩:=Sim.choose (P':=tw P F) (P:=P) (C:=C) (ρ:=ρ) (.order f id) ρ ρ.le_refl w w' #[] hw n aq hq;have tP:(Go.choose (.order f id)).run P w'=.ok n mo:=by rw[<-Adz P _ w' #[],k1]
         simp only[tP];have:=dE.step (es:=#[]) (eD:=#[]) (P:=P) (F:=F) k4 (by simp) (dE.pure (es:=#[]) k3 (.inside ((eS.mk f ht (.cons (.inRegion id θ ops (Region.schedule (P.follows .mixedOrders) ops n) hc) hk) hd .run hr hf).mono k4.le) (hL.mono k4.le)))
         exact this
      |rangeFunc g ps x y=>
       simp only[cr,Aa3] at fB;refine dE.ue hw (Sim.enterLoop f ht ps (lc fB.1.2) (lc fB.2) hr) (k:=λr=>match r with
        | .ok (l,mark) w=>Ad7 (tw P F) b ⟨f,t,.inRangeFunc l::k,mark++d,.run,.normal,ro⟩ cs ν
          (do let d <-resolve (Ack ⟨f,t,.inRangeFunc l::k,mark++d,.run,.normal,ro⟩) {callee:=.value g,args:=#[.const (.func (.yield l) #[] #[])],argTypes:=#[]} 0;Go.invoke d.target d.args) w
        | .halt _ w=>.ended (.stuck "range over a function: no such loop" _) w) (k':=λr=>match r with
        | .ok (l,mark) w=>Ad7 P θ ⟨f,t',.inRangeFunc l::k',mark++d',.run,eT,iS⟩ bh ν
          (do let d <-resolve (Ack ⟨f,t',.inRangeFunc l::k',mark++d',.run,eT,iS⟩) {callee:=.value g,args:=#[.const (.func (.yield l) #[] #[])],argTypes:=#[]} 0;Go.invoke d.target d.args) w
        | .halt _ w=>.ended (.stuck "range over a function: no such loop" _) w) (λh aq g aa es e=>?_) λbH aq mo x1 x2 l2 eC hab=>?_
       ·simp at e
       ·obtain⟨l1,Iq⟩:=x1
        obtain⟨yB,Ir⟩:=x2;obtain⟨hl,Ay⟩:=hab;refine Lr E eC (.mk f (ht.mono l2) (.cons (.inRangeFunc hl) (hk.mono l2)) (jJ.app Ay (hd.mono l2)) .run ?_ hf) (by simp) (hL.mono l2) (Sim.lx ?_) b
        ·cases hr with
         |none=>exact .none
         |some h=>exact .some (l2 _ _ h)
        ·have he:pL G bH (Ack ⟨f,t,.inRangeFunc l1::k,Iq++d,.run,.normal,ro⟩) (Ack ⟨f,t',.inRangeFunc yB::k',Ir++d',.run,eT,iS⟩):=Fh (λg hg=>l2 _ _ (hG g hg)) (ht.mono l2)
         have hy:aP bH #[Value.func (.yield l1) #[] #[]] #[Value.func (.yield yB) #[] #[]]:=bU.one (R:=ah bH) (ah.func (.yield hl) rfl (by simp) rfl (by simp))
         exact Sim.AT E (he g fB.1.1) (by simpa [Ack] using hy)
      |goto l=>simp[cr] at fB
      |refuse s=>simp[cr] at fB
def Xx(E:Env P F C G)(hG:∀g,G g=θ->ρ g g){w w':Ψ}(hw:gY C ρ w w'){q:Bool}{fr aV:Ϙ}(b7:eS C S ρ q fr aV){cs bh:List Ϙ}(hL:Below C S ρ q cs bh)(m m' b:Bool)
 (st st':GoStatus)(of of':Option (Array CommCase×CommShape)):
 dE P F C S ρ w w' (ϛ (tw P F) m ⟨fr,cs,st,ν,of⟩ w b) (ϛ P m' ⟨aV,bh,st',ν,of'⟩ w' θ):=by
 have gw:=b7;cases b7 with
 | @mk f t t' ht k k' hk d d' hd md hm ro iS hr eT hf=>
   cases hm with
   |run=>exact acp E hG hw gw rfl hL m m' b
   |returning=>exact amC E hw gw rfl hL m m'
end
end Go.Sim
namespace Go.Sim
open Go
def pH:Obj->Prop
 | .deferred (φ (_::_))=>True
 |_=>False
def wR:Halt->Prop
 | .panic _| .stuck _| .unsupported _=>True
 |_=>False
def aj(p:ϑ){α:Type}:Sem α->Prop
 | .pure _=>True
 | .load _ _ k=>∀v,aj p (k v)
 | .store _ _ _ k=>aj p k
 | .new o k=>¬pH o/\∀r,aj p (k r)
 | .shape _ k=>∀x,aj p (k x)
 | .freeze _ _ k=>aj p k
 | .frozen _ k=>∀x,aj p (k x)
 | .getObj _ k=>∀o,aj p (k o)
 | .setObj _ o k=>¬pH o/\aj p k
 | .choose _ k=>∀n,aj p (k n)
 | .sys _ _=>False
 | .program k=>aj p (k p)
 | .mark _ k=>aj p k
 | .halt h=>wR h
def aj.bind{p:ϑ}{α β:Type}{s:Sem α}{f:α->Sem β}(h:aj p s)(hf:∀a,aj p (f a)):aj p (s.bind f):=by
 induction s with
 |pure a=>exact hf a
 |load m a k ih=>exactλv=>ih v (h v)
 |store m a v k ih=>exact ih h
 |new o k ih=>exact⟨h.1,λr=>ih r (h.2 r)⟩
 |shape r k ih=>exactλv=>ih v (h v)
 |freeze a n k ih=>exact ih h
 |frozen a k ih=>exactλv=>ih v (h v)
 |getObj r k ih=>exactλv=>ih v (h v)
 |setObj r o k ih=>exact⟨h.1,ih h.2⟩
 |choose q k ih=>exactλv=>ih v (h v)
 |sys c k ih=>exact h
 |program k ih=>exact ih p h
 |mark m k ih=>exact ih h
 |halt h=>exact h
def aj.bind'{p:ϑ}{α β:Type}{s:Sem α}{f:α->Sem β}(h:aj p s)(hf:∀a,aj p (f a)):aj p (s>>=f):=aj.bind h hf
def aZ(w:Ψ)(T:Tape):Ψ:={w with tape:=T}
def aj9{α:Type}(T:Tape):Abu α->Abu α
 | .ok a w=>.ok a (aZ w T)
 | .halt h w=>.halt h (aZ w T)
def xc{α:Type}:Abu α->Ψ
 | .ok _ w=>w
 | .halt _ w=>w
def bJ(h:Array Obj):Prop:=∀o∈h,¬pH o
def bJ.push{h:Array Obj}(x:bJ h){o:Obj}(ho:¬pH o):bJ (h.push o):=λa ha=>by
 rcases Array.mem_push.1 ha with ha|rfl
 ·exact x a ha
 ·exact ho
def bJ.set{h:Array Obj}(x:bJ h)(i:Nat){o:Obj}(ho:¬pH o):bJ (h.setIfInBounds i o):=λa ha=>by
 rcases Array.mem_or_eq_of_mem_setIfInBounds ha with ha|rfl
 ·exact x a ha
 ·exact ho
def bJ.modify{h:Array Obj}(x:bJ h)(i:Nat){f:Obj->Obj}(hf:∀o,¬pH o->¬pH (f o)):bJ (h.modify i f):=λa ha=>by
 obtain⟨j,hj,rfl⟩:=Aay.1 ha;simp only[Aau];split
 ·exact hf _ (x _ (Aab _))
 ·exact x _ (Aab _)
def bJ.get{h:Array Obj}(x:bJ h){i:Nat}{o:Obj}(ho:h[i]?=φ o):¬pH o:=x o (Aax ho)
def amE(p:ϑ)(w:Ψ)(at_:ϕ)(u:ό)(k:ϕ)(v:υ)(a:Bool):∃r:Except String (Array Obj×List ϕ),(∀x,r=.ok x->bJ w.heap->bJ x.1)/\∀T d,({w with tape:=T,drawn:=d}:Ψ).viewStore p at_ u k v a=match r with| .ok (h,x)=>.ok ({w with heap:=h,tape:=T,drawn:=d},x) | .error e=>.error e:=by
 cases h:w.viewStore p at_ u k v a with
 |error e=>
  refine⟨.error e,(by simp),λT d=>?_⟩
  unfold Ad6 at h |-
  have:({w with tape:=T,drawn:=d}:Ψ).seen p at_ u k a=w.seen p at_ u k a:=rfl
  rw[this];simp only[bind,Except.bind,pure,Except.pure] at h |-
  (repeat' split at h)<;>simp_all
 |ok r=>
  refine⟨.ok (r.1.heap,r.2),λx hx hn=>?_,λT d=>?_⟩
  ·cases hx
   unfold Ad6 at h;simp only[bind,Except.bind,pure,Except.pure] at h
   (repeat' split at h)<;>first| (cases h;done) | (cases h;exact hn.set _ (λh=>h))
  ·unfold Ad6 at h |-
   have:({w with tape:=T,drawn:=d}:Ψ).seen p at_ u k a=w.seen p at_ u k a:=rfl
   rw[this];simp only[bind,Except.bind,pure,Except.pure] at h |-
   (repeat' split at h)<;>first| (cases h;done) | (cases h;simp_all)
def acA(p:ϑ)(w:Ψ)(a:ϕ)(v:υ)(b:Bool):∃r:Except Halt (Array Obj×List ϕ),(∀x,r=.ok x->bJ w.heap->bJ x.1)/\∀T d,({w with tape:=T,drawn:=d}:Ψ).farStore p a v b=match r with| .ok (h,x)=>.ok ({w with heap:=h,tape:=T,drawn:=d},x) | .error e=>.error e:=by
 unfold Ad3;simp only;cases h:w.heap[a.block]? with
 |none=>exact⟨.error (w.noCell a "store: no such cell"),(by simp),λT d=>by simp only[Ad1,h]⟩
 |some o=>
  cases o;case view at_ u=>
   obtain⟨r,hn,hr⟩:=amE p w at_ u a v b;refine⟨match r with| .ok x=>.ok x| .error why=>.error (.unsupported (.unsafePointer why)),λx hx=>?_,λT d=>?_⟩
   ·cases r with
    |ok y=>cases hx;exact hn _ rfl
    |error=>cases hx
   ·simp only[hr]
    cases r<;>rfl
  all_goals exact⟨.error (w.noCell a "store: no such cell"),(by simp),λT d=>by simp only[Ad1,h]⟩
def aiO(w:Ψ)(a:ϕ)(v:υ)(h:bJ w.heap):bJ (w.setCell a v).heap:=by
 unfold Ad2;simp only;refine bJ.modify h _ ?_
 intro o ho;cases o<;>exact ho
def run_store{p:ϑ}{α:Type}{m:Mode}{a:ϕ}{v:υ}{k:Sem α}(w:Ψ):(∃h,∀T d,(Ad0 m a v k).run p {w with tape:=T,drawn:=d}=.halt h {w with tape:=T,drawn:=d})\/
 ∃hp,(bJ w.heap->bJ hp)/\∀T d,(Ad0 m a v k).run p {w with tape:=T,drawn:=d}=k.run p {w with heap:=hp,tape:=T,drawn:=d}:=by
 have key:(∃h,∀T d,(match({w with tape:=T,drawn:=d}:Ψ).cell? a with
  |some _=>if({w with tape:=T,drawn:=d}:Ψ).frozen? a then(.halt (.unsupported (.unsafePointer "a write to bytes that a string shares")) {w with tape:=T,drawn:=d}:Abu α) else k.run p (({w with tape:=T,drawn:=d}:Ψ).setCell a v)
  |none=>match({w with tape:=T,drawn:=d}:Ψ).farStore p a v (m==Adm) with
   | .ok (w,_)=>k.run p w
   | .error h=>(.halt h {w with tape:=T,drawn:=d}:Abu α))=.halt h {w with tape:=T,drawn:=d})\/
  ∃hp,(bJ w.heap->bJ hp)/\∀T d,(match({w with tape:=T,drawn:=d}:Ψ).cell? a with
   |some _=>if({w with tape:=T,drawn:=d}:Ψ).frozen? a then(.halt (.unsupported (.unsafePointer "a write to bytes that a string shares")) {w with tape:=T,drawn:=d}:Abu α) else k.run p (({w with tape:=T,drawn:=d}:Ψ).setCell a v)
   |none=>match({w with tape:=T,drawn:=d}:Ψ).farStore p a v (m==Adm) with
    | .ok (w,_)=>k.run p w
    | .error h=>(.halt h {w with tape:=T,drawn:=d}:Abu α))=k.run p {w with heap:=hp,tape:=T,drawn:=d}:=by
  have e1:∀T d,({w with tape:=T,drawn:=d}:Ψ).cell? a= w.cell? a:=λ_ _=>rfl
  have e2:∀T d,({w with tape:=T,drawn:=d}:Ψ).frozen? a= w.frozen? a:=λ_ _=>rfl
  simp only[e1,e2];cases w.cell? a with
  |some x=>
   by_cases hf: w.frozen? a=θ
   ·exact .inl ⟨.unsupported (.unsafePointer "a write to bytes that a string shares"),λT d=>by simp only[hf,if_true]⟩
   ·exact .inr ⟨(w.setCell a v).heap,aiO w a v,λT d=>by simp only[hf];rfl⟩
  |none=>
   obtain⟨r,hn,hr⟩:=acA p w a v (m==Adm);simp only[hr];cases r with
   |ok x=>exact .inr ⟨x.1,hn x rfl,λT d=>rfl⟩
   |error h=>exact .inl ⟨h,λT d=>rfl⟩
 cases v;case agg x=>exact .inl ⟨_,λT d=>rfl⟩
 case tuple x=>exact .inl ⟨_,λT d=>rfl⟩
 all_goals exact key
def Mk(w:Ψ)(a:ϕ)(n:Nat):∃hp,(bJ w.heap->bJ hp)/\∀T d,({w with tape:=T,drawn:=d}:Ψ).freeze a n={w with heap:=hp,tape:=T,drawn:=d}:=by
 refine⟨(w.freeze a n).heap,λhn=>?_,λT d=>?_⟩
 ·unfold Ad5
  by_cases h:n=0
  ·simpa only[h,if_true] using hn
  ·simp only[h,if_false]
   refine bJ.modify hn _ ?_
   intro o ho;cases o<;>exact ho
 unfold Ad5;by_cases h:n=0
 ·simp only[h,if_true]
 ·simp only[h,if_false]
def WM{p:ϑ}{α:Type}{s:Sem α}(hs:aj p s):∀(w:Ψ),w.drawn<=(xc (s.run p w)).drawn/\(xc (s.run p w)).tape=w.tape:=by
 induction s with
 |pure a=>intro w;exact⟨ϊ _,rfl⟩
 |load m a k ih=>
  intro w;simp only[ϣ]
  (repeat' split)<;>first|exact ih _ (hs _) w|exact⟨ϊ _,rfl⟩
 |store m a v k ih=>
  intro w;rcases run_store (p:=p) (m:=m) (a:=a) (v:=v) (k:=k) w with⟨h,e⟩ | ⟨hp,hn,e⟩
  ·rw[show(Ad0 m a v k).run p w=_ from e w.tape w.drawn];exact⟨ϊ _,rfl⟩
  ·rw[show(Ad0 m a v k).run p w=_ from e w.tape w.drawn];exact ih hs {w with heap:=hp}
 |new o k ih=>intro w;exact ih _ (hs.2 _) {w with heap:=w.heap.push o}
 |shape r k ih=>intro w;exact ih _ (hs _) w
 |freeze a n k ih=>
  intro w;obtain⟨hp,hn,e⟩:=Mk w a n;simp only[ϣ];rw[show w.freeze a n=_ from e w.tape w.drawn]
  exact ih hs {w with heap:=hp}
 |frozen a k ih=>intro w;exact ih _ (hs _) w
 |getObj r k ih=>
  intro w;simp only[ϣ]
  (repeat' split)<;>first|exact ih _ (hs _) w|exact⟨ϊ _,rfl⟩
 |setObj r o k ih=>
  intro w;simp only[ϣ]
  (repeat' split)<;>first|exact ih hs.2 {w with heap:=w.heap.setIfInBounds r o} |exact⟨ϊ _,rfl⟩
 |choose q k ih=>
  intro w;simp only[ϣ];split
  ·exact ih _ (hs _) w
  ·have:=ih (q.cut (w.tape w.drawn q)) (hs _) {w with drawn:=w.drawn+1}
   exact⟨by have:=this.1;simp only at this;omega,this.2⟩
 |sys c k ih=>exact hs.elim
 |program k ih=>intro w;exact ih _ hs w
 |mark m k ih=>intro w;exact ih hs w
 |halt h=>intro w;exact⟨ϊ _,rfl⟩
def akv{p:ϑ}{α:Type}{s:Sem α}(hs:aj p s):∀(w:Ψ),bJ w.heap->bJ (xc (s.run p w)).heap:=by
 induction s with
 |pure a=>intro w h;exact h
 |load m a k ih=>
  intro w h;simp only[ϣ]
  (repeat' split)<;>first|exact ih _ (hs _) w h|exact h
 |store m a v k ih=>
  intro w h0;rcases run_store (p:=p) (m:=m) (a:=a) (v:=v) (k:=k) w with⟨h,e⟩ | ⟨hp,hn,e⟩
  ·rw[show(Ad0 m a v k).run p w=_ from e w.tape w.drawn];exact h0
  ·rw[show(Ad0 m a v k).run p w=_ from e w.tape w.drawn];exact ih hs {w with heap:=hp} (hn h0)
 |new o k ih=>intro w h;exact ih _ (hs.2 _) {w with heap:=w.heap.push o} (h.push hs.1)
 |shape r k ih=>intro w h;exact ih _ (hs _) w h
 |freeze a n k ih=>
  intro w h;obtain⟨hp,hn,e⟩:=Mk w a n;simp only[ϣ];rw[show w.freeze a n=_ from e w.tape w.drawn]
  exact ih hs {w with heap:=hp} (hn h)
 |frozen a k ih=>intro w h;exact ih _ (hs _) w h
 |getObj r k ih=>
  intro w h;simp only[ϣ]
  (repeat' split)<;>first|exact ih _ (hs _) w h|exact h
 |setObj r o k ih=>
  intro w h;simp only[ϣ]
  (repeat' split)<;>first|exact ih hs.2 {w with heap:=w.heap.setIfInBounds r o} (h.set _ hs.1) |exact h
 |choose q k ih=>
  intro w h;simp only[ϣ];split
  ·exact ih _ (hs _) w h
  ·exact ih (q.cut (w.tape w.drawn q)) (hs _) {w with drawn:=w.drawn+1} h
 |sys c k ih=>exact hs.elim
 |program k ih=>intro w h;exact ih _ hs w h
 |mark m k ih=>intro w h;exact ih hs w h
 |halt h=>intro w h;exact h
def WR{p:ϑ}{α:Type}{s:Sem α}(hs:aj p s):∀(w:Ψ) (T:Tape),(∀j q,w.drawn<=j->j<(xc (s.run p w)).drawn->T j q=w.tape j q)->s.run p (aZ w T)=aj9 T (s.run p w):=by
 induction s with
 |pure a=>intro w T _;rfl
 |load m a k ih=>
  intro w T hT;simp only[ϣ] at hT |-
  have e1:(aZ w T).cell? a= w.cell? a:=rfl;have e2:(aZ w T).farLoad p a (m==Adm)=w.farLoad p a (m==Adm):=rfl;rw[e1,e2];cases hc: w.cell? a with
  |some v=>simp only[hc] at hT |-;exact ih _ (hs _) w T hT
  |none=>
   simp only[hc] at hT |-
   cases hf:w.farLoad p a (m==Adm) with
   |ok x=>simp only[hf] at hT |-;exact ih _ (hs _) w T hT
   |error h=>simp only;rfl
 |store m a v k ih=>
  intro w T hT;rcases run_store (p:=p) (m:=m) (a:=a) (v:=v) (k:=k) w with⟨h,e⟩ | ⟨hp,hn,e⟩
  ·rw[show(Ad0 m a v k).run p w=_ from e w.tape w.drawn];exact e T w.drawn
  ·have e1:=e w.tape w.drawn
   have e1:(Ad0 m a v k).run p w=_:=e1;rw[e1] at hT |-
   have e2:(Ad0 m a v k).run p (aZ w T)=_:=e T w.drawn;rw[e2];exact ih hs {w with heap:=hp} T hT
 |new o k ih=>intro w T hT;exact ih _ (hs.2 _) {w with heap:=w.heap.push o} T hT
 |shape r k ih=>intro w T hT;exact ih _ (hs _) w T hT
 |freeze a n k ih=>
  intro w T hT;obtain⟨hp,hn,e⟩:=Mk w a n;simp only[ϣ] at hT |-
  have e1:w.freeze a n=_:=e w.tape w.drawn;have e2:(aZ w T).freeze a n=_:=e T w.drawn;rw[e1] at hT |-
  rw[e2];exact ih hs {w with heap:=hp} T hT
 |frozen a k ih=>intro w T hT;exact ih _ (hs _) w T hT
 |getObj r k ih=>
  intro w T hT;simp only[ϣ] at hT |-
  show(match w.heap[r]? with
   |some (.cells ..)=>(.halt (.stuck "getObj: a row of cells") (aZ w T):Abu α)
   |some o=>(k o).run p (aZ w T)
   |none=>.halt (.stuck "getObj: no such block") (aZ w T))=_
  cases ho:w.heap[r]? with
  |none=>simp only;rfl
  |some o=>
   simp only[ho] at hT |-
   cases o<;>first|rfl|exact ih _ (hs _) w T hT
 |setObj r o k ih=>
  intro w T hT;simp only[ϣ] at hT |-
  show(match w.heap[r]? with
   |some (.cells ..)=>(.halt (.stuck "setObj: a row of cells") (aZ w T):Abu α)
   |some _=>k.run p { (aZ w T) with heap:=w.heap.setIfInBounds r o}
   |none=>.halt (.stuck "setObj: no such block") (aZ w T))=_
  cases ho:w.heap[r]? with
  |none=>simp only;rfl
  |some o'=>
   simp only[ho] at hT |-
   cases o'<;>first|rfl|exact ih hs.2 {w with heap:=w.heap.setIfInBounds r o} T hT
 |choose q k ih=>
  intro w T hT;simp only[ϣ] at hT |-
  by_cases hq:q.forced=θ
  ·rw[if_pos hq] at hT |-
   rw[if_pos hq];exact ih _ (hs _) w T hT
  ·rw[if_neg hq] at hT |-
   rw[if_neg hq];have hd:=(WM (hs (q.cut (w.tape w.drawn q))) {w with drawn:=w.drawn+1}).1
   have e:T w.drawn q=w.tape w.drawn q:=hT w.drawn q (ϊ _) (by simp only at hd;omega)
   show(k (q.cut (T w.drawn q))).run p (aZ {w with drawn:=w.drawn+1} T)=_
   rw[e];exact ih _ (hs _) {w with drawn:=w.drawn+1} T λj q h1 h2=>hT j q (by simp only at h1;omega) h2
 |sys c k ih=>exact hs.elim
 |program k ih=>intro w T hT;exact ih _ hs w T hT
 |mark m k ih=>intro w T hT;exact ih hs w T hT
 |halt h=>intro w T hT;rfl
end Go.Sim
namespace Go.Sim
open Go
variable {p:ϑ}
namespace aj
class MC (p:ϑ) {α:Type} (s:Sem α):Prop where
 h:aj p s
instance {α:Type} (a:α):MC p (Ϩ a):=⟨trivial⟩
instance {α:Type} (a:α):MC p (Sem.pure a):=⟨trivial⟩
def pure{α:Type}(a:α):aj p (Ϩ a):=trivial
def aM{α:Type}(a:α):aj p (Sem.pure a):=trivial
def newObj{o:Obj}(h:¬pH o):aj p (Go.newObj o):=⟨h,λ_=>trivial⟩
def setObj{o:Obj}(r:Nat)(h:¬pH o):aj p (Go.setObj r o):=⟨h,trivial⟩
def ite{α:Type}{c:Prop}[Decidable c]{a b:Sem α}(h:aj p a)(h2:aj p b):aj p (if c then a else b):=by
 split<;>assumption
def map{α β:Type}{s:Sem α}(f:α->β)(h:aj p s):aj p (f<$>s):=by
 rw[map_eq_pure_bind];exact bind' h λ_=>trivial
def Mh{ι σ:Type}(l:List ι){f:ι->σ->Sem (ForInStep σ)}(h:∀x s,aj p (f x s)):∀s,aj p (forIn l s f):=by
 induction l with
 |nil=>intro s;exact trivial
 |cons a l ih=>
  intro s;rw[List.forIn_cons];refine bind' (h _ _) λr=>?_
  cases r
  ·exact trivial
  ·exact ih _
def Tg{ι σ:Type}(l:Array ι){f:ι->σ->Sem (ForInStep σ)}(h:∀x s,aj p (f x s))(s:σ):aj p (forIn l s f):=by
 rw[<-Aaj];exact Mh _ h s
def lr{σ:Type}(l:Std.Legacy.Range){f:Nat->σ->Sem (ForInStep σ)}(h:∀x s,aj p (f x s))(s:σ):aj p (forIn l s f):=by
 rw[Aej];exact Mh _ h s
def ahY{ι σ:Type}(l:List ι){f:ι->Sem σ}(h:∀x,aj p (f x)):aj p (l.mapM f):=by
 induction l with
 |nil=>exact trivial
 |cons a l ih=>
  rw[List.mapM_cons];exact bind' (h _) λ_=>aj.bind' ih λ_=>trivial
def ahX{ι σ:Type}(l:Array ι){f:ι->Sem σ}(h:∀x,aj p (f x)):aj p (l.mapM f):=by
 rw[Aak];exact map _ (aj.ahY _ h)
def foldlM{ι σ:Type}(l:List ι){f:σ->ι->Sem σ}(h:∀s x,aj p (f s x)):∀s,aj p (l.foldlM f s):=by
 induction l with
 |nil=>intro s;exact trivial
 |cons a l ih=>
  intro s;rw[List.foldlM_cons];exact bind' (h _ _) λ_=>ih _
instance {α:Type} (s:String):MC p ((Go.stuck s:Sem α)):=⟨by
 repeat' first| (with_reducible first|exact MC.h|refine bind' ?_ λ_=>?_|refine ite ?_ ?_) |split|dsimp only|trivial⟩
instance {α:Type} (s:Unsupported):MC p ((Go.unsupported s:Sem α)):=⟨by
 repeat' first| (with_reducible first|exact MC.h|refine bind' ?_ λ_=>?_|refine ite ?_ ?_) |split|dsimp only|trivial⟩
def choose(q:Question):aj p (Go.choose q):=by
 intro _
 repeat' first| (with_reducible first|exact MC.h|refine bind' ?_ λ_=>?_|refine ite ?_ ?_) |split|dsimp only|trivial
instance (q:Question):MC p (Go.choose q):=⟨choose q⟩
instance:MC p (Go.program):=⟨by
 repeat' first| (with_reducible first|exact MC.h|refine bind' ?_ λ_=>?_|refine ite ?_ ?_) |split|dsimp only|trivial⟩
instance (m:Mark):MC p (Go.mark m):=⟨by
 repeat' first| (with_reducible first|exact MC.h|refine bind' ?_ λ_=>?_|refine ite ?_ ?_) |split|dsimp only|trivial⟩
instance (r:Nat):MC p (Go.getObj r):=⟨by
 intro _
 repeat' first| (with_reducible first|exact MC.h|refine bind' ?_ λ_=>?_|refine ite ?_ ?_) |split|dsimp only|trivial⟩
instance (a:ϕ) (m:Mode):MC p (Go.load a m):=⟨by
 intro _
 repeat' first| (with_reducible first|exact MC.h|refine bind' ?_ λ_=>?_|refine ite ?_ ?_) |split|dsimp only|trivial⟩
instance (a:ϕ) (v:υ) (m:Mode):MC p (Go.store a v m):=⟨by
 repeat' first| (with_reducible first|exact MC.h|refine bind' ?_ λ_=>?_|refine ite ?_ ?_) |split|dsimp only|trivial⟩
instance (r:Nat):MC p (Go.shape r):=⟨by
 intro _
 repeat' first| (with_reducible first|exact MC.h|refine bind' ?_ λ_=>?_|refine ite ?_ ?_) |split|dsimp only|trivial⟩
theorem MC.of{α:Type}{s t:Sem α}(e:s=t)(h:aj p t:=by repeat' first| (with_reducible first|exact MC.h|exact newObj id|exact setObj _ id|refine bind' ?_ λ_=>?_|refine map _ ?_|refine ite ?_ ?_) |split|dsimp only|trivial):MC p s:=⟨e▸h⟩
instance (x0:ό):MC p (Go.underlying x0):=MC.of (Go.underlying.eq_def _)
instance (x0:ό):MC p (Go.elemOf x0):=MC.of (Go.elemOf.eq_def _)
instance (x0:ό) (x1:Array υ):MC p (Go.newRow x0 x1):=MC.of (Go.newRow.eq_def _ _)
instance (x0:ό) (x1:υ):MC p (Go.newVar x0 x1):=MC.of (Go.newVar.eq_def _ _)
instance {α:Type} (e:RuntimeError):MC p ((Go.runtimePanic e:Sem α)):=MC.of (Go.runtimePanic.eq_def _)
def runtimePanic{α:Type}(e:RuntimeError):aj p ((Go.runtimePanic e:Sem α)):=MC.h
instance {α:Type} (k:Abb) (x y:Int) (c:Abj):MC p ((Go.boundsPanic k x y c:Sem α)):=MC.of (Go.boundsPanic.eq_def _ _ _ _)
instance (x0:ό):MC p (Go.typeInfo x0):=MC.of (Go.typeInfo.eq_def _)
instance (x0:ό):MC p (Go.zeroValue x0):=MC.of (Go.zeroValue.eq_def _)
instance (x0:ό):MC p (Go.sizeOf x0):=MC.of (Go.sizeOf.eq_def _)
instance (x0:ό):MC p (Go.isAgg x0):=MC.of (Go.isAgg.eq_def _)
instance (x0:ϕ) (x1:Nat) (x2:Nat) (x3:Array υ):MC p (Go.loadCellsFrom x0 x1 x2 x3):=⟨by
 induction x2 generalizing x1 x3 with
 |zero=>exact trivial
 |succ n ih=>
 unfold Go.loadCellsFrom;refine bind' MC.h λ_=>ih _ _
 all_goals
 repeat' first| (with_reducible first|exact MC.h|refine bind' ?_ λ_=>?_|refine ite ?_ ?_) |split|dsimp only|trivial⟩
instance (x0:ϕ) (x1:Nat):MC p (Go.loadCells x0 x1):=MC.of (Go.loadCells.eq_def _ _)
instance (x0:ϕ) (x1:List υ) (x2:Nat):MC p (Go.storeCells x0 x1 x2):=⟨by
 induction x1 generalizing x2 with
 |nil=>exact trivial
 |cons a l ih=>
 unfold Go.storeCells;refine bind' MC.h λ_=>ih _
 all_goals
 repeat' first| (with_reducible first|exact MC.h|refine bind' ?_ λ_=>?_|refine ite ?_ ?_) |split|dsimp only|trivial⟩
instance (x0:ό) (x1:ϕ):MC p (Go.loadVar x0 x1):=MC.of (Go.loadVar.eq_def _ _)
instance (x0:ό) (x1:ϕ) (x2:υ):MC p (Go.storeVar x0 x1 x2):=MC.of (Go.storeVar.eq_def _ _ _)
instance (x0:ό) (x1:Array υ) (x2:Nat):MC p (Go.part x0 x1 x2):=MC.of (Go.part.eq_def _ _ _)
instance (x0:υ):MC p (Go.asIntOf x0):=MC.of (Go.asIntOf.eq_def _)
instance (x0:υ):MC p (Go.asInt x0):=MC.of (Go.asInt.eq_def _)
instance (x0:υ):MC p (Go.asBool x0):=MC.of (Go.asBool.eq_def _)
def asBool(x0:υ):aj p (Go.asBool x0):=MC.h
instance (x0:υ):MC p (Go.asAgg x0):=MC.of (Go.asAgg.eq_def _)
instance (x0:υ):MC p (Go.asAddr x0):=MC.of (Go.asAddr.eq_def _)
instance (x0:υ):MC p (Go.Instr.sureAddr x0):=MC.of (Go.Instr.sureAddr.eq_def _)
instance (x0:Nat):MC p (Go.askRoom x0):=MC.of (Go.askRoom.eq_def _)
instance (x0:Nat):MC p (Go.viewAt x0):=MC.of (Go.viewAt.eq_def _)
instance (x0:ϕ):MC p (Go.noView x0):=MC.of (Go.noView.eq_def _)
instance (x0:ϕ):MC p (Go.markStringish x0):=MC.of (Go.markStringish.eq_def _)
instance (x0:Nat):MC p (Go.numberAt x0):=MC.of (Go.numberAt.eq_def _)
instance (x0:ϕ):MC p (Go.behindNumber x0):=MC.of (Go.behindNumber.eq_def _)
instance (x0:ϕ) (x1:Bool):MC p (Go.asNumber x0 x1):=MC.of (Go.asNumber.eq_def _ _)
instance (x0:ϕ):MC p (Go.byteOf x0):=MC.of (Go.byteOf.eq_def _)
instance (x0:ϕ) (x1:Nat) (x2:Nat):MC p (Go.partAt x0 x1 x2):=MC.of (Go.partAt.eq_def _ _ _)
instance (x0:ϕ) (x1:Field):MC p (Go.fieldPlace x0 x1):=MC.of (Go.fieldPlace.eq_def _ _)
instance (x0:ό) (x1:Bool) (x2:υ):MC p (Go.Instr.alloc x0 x1 x2):=MC.of (Go.Instr.alloc.eq_def _ _ _)
def Ce(x0:ό)(x1:Bool)(x2:υ):aj p (Go.Instr.alloc x0 x1 x2):=MC.h
instance (x0:ό) (x1:υ):MC p (Go.Instr.box x0 x1):=MC.of (Go.Instr.box.eq_def _ _)
def Cf(x0:ό)(x1:υ):aj p (Go.Instr.box x0 x1):=MC.h
instance (x0:ό) (x1:υ):MC p (Go.Instr.loadAt x0 x1):=MC.of (Go.Instr.loadAt.eq_def _ _)
def Cl(x0:ό)(x1:υ):aj p (Go.Instr.loadAt x0 x1):=MC.h
instance (x0:ό) (x1:υ) (x2:υ):MC p (Go.Instr.storeAt x0 x1 x2):=MC.of (Go.Instr.storeAt.eq_def _ _ _)
def Cn(x0:ό)(x1:υ)(x2:υ):aj p (Go.Instr.storeAt x0 x1 x2):=MC.h
instance (x0:ό) (x1:υ) (x2:Nat):MC p (Go.Instr.fieldAt x0 x1 x2):=MC.of (Go.Instr.fieldAt.eq_def _ _ _)
def Ci(x0:ό)(x1:υ)(x2:Nat):aj p (Go.Instr.fieldAt x0 x1 x2):=MC.h
instance (x0:υ) (x1:Nat) (x2:Abj):MC p (Go.Instr.sliceBound x0 x1 x2):=MC.of (Go.Instr.sliceBound.eq_def _ _ _)
instance (x0:Bool) (x1:Nat) (x2:Nat) (x3:Option υ) (x4:Option υ) (x5:Option υ):MC p (Go.Instr.sliceBounds x0 x1 x2 x3 x4 x5):=MC.of (Go.Instr.sliceBounds.eq_def _ _ _ _ _ _)
instance (x0:ό) (x1:υ) (x2:Option υ) (x3:Option υ) (x4:Option υ):MC p (Go.Instr.slice x0 x1 x2 x3 x4):=MC.of (Go.Instr.slice.eq_def _ _ _ _ _)
instance (x0:ό) (x1:υ) (x2:Option υ) (x3:Option υ) (x4:Option υ):MC p (Go.Instr.sliceAt x0 x1 x2 x3 x4):=MC.of (Go.Instr.sliceAt.eq_def _ _ _ _ _)
def Cm(x0:ό)(x1:υ)(x2:Option υ)(x3:Option υ)(x4:Option υ):aj p (Go.Instr.sliceAt x0 x1 x2 x3 x4):=MC.h
instance (x0:ό) (x1:υ) (x2:υ):MC p (Go.Instr.indexAt x0 x1 x2):=MC.of (Go.Instr.indexAt.eq_def _ _ _)
def Ck(x0:ό)(x1:υ)(x2:υ):aj p (Go.Instr.indexAt x0 x1 x2):=MC.h
instance (x0:ό) (x1:υ) (x2:Nat):MC p (Go.Instr.field x0 x1 x2):=MC.of (Go.Instr.field.eq_def _ _ _)
def Cg(x0:ό)(x1:υ)(x2:Nat):aj p (Go.Instr.field x0 x1 x2):=MC.h
instance (x0:ό) (x1:υ) (x2:υ):MC p (Go.Instr.index x0 x1 x2):=MC.of (Go.Instr.index.eq_def _ _ _)
def Cj(x0:ό)(x1:υ)(x2:υ):aj p (Go.Instr.index x0 x1 x2):=MC.h
instance (x0:Abo) (x1:Abb) (x2:Int) (x3:Int):MC p (Go.Op.intArith x0 x1 x2 x3):=MC.of (Go.Op.intArith.eq_def _ _ _ _)
instance (x0:Abo) (x1:Abb) (x2:Int) (x3:Int):MC p (Go.Op.intDiv x0 x1 x2 x3):=MC.of (Go.Op.intDiv.eq_def _ _ _ _)
instance (x0:Abo) (x1:Abb) (x2:Int) (x3:Int):MC p (Go.Op.intBits x0 x1 x2 x3):=MC.of (Go.Op.intBits.eq_def _ _ _ _)
instance (x0:Abo) (x1:Int) (x2:Int):MC p (Go.Op.intCmp x0 x1 x2):=MC.of (Go.Op.intCmp.eq_def _ _ _)
instance (x0:Abo) (x1:Abb) (x2:Int) (x3:Abb) (x4:Int):MC p (Go.Op.shift x0 x1 x2 x3 x4):=MC.of (Go.Op.shift.eq_def _ _ _ _ _)
instance (x0:Abo) (x1:Abz) (x2:Nat) (x3:Nat):MC p (Go.Op.floatArith x0 x1 x2 x3):=MC.of (Go.Op.floatArith.eq_def _ _ _ _)
instance (x0:Abo) (x1:Abz) (x2:Nat) (x3:Nat):MC p (Go.Op.floatCmp x0 x1 x2 x3):=MC.of (Go.Op.floatCmp.eq_def _ _ _ _)
instance (x0:Abz) (x1:Nat) (x2:Abz):MC p (Go.Conv.floatToFloat x0 x1 x2):=MC.of (Go.Conv.floatToFloat.eq_def _ _ _)
instance (x0:Abo) (x1:Abz) (x2:Nat) (x3:Nat):MC p (Go.Op.Complex.arith x0 x1 x2 x3):=MC.of (by unfold Go.Op.Complex.arith;rfl)
instance (x0:Nat) (x1:Nat):MC p (Go.Op.Complex.add x0 x1):=MC.of (by unfold Go.Op.Complex.add;rfl)
instance (x0:Nat) (x1:Nat):MC p (Go.Op.Complex.sub x0 x1):=MC.of (by unfold Go.Op.Complex.sub;rfl)
instance (x0:Nat) (x1:Nat):MC p (Go.Op.Complex.mul x0 x1):=MC.of (by unfold Go.Op.Complex.mul;rfl)
instance (x0:Nat) (x1:Nat):MC p (Go.Op.Complex.quo x0 x1):=MC.of (by unfold Go.Op.Complex.quo;rfl)
instance (x0:Nat) (x1:Nat) (x2:Nat) (x3:Nat) (x4:Nat):MC p (Go.Op.Complex.corrected x0 x1 x2 x3 x4):=MC.of (by unfold Go.Op.Complex.corrected;rfl)
instance (x0:Abz) (x1:Nat) (x2:Abz):MC p (Go.Op.Complex.conv x0 x1 x2):=MC.of (by unfold Go.Op.Complex.conv;rfl)
instance (x0:Nat) (x1:Nat) (x2:Nat) (x3:Nat):MC p (Go.Op.Complex.product x0 x1 x2 x3):=MC.of (by unfold Go.Op.Complex.product;rfl)
instance (x0:Nat) (x1:Nat) (x2:Nat) (x3:Nat):MC p (Go.Op.Complex.quotient x0 x1 x2 x3):=MC.of (by unfold Go.Op.Complex.quotient;rfl)
instance (x0:Abo) (x1:Abz) (x2:Nat) (x3:Nat) (x4:Nat) (x5:Nat):MC p (Go.Op.complexOp x0 x1 x2 x3 x4 x5):=MC.of (Go.Op.complexOp.eq_def _ _ _ _ _ _)
instance (x0:Abo) (x1:ByteArray) (x2:ByteArray):MC p (Go.Op.stringOp x0 x1 x2):=MC.of (Go.Op.stringOp.eq_def _ _ _)
instance (x0:ϕ) (x1:ϕ):MC p (Go.Op.twoPlaces x0 x1):=MC.of (Go.Op.twoPlaces.eq_def _ _)
instance (x0:Abb) (x1:ϕ) (x2:ϕ):MC p (Go.Op.addrSub x0 x1 x2):=MC.of (Go.Op.addrSub.eq_def _ _ _)
instance (x0:Abo) (x1:ϕ) (x2:ϕ):MC p (Go.Op.addrCmp x0 x1 x2):=MC.of (Go.Op.addrCmp.eq_def _ _ _)
instance (x0:Abb) (x1:ϕ) (x2:Int):MC p (Go.Op.addrMod x0 x1 x2):=MC.of (Go.Op.addrMod.eq_def _ _ _)
instance (x0:ϕ):MC p (Go.frozen x0):=⟨by
 intro _
 repeat' first| (with_reducible first|exact MC.h|refine bind' ?_ λ_=>?_|refine ite ?_ ?_) |split|dsimp only|trivial⟩
instance (x0:ϕ):MC p (Go.stringish x0):=MC.of (Go.stringish.eq_def _)
instance (x0:ϕ) (x1:ϕ):MC p (Go.mayBeOne x0 x1):=MC.of (Go.mayBeOne.eq_def _ _)
instance (x0:ό):MC p (Go.typeStr x0):=MC.of (Go.typeStr.eq_def _)
instance (x0:ϕ) (x1:ϕ):MC p (Go.sameAddr x0 x1):=MC.of (Go.sameAddr.eq_def _ _)
instance (x0:Option ϕ) (x1:Option ϕ):MC p (Go.samePointer x0 x1):=MC.of (Go.samePointer.eq_def _ _)
instance (x0:Nat) (x1:ό) (x2:υ) (x3:υ):MC p (Go.Op.equalIn x0 x1 x2 x3):=⟨by
 induction x0 generalizing x1 x2 x3 with
 |zero=>exact trivial
 |succ n ih=>
 unfold Go.Op.equalIn
 repeat' first| (with_reducible first|exact MC.h|exact ih _ _ _|exact newObj id|exact setObj _ id|refine bind' ?_ λ_=>?_|refine Tg _ (λ_ _=>?_) _|refine Mh _ (λ_ _=>?_) _|refine lr _ (λ_ _=>?_) _|refine map _ ?_|refine ahX _ λ_=>?_|refine ahY _ λ_=>?_|refine foldlM _ (λ_ _=>?_) _|refine ite ?_ ?_) |split|dsimp only|trivial⟩
instance (x0:ό) (x1:υ) (x2:υ):MC p (Go.Op.equal x0 x1 x2):=MC.of (Go.Op.equal.eq_def _ _ _)
instance (x0:Nat) (x1:ό) (x2:υ) (x3:υ):MC p (Go.Op.eqGuardIn x0 x1 x2 x3):=⟨by
 induction x0 generalizing x1 x2 x3 with
 |zero=>exact trivial
 |succ n ih=>
 unfold Go.Op.eqGuardIn
 repeat' first| (with_reducible first|exact MC.h|exact ih _ _ _|exact newObj id|exact setObj _ id|refine bind' ?_ λ_=>?_|refine Tg _ (λ_ _=>?_) _|refine Mh _ (λ_ _=>?_) _|refine lr _ (λ_ _=>?_) _|refine map _ ?_|refine ahX _ λ_=>?_|refine ahY _ λ_=>?_|refine foldlM _ (λ_ _=>?_) _|refine ite ?_ ?_) |split|dsimp only|trivial⟩
instance (ts:Array ό) (t:ό) (x y:υ):MC p (Go.Builtin.unsafeAdd_ ts t #[x,y]):=⟨by
 unfold Go.Builtin.unsafeAdd_;cases x<;>try exact trivial
 rename_i q;cases q
 ·refine bind' (s:=Go.asInt y) MC.h (λn=>?_)
  dsimp only
  repeat' first| (with_reducible first|exact MC.h|refine bind' ?_ λ_=>?_|refine ite ?_ ?_) |split|dsimp only|trivial
 ·refine bind' (s:=Go.asInt y) MC.h (λn=>?_)
  dsimp only
  repeat' first| (with_reducible first|exact MC.h|refine bind' ?_ λ_=>?_|refine ite ?_ ?_) |split|dsimp only|trivial⟩
instance (x0:ό) (x1:υ) (x2:υ):MC p (Go.movedNumber x0 x1 x2):=MC.of (Go.movedNumber.eq_def _ _ _)
instance (x0:ό) (x1:υ) (x2:υ):MC p (Go.movedPointer x0 x1 x2):=MC.of (Go.movedPointer.eq_def _ _ _)
instance (x0:Abo) (x1:ό) (x2:Abp) (x3:Abp) (x4:υ) (x5:υ):MC p (Go.eqGuard x0 x1 x2 x3 x4 x5):=MC.of (Go.eqGuard.eq_def _ _ _ _ _ _)
def eqGuard(x0:Abo)(x1:ό)(x2:Abp)(x3:Abp)(x4:υ)(x5:υ):aj p (Go.eqGuard x0 x1 x2 x3 x4 x5):=MC.h
instance (x0:Abo) (x1:ό) (x2:υ) (x3:υ):MC p (Go.binOp x0 x1 x2 x3):=MC.of (Go.binOp.eq_def _ _ _ _)
def binOp(x0:Abo)(x1:ό)(x2:υ)(x3:υ):aj p (Go.binOp x0 x1 x2 x3):=MC.h
instance (x0:υ) (x1:Nat):MC p (Go.Instr.extract x0 x1):=MC.of (Go.Instr.extract.eq_def _ _)
def K5(x0:υ)(x1:Nat):aj p (Go.Instr.extract x0 x1):=MC.h
instance (x0:Fn) (x1:Array υ) (x2:Array υ):MC p (Go.Instr.makeFunc x0 x1 x2):=MC.of (Go.Instr.makeFunc.eq_def _ _ _)
def K6(x0:Fn)(x1:Array υ)(x2:Array υ):aj p (Go.Instr.makeFunc x0 x1 x2):=MC.h
instance (x0:ό) (x1:Option υ):MC p (Go.Instr.makeMap x0 x1):=MC.of (Go.Instr.makeMap.eq_def _ _)
def adL(x0:ό)(x1:Option υ):aj p (Go.Instr.makeMap x0 x1):=MC.h
instance (x0:ό) (x1:υ) (x2:υ):MC p (Go.Instr.makeSlice x0 x1 x2):=MC.of (Go.Instr.makeSlice.eq_def _ _ _)
def adM(x0:ό)(x1:υ)(x2:υ):aj p (Go.Instr.makeSlice x0 x1 x2):=MC.h
def adk(x0:ό)(x1:Array (Nat×υ)):aj p (Go.Instr.build x0 x1):=by
 unfold Go.Instr.build
 repeat' first| (with_reducible first|exact MC.h|refine bind' ?_ λ_=>?_|refine ahX _ λ_=>?_|refine ite ?_ ?_) |split|dsimp only|trivial
instance (x0:ό) (x1:Array (Nat×υ)):MC p (Go.Instr.build x0 x1):=⟨adk x0 x1⟩
instance (x0:ό) (x1:Nat) (x2:Array (Nat×υ)):MC p (Go.Instr.buildSlice x0 x1 x2):=MC.of (Go.Instr.buildSlice.eq_def _ _ _)
def adn(x0:ό)(x1:Nat)(x2:Array (Nat×υ)):aj p (Go.Instr.buildSlice x0 x1 x2):=MC.h
instance (x0:υ):MC p (Go.Builtin.lenOf x0):=MC.of (Go.Builtin.lenOf.eq_def _)
instance (x0:Array ό) (x1:ό) (x2:Array υ):MC p (Go.Builtin.len_ x0 x1 x2):=MC.of (Go.Builtin.len_.eq_def _ _ _)
def J9(x0:Array ό)(x1:ό)(x2:Array υ):aj p (Go.Builtin.len_ x0 x1 x2):=MC.h
instance (x0:υ) (x1:υ):MC p (Go.Builtin.max2 x0 x1):=MC.of (Go.Builtin.max2.eq_def _ _)
instance (x0:υ) (x1:υ):MC p (Go.Builtin.min2 x0 x1):=MC.of (Go.Builtin.min2.eq_def _ _)
def Ka(x0:Array ό)(x1:ό)(x2:Array υ):aj p (Go.Builtin.max_ x0 x1 x2):=by
 unfold Go.Builtin.max_
 repeat' first| (with_reducible first|exact MC.h|refine bind' ?_ λ_=>?_|refine foldlM _ (λ_ _=>?_) _|refine ite ?_ ?_) |split|dsimp only|trivial
instance (x0:Array ό) (x1:ό) (x2:Array υ):MC p (Go.Builtin.max_ x0 x1 x2):=⟨Ka x0 x1 x2⟩
def Kb(x0:Array ό)(x1:ό)(x2:Array υ):aj p (Go.Builtin.min_ x0 x1 x2):=by
 unfold Go.Builtin.min_
 repeat' first| (with_reducible first|exact MC.h|refine bind' ?_ λ_=>?_|refine foldlM _ (λ_ _=>?_) _|refine ite ?_ ?_) |split|dsimp only|trivial
instance (x0:Array ό) (x1:ό) (x2:Array υ):MC p (Go.Builtin.min_ x0 x1 x2):=⟨Kb x0 x1 x2⟩
instance (x0:Nat) (x1:Nat) (x2:υ):MC p (Go.Builtin.firstCells x0 x1 x2):=MC.of (Go.Builtin.firstCells.eq_def _ _ _)
instance (x0:Array ό) (x1:ό) (x2:Array υ):MC p (Go.Builtin.copy_ x0 x1 x2):=MC.of (Go.Builtin.copy_.eq_def _ _ _)
def J8(x0:Array ό)(x1:ό)(x2:Array υ):aj p (Go.Builtin.copy_ x0 x1 x2):=MC.h
instance (x0:Array ό) (x1:ό) (x2:Array υ):MC p (Go.Builtin.clear_ x0 x1 x2):=MC.of (Go.Builtin.clear_.eq_def _ _ _)
def J7(x0:Array ό)(x1:ό)(x2:Array υ):aj p (Go.Builtin.clear_ x0 x1 x2):=MC.h
instance (x0:ϕ) (x1:Nat):MC p (Go.Builtin.holdsCells x0 x1):=MC.of (Go.Builtin.holdsCells.eq_def _ _)
instance (x0:Nat) (x1:Nat) (x2:Nat) (x3:Option ϕ) (x4:υ):MC p (Go.Builtin.mayShare x0 x1 x2 x3 x4):=MC.of (Go.Builtin.mayShare.eq_def _ _ _ _ _)
instance (x0:Array ό) (x1:ό) (x2:Array υ):MC p (Go.Builtin.append_ x0 x1 x2):=MC.of (Go.Builtin.append_.eq_def _ _ _)
def J6(x0:Array ό)(x1:ό)(x2:Array υ):aj p (Go.Builtin.append_ x0 x1 x2):=MC.h
instance (x0:Abz) (x1:Nat) (x2:Abb):MC p (Go.Conv.floatToInt x0 x1 x2):=MC.of (Go.Conv.floatToInt.eq_def _ _ _)
def Ki(x0:Abz)(x1:Nat)(x2:Abb):aj p (Go.Conv.floatToInt x0 x1 x2):=MC.h
instance (x0:Abb) (x1:Int):MC p (Go.Conv.intToInt x0 x1):=MC.of (Go.Conv.intToInt.eq_def _ _)
def Kj(x0:Abb)(x1:Int):aj p (Go.Conv.intToInt x0 x1):=MC.h
instance (x0:ό) (x1:ByteArray):MC p (Go.Conv.stringToBytes x0 x1):=MC.of (Go.Conv.stringToBytes.eq_def _ _)
def Kk(x0:ό)(x1:ByteArray):aj p (Go.Conv.stringToBytes x0 x1):=MC.h
instance (x0:Bool) (x1:Nat) (x2:ό) (x3:υ):MC p (Go.Instr.checkKey x0 x1 x2 x3):=⟨by
 induction x1 generalizing x2 x3 with
 |zero=>exact trivial
 |succ n ih=>
 unfold Go.Instr.checkKey
 repeat' first| (with_reducible first|exact MC.h|exact ih _ _|exact newObj id|exact setObj _ id|refine bind' ?_ λ_=>?_|refine Tg _ (λ_ _=>?_) _|refine Mh _ (λ_ _=>?_) _|refine lr _ (λ_ _=>?_) _|refine map _ ?_|refine ahX _ λ_=>?_|refine ahY _ λ_=>?_|refine foldlM _ (λ_ _=>?_) _|refine ite ?_ ?_) |split|dsimp only|trivial⟩
instance (x0:ό) (x1:υ) (x2:List Abe) (x3:Nat):MC p (Go.Instr.findAsking x0 x1 x2 x3):=⟨by
 induction x2 generalizing x3 with
 |nil=>exact trivial
 |cons a l ih=>
 unfold Go.Instr.findAsking
 repeat' first| (with_reducible first|exact MC.h|exact ih _|exact newObj id|exact setObj _ id|refine bind' ?_ λ_=>?_|refine Tg _ (λ_ _=>?_) _|refine Mh _ (λ_ _=>?_) _|refine lr _ (λ_ _=>?_) _|refine map _ ?_|refine ahX _ λ_=>?_|refine ahY _ λ_=>?_|refine foldlM _ (λ_ _=>?_) _|refine ite ?_ ?_) |split|dsimp only|trivial⟩
instance (x0:ό) (x1:υ) (x2:List Abe):MC p (Go.Instr.findKey x0 x1 x2):=MC.of (Go.Instr.findKey.eq_def _ _ _)
instance (x0:ό) (x1:υ) (x2:υ) (x3:Bool):MC p (Go.Instr.lookup x0 x1 x2 x3):=MC.of (Go.Instr.lookup.eq_def _ _ _ _)
def Y6(x0:ό)(x1:υ)(x2:υ)(x3:Bool):aj p (Go.Instr.lookup x0 x1 x2 x3):=MC.h
instance (x0:υ) (x1:υ):MC p (Go.Instr.keyThatStays x0 x1):=MC.of (Go.Instr.keyThatStays.eq_def _ _)
instance (x0:ό) (x1:υ) (x2:υ) (x3:υ):MC p (Go.Instr.mapUpdate x0 x1 x2 x3):=MC.of (Go.Instr.mapUpdate.eq_def _ _ _ _)
def Y7(x0:ό)(x1:υ)(x2:υ)(x3:υ):aj p (Go.Instr.mapUpdate x0 x1 x2 x3):=MC.h
instance (x0:Nat):MC p (Go.Instr.getLoop x0):=MC.of (Go.Instr.getLoop.eq_def _)
instance (x0:Ϫ) (x1:Array υ) (x2:Array Tmp) (x3:ϖ) (x4:ϖ) (x5:Option Nat):MC p (Go.Instr.enterLoop x0 x1 x2 x3 x4 x5):=MC.of (Go.Instr.enterLoop.eq_def _ _ _ _ _ _)
def Y5(x0:Ϫ)(x1:Array υ)(x2:Array Tmp)(x3:ϖ)(x4:ϖ)(x5:Option Nat):aj p (Go.Instr.enterLoop x0 x1 x2 x3 x4 x5):=MC.h
instance (x0:Nat) (x1:Array υ):MC p (Go.Instr.yield x0 x1):=MC.of (Go.Instr.yield.eq_def _ _)
def Y9(x0:Nat)(x1:Array υ):aj p (Go.Instr.yield x0 x1):=MC.h
instance (x0:Nat):MC p (Go.Instr.beginRound x0):=MC.of (Go.Instr.beginRound.eq_def _)
def Y2(x0:Nat):aj p (Go.Instr.beginRound x0):=MC.h
instance (x0:Nat) (x1:Option ϖ):MC p (Go.Instr.endRound x0 x1):=MC.of (Go.Instr.endRound.eq_def _ _)
def Y4(x0:Nat)(x1:Option ϖ):aj p (Go.Instr.endRound x0 x1):=MC.h
instance (x0:Nat):MC p (Go.Instr.endLoop x0):=MC.of (Go.Instr.endLoop.eq_def _)
def Y3(x0:Nat):aj p (Go.Instr.endLoop x0):=MC.h
instance (x0:Nat):MC p (Go.Instr.takeDeferred x0):=MC.of (Go.Instr.takeDeferred.eq_def _)
def Y8(x0:Nat):aj p (Go.Instr.takeDeferred x0):=MC.h
def results(x0:Ϣ)(x1:Array υ):aj p (Go.results x0 x1):=by
 unfold Go.results
 repeat' first| (with_reducible first|exact MC.h|refine bind' ?_ λ_=>?_|refine ahX _ λ_=>?_|refine ite ?_ ?_) |split|dsimp only|trivial
instance (x0:Ϣ) (x1:Array υ):MC p (Go.results x0 x1):=⟨results x0 x1⟩
end aj
end Go.Sim
namespace Go.Sim
open Go
def Wh(w:Ψ)(a:ϕ)(s:String):wR (w.noCell a s):=by
 unfold Ad1;split<;>trivial
def acz{p:ϑ}{w:Ψ}{a:ϕ}{b:Bool}{h:Halt}(e:w.farLoad p a b=.error h):wR h:=by
 unfold World.farLoad at e;split at e
 ·split at e
  ·cases e
  ·cases e;trivial
 ·cases e;exact Wh _ _ _
def acB{p:ϑ}{w:Ψ}{a:ϕ}{v:υ}{b:Bool}{h:Halt}(e:w.farStore p a v b=.error h):wR h:=by
 unfold Ad3 at e;split at e
 ·split at e
  ·cases e
  ·cases e;trivial
 ·cases e;exact Wh _ _ _
def aku{p:ϑ}{α:Type}{s:Sem α}(hs:aj p s):∀(w:Ψ) (h:Halt) (w':Ψ),s.run p w=.halt h w'->wR h:=by
 induction s with
 |pure a=>intro w h w' e;cases e
 |load m a k ih=>
  intro w h w' e;simp only[ϣ] at e;split at e
  ·exact ih _ (hs _) _ _ _ e
  ·split at e
   ·exact ih _ (hs _) _ _ _ e
   ·rename_i hf
    cases e;exact acz hf
 |store m a v k ih=>
  intro w h w' e;cases v<;>simp only[ϣ] at e<;>first
   | (cases e;trivial)
   | (split at e
      ·split at e
       ·cases e;trivial
       ·exact ih hs _ _ _ e
      ·split at e
       ·exact ih hs _ _ _ e
       ·rename_i hf
        cases e;exact acB hf)
 |new o k ih=>intro w h w' e;exact ih _ (hs.2 _) _ _ _ e
 |shape r k ih=>intro w h w' e;exact ih _ (hs _) _ _ _ e
 |freeze a n k ih=>intro w h w' e;exact ih hs _ _ _ e
 |frozen a k ih=>intro w h w' e;exact ih _ (hs _) _ _ _ e
 |getObj r k ih=>
  intro w h w' e;simp only[ϣ] at e;split at e
  ·cases e;trivial
  ·exact ih _ (hs _) _ _ _ e
  ·cases e;trivial
 |setObj r o k ih=>
  intro w h w' e;simp only[ϣ] at e;split at e
  ·cases e;trivial
  ·exact ih hs.2 _ _ _ e
  ·cases e;trivial
 |choose q k ih=>
  intro w h w' e;simp only[ϣ] at e;split at e
  ·exact ih _ (hs _) _ _ _ e
  ·exact ih _ (hs _) _ _ _ e
 |sys c k ih=>exact hs.elim
 |program k ih=>intro w h w' e;exact ih _ hs _ _ _ e
 |mark m k ih=>intro w h w' e;exact ih hs _ _ _ e
 |halt h=>intro w h' w' e;cases e;exact hs
def tk:Abs->Ψ
 | .go _ w _=>w
 | .ended _ w _=>w
 |_=>default
def adj(T:Tape):Abs->Abs
 | .go g w es=>.go g (aZ w T) es
 | .ended o w es=>.ended o (aZ w T) es
 |s=>s
inductive DL:Bool->List Abf->Prop
 |nil:DL χ []
 |stop:DL θ [cQ]
 |cons {b:Bool} (r:Nat) {ds:List Abf} (h:DL b ds):DL b (⟨.collected r,#[]⟩::ds)
inductive oP:List Ϙ->Prop
 |base {fr:Ϙ} (h:DL θ fr.defers):oP [fr]
 |call {fr:Ϙ} {cs:List Ϙ} (h:DL χ fr.defers) (t:oP cs):oP (fr::cs)
inductive qY:Abs->Prop
 |plain {g:ώ} {w:Ψ} {es:Array ϥ} (h:Plain g) (hn:bJ w.heap):qY (.go g w es)
 |ended {o:Outcome} {w:Ψ} {es:Array ϥ}:qY (.ended o w es)
 |rA {fr:Ϙ} {cs:List Ϙ} {w:Ψ} {es:Array ϥ} {ch:List Abt} (hm:fr.mode=.panicking ch) (hd:oP (fr::cs)) (hn:bJ w.heap):qY (.go (aO fr cs) w es)
structure Good(f:Ψ->Abs)(w:Ψ):Prop where
 cls:qY (f w)
 drawn:w.drawn<=(tk (f w)).drawn
 tape:(tk (f w)).tape=w.tape
 loc:∀T:Tape,(∀j q,w.drawn<=j->j<(tk (f w)).drawn->T j q=w.tape j q)->(f (aZ w T)).bare=adj T (f w).bare
def Sw{s:Abs}:qY s.bare↔qY s:=by
 cases s with
 |go g w es=>
  refine⟨λh=>?_,λh=>?_⟩
  ·have:∀s,qY s->s=.go g w #[]->qY (.go g w es):=by
    intro s hs e;cases hs with
    |plain h hn=>cases e;exact .plain h hn
    |ended=>cases e
    |rA hm hd hn=>cases e;exact .rA hm hd hn
   exact this _ h rfl
  ·have:∀s,qY s->s=.go g w es->qY (.go g w #[]):=by
    intro s hs e;cases hs with
    |plain h hn=>cases e;exact .plain h hn
    |ended=>cases e
    |rA hm hd hn=>cases e;exact .rA hm hd hn
   exact this _ h rfl
 |ended o w es=>exact⟨λ_=>.ended,λ_=>.ended⟩
 |_=>exact⟨λh=>(by cases h),λh=>(by cases h)⟩
def TH(s:Abs):tk s.bare=tk s:=by cases s<;>rfl
def Good.congr{f g:Ψ->Abs}{w:Ψ}(h:∀w,(f w).bare=(g w).bare)(x:Good g w):Good f w:=by
 have e:tk (f w)=tk (g w):=by rw[<-TH,h,TH]
 refine⟨Sw.1 (by rw[h];exact Sw.2 x.cls),by rw[e];exact x.drawn,by rw[e];exact x.tape,λT hT=>?_⟩
 rw[e] at hT;rw[h,h];exact x.loc T hT
def Good.pure{g:ώ}{w:Ψ}{es:Array ϥ}(h:Plain g)(hn:bJ w.heap):Good (λw=>.go g w es) w:=⟨.plain h hn,ϊ _,rfl,λ_ _=>rfl⟩
def Good.ended{o:Outcome}{w:Ψ}{es:Array ϥ}:Good (λw=>.ended o w es) w:=⟨.ended,ϊ _,rfl,λ_ _=>rfl⟩
def Good.rA{fr:Ϙ}{cs:List Ϙ}{w:Ψ}{es:Array ϥ}{ch:List Abt}(hm:fr.mode=.panicking ch)(hd:oP (fr::cs))(hn:bJ w.heap):Good (λw=>.go (aO fr cs) w es) w:=
 ⟨.rA hm hd hn,ϊ _,rfl,λ_ _=>rfl⟩
def Good.ue{p:ϑ}{α:Type}{s:Sem α}(hs:aj p s){k:Abu α->Abs}{w:Ψ}(hn:bJ w.heap)
 (dh:∀a aq,s.run p w=.ok a aq->bJ aq.heap->Good (λw=>k (.ok a w)) aq)
 (hh:∀h aq,s.run p w=.halt h aq->wR h->bJ aq.heap->Good (λw=>k (.halt h w)) aq):Good (λw=>k (s.run p w)) w:=by
 have hd:=WM hs w;have gy:=akv hs w hn;cases e:s.run p w with
 |ok a aq=>
  rw[e] at hd gy;simp only[xc] at hd gy;have g:=dh a aq e gy;refine⟨by simp only[e];exact g.cls,by simp only[e];exact Ϥ hd.1 g.drawn,by simp only[e];exact g.tape.trans hd.2,λT hT=>?_⟩
  simp only[e] at hT |-
  have l:=WR hs w T (λj q h1 h2=>hT j q h1 (by rw[e] at h2;exact Ϡ h2 g.drawn))
  rw[l,e];exact g.loc T λj q h1 h2=>(hT j q (Ϥ hd.1 h1) h2).trans (by rw[hd.2])
 |halt h aq=>
  have ho:=aku hs w h aq e;rw[e] at hd gy;simp only[xc] at hd gy;have g:=hh h aq e ho gy;refine⟨by simp only[e];exact g.cls,by simp only[e];exact Ϥ hd.1 g.drawn,by simp only[e];exact g.tape.trans hd.2,λT hT=>?_⟩
  simp only[e] at hT |-
  have l:=WR hs w T (λj q h1 h2=>hT j q h1 (by rw[e] at h2;exact Ϡ h2 g.drawn))
  rw[l,e];exact g.loc T λj q h1 h2=>(hT j q (Ϥ hd.1 h1) h2).trans (by rw[hd.2])
def abh{p:ϑ}{fr:Ϙ}{cs:List Ϙ}{w:Ψ}{ch:List Abt}(hm:fr.mode=.panicking ch)(hd:oP (fr::cs))(hn:bJ w.heap):
 (∃o aa,step p (Ab0 fr cs w)=.ended o aa)\/∃jR lM aa xd,step p (Ab0 fr cs w)=.next (Ab0 jR lM aa)/\jR.mode=.panicking xd/\oP (jR::lM)/\bJ aa.heap:=by
 have H7:ϛ p θ (aO fr cs) w=Abx p θ fr cs ν w:=by
  unfold ϛ;simp only[hm]
 have IU:∃b,DL b fr.defers/\(b=θ->cs=[])/\(b=χ->oP cs):=by
  cases hd with
  |base h=>exact⟨θ,h,λ_=>rfl,λh=>(by cases h)⟩
  |call h t=>exact⟨χ,h,λh=>(by cases h),λ_=>t⟩
 obtain⟨b,hl,h1,h2⟩:=IU;generalize Ao:fr.defers=df at hl;cases hl with
 |nil=>
  have ht:=h2 rfl;have key:∀(c:Ϙ) (rest:List Ϙ),cs=c::rest->(∃o,Abx p θ fr cs ν w=.ended o w)\/Abx p θ fr cs ν w=.go {frame:=c.raise ch,callers:=rest,status:=.running,dying:=ν} w:=by
   intro c rest fg;subst fg;unfold Abx;simp only[Ao,hm];by_cases hc:fr.catches p=θ
   ·rw[if_pos hc];exact .inl ⟨_,rfl⟩
   ·rw[if_neg hc];exact .inr rfl
  have rz:∀c:Ϙ,(∃xd,(c.raise ch).mode=.panicking xd)/\(c.raise ch).defers=c.defers:=by
   intro c;unfold Acl;split<;>exact⟨⟨_,rfl⟩,rfl⟩
  obtain⟨c,rest,fg⟩:∃c rest,cs=c::rest:=by
   cases ht with
   |base h=>exact⟨_,_,rfl⟩
   |call h t=>exact⟨_,_,rfl⟩
  obtain⟨⟨xd,xK⟩,Ug⟩:=rz c;rcases key c rest fg with⟨o,e⟩ |e
  ·left
   refine⟨o,w,Ab1 ?_⟩
   rw[show ϛ p θ {frame:=fr,callers:=cs,status:=.running,dying:=ν} w=_ from H7,e]
   rfl
  ·right
   refine⟨c.raise ch,rest,w,xd,Ab2 ?_,xK,?_,hn⟩
   ·rw[show ϛ p θ {frame:=fr,callers:=cs,status:=.running,dying:=ν} w=_ from H7,e]
    rfl
   ·subst fg
    cases ht with
    |base h=>exact .base (Ug▸h)
    |call h t=>exact .call (Ug▸h) t
 |stop=>
  left;have e:Abx p θ fr cs ν w=Abw p {fr with defers:=[]} cs ν cQ w:=by
   unfold Abx;simp only[Ao,cQ]
  have e2:∃o,(Abw p {fr with defers:=[]} cs ν cQ w).bare=.ended o w:=by
   unfold Abw cQ;simp[Go.invoke,Go.stuck,ϧ,bind,Ϯ]
  obtain⟨o,e2⟩:=e2;refine⟨o,w,Ab1 ?_⟩
  rw[show ϛ p θ {frame:=fr,callers:=cs,status:=.running,dying:=ν} w=_ from H7,e]
  exact e2
 | @cons _ r ds h=>
   have e:(Abx p θ fr cs ν w).bare=(match(Adi r).run p w with
    | .ok calls w=>(.go {frame:={fr with defers:=calls++ds},callers:=cs,status:=.running,dying:=ν} w:Abs)
    | .halt _ w=>.ended (.stuck "the deferred calls of a range-over-func loop have been taken" (fr.pos p)) w).bare:=by
    unfold Abx;simp only[Ao,Acn,Adz];cases(Adi r).run p w<;>rfl
   have bz:(Adi r).run p w=.ok [] {w with heap:=w.heap.setIfInBounds r (.deferred ν)}\/∃h aq,(Adi r).run p w=.halt h aq:=by
    unfold Adi;simp only[Go.getObj,bind,Ϯ,ϣ];cases ho:w.heap[r]? with
    |none=>right;exact⟨_,_,rfl⟩
    |some o=>
     cases o;case deferred calls=>
      cases calls with
      |none=>right;simp[Go.stuck,ϣ]
      |some l=>
       cases l with
       |nil=>left;simp[Go.setObj,Ϯ,ϣ,ho,pure]
       |cons x l=>exact absurd (show pH (.deferred (φ (x::l))) from trivial) (hn.get ho)
     all_goals (right;simp[Go.stuck,ϣ])
   rcases bz with hr| ⟨h',aq,hr⟩
   ·right
    rw[hr] at e;refine⟨{fr with defers:=ds},cs,_,ch,Ab2 (w':={w with heap:=w.heap.setIfInBounds r (.deferred ν)}) ?_,hm,?_,hn.set r (λh=>h)⟩
    ·rw[show ϛ p θ {frame:=fr,callers:=cs,status:=.running,dying:=ν} w=_ from H7,e]
     rfl
    ·cases b with
     |true=>rw[h1 rfl];exact .base h
     |false=>exact .call h (h2 rfl)
   ·left
    rw[hr] at e;refine⟨_,_,Ab1 (o:=.stuck "the deferred calls of a range-over-func loop have been taken" (fr.pos p)) (w':=aq) ?_⟩
    rw[show ϛ p θ {frame:=fr,callers:=cs,status:=.running,dying:=ν} w=_ from H7,e]
    rfl
def abg{p:ϑ}:∀(n:Nat) {fr:Ϙ} {cs:List Ϙ} {w:Ψ} {ch:List Abt},fr.mode=.panicking ch->oP (fr::cs)->bJ w.heap->
 ∀ {jR:Ϙ} {lM:List Ϙ} {aa:Ψ},runN p n (Ab0 fr cs w)=.next (Ab0 jR lM aa)->∃xd,jR.mode=.panicking xd:=by
 intro n;induction n with
 |zero=>
  intro fr cs w ch hm hd hn jR lM aa e;simp only[runN,Ab0,Stepped.next.injEq,Machine.mk.injEq] at e;obtain⟨_,e,_⟩:=e;simp only[Array.mk.injEq,List.cons.injEq,Acp] at e;exact⟨ch,e.1.1▸hm⟩
 |succ n ih=>
  intro fr cs w ch hm hd hn jR lM aa e;simp only[runN] at e;rcases abh (p:=p) hm hd hn with⟨o,aa,h⟩ | ⟨anT,anL,aq,anI,h,qv,fJ,dM⟩
  ·rw[h] at e;cases e
  ·rw[h] at e
   exact ih qv fJ dM e
end Go.Sim
namespace Go.Sim
open Go
section
variable {P:ϑ}{F:Array Ϣ}{C:bQ}{G:Nat->Bool}{ρ:Ren}
def aj.val{p:ϑ}{s:Sem υ}(h:aj p s):aj p (do Ϩ (Adn (<-s))):=aj.bind' h λ_=>trivial
def aj.unit{p:ϑ}{s:Sem Unit}(h:aj p s):aj p (do s;Ϩ Ado):=aj.bind' h λ_=>trivial
def aj.FL{p:ϑ}{α:Type}{t:ό}{d:Abl}(h:p.underlying t=φ d){f:Abl->Sem α}(hf:aj p (f d)):aj p (Go.underlying t>>=f):=by
 show aj p ((match p.underlying t with
  |some d=>(Ϩ d:Sem Abl)
  |none=>Go.stuck _)>>=f)
 rw[h];exact hf
def aj.convert{s d:ό}(h:QR P s d)(x:υ):aj (tw P F) (Go.convert s d x):=by
 cases h with
 |ints j k h1 h2=>
  unfold Go.convert;refine aj.FL (d:=.int j) (by rw[jH];exact h1) (aj.FL (d:=.int k) (by rw[jH];exact h2) ?_)
  cases x;case int=>exact aj.Kj _ _
  case float=>exact aj.Ki _ _ _
  case pointer q=>cases q<;>exact trivial
  all_goals exact trivial
 |bytes e h1 h2 h3=>
  unfold Go.convert;refine aj.FL (d:=.string) (by rw[jH];exact h1) (aj.FL (d:=.slice e) (by rw[jH];exact h2) ?_)
  cases x;case string=>exact aj.FL (d:=.int .u8) (by rw[jH];exact h3) (aj.Kk _ _)
  case slice q n c=>cases q<;>exact trivial
  all_goals exact trivial
def aj.callFunc(E:Env P F C G)(f:Ϫ)(x:Array υ):aj (tw P F) (Go.callFunc f x):=by
 have ent:∀fn c,F[f]?=φ fn->fn.body=φ c->(fn.name== "runtime.NumGoroutine")=χ->aj (tw P F) (Go.callFunc f x):=by
  intro fn c h1 h3 h5;have e1:(tw P F).funcs[f]?=φ fn:=h1;unfold Go.callFunc;show aj (tw P F) (match(tw P F).funcs[f]? with
   |none=>Go.stuck _
   |some fn=>_)
  simp only[e1,h5,h3,Aed,Aa2,if_false];trivial
 by_cases hf:C.ok f=θ
 ·obtain⟨fn,c,h1,h2,h3,h4,h5⟩:=E.get f hf
  exact ent fn c h1 h3 h5
 ·by_cases hh:C.hole f=θ
  ·obtain⟨fn,fn',c,c',h1,h2,h3,h4,h5,h6⟩:=E.DT f hh
   exact ent fn c h1 h3 h5
  ·rcases E.dead f (by simpa using hf) (by simpa using hh) with e| ⟨fn,e,D⟩
   ·have e1:(tw P F).funcs[f]?=ν:=e
    unfold Go.callFunc;show aj (tw P F) (match(tw P F).funcs[f]? with
     |none=>Go.stuck _
     |some fn=>_)
    simp only[e1];trivial
   ·have e1:(tw P F).funcs[f]?=φ fn:=e
    unfold Go.callFunc;show aj (tw P F) (match(tw P F).funcs[f]? with
     |none=>Go.stuck _
     |some fn=>_)
    simp only[e1,D.name,D.body,D.next,D.row,D.init,Option.isNone_none,Aa2,if_false,if_true,Bool.false_and];trivial
def aj.AT(E:Env P F C G){v v':υ}(hv:ah ρ v v')(x:Array υ):aj (tw P F) (do let d <-Ach v x;Go.invoke d.target d.args):=by
 cases hv;case func fn fn' a a' b b' h ha h1 hb h2=>
  cases h with
  |func f=>exact aj.callFunc E f _
  |yield hl=>exact aj.Y9 _ _
 case nilFunc=>
  show aj (tw P F) (Go.runtimePanic .nilDeref:Sem Next);exact aj.runtimePanic _
 case fjunk=>
  have e:(do let d <-Ach (.func (.method "") #[.nilIface] #[]) x;Go.invoke d.target d.args:Sem Next)=Go.runtimePanic .nilDeref:=by
   show Go.invoke (.fn (.method "") #[]) (#[.nilIface]++x)=_;have h0:(#[Value.nilIface]++x)[0]?=φ .nilIface:=by rw[Aaw (by simp)];rfl
   unfold Go.invoke;simp only[h0,Go.callMethod]
  rw[e];exact aj.runtimePanic _
 all_goals exact trivial
def aj.builtin{p:ϑ}{Q:ϑ}(b:Builtin)(ts:Array ό)(t:ό)(cs:Array Bool)(x:Array υ)(n:Nat)(hb:uL Q ts n b=θ):aj p (Go.builtin b ts t cs x):=by
 cases b<;>try(simp[uL] at hb;done)
 case append=>exact aj.val (aj.J6 _ _ _)
 case clear=>exact aj.val (aj.J7 _ _ _)
 case copy=>exact aj.val (aj.J8 _ _ _)
 case len=>exact aj.val (aj.J9 _ _ _)
 case max=>exact aj.val (aj.Ka _ _ _)
 case min=>exact aj.val (aj.Kb _ _ _)
variable {e e':Abp->υ}
def aj.execOp(E:Env P F C G)(o:Oper)(ho:j7 P G o=θ)(h:pL G ρ e e'):aj (tw P F) (Go.execOp e o):=by
 unfold j7 at ho;rw[Aa3] at ho;obtain⟨nO,ab⟩:=ho;have mem:∀x,x∈o.op.operands->ah ρ (e x) (e' x):=λx hx=>h x (Gm nO hx)
 unfold Go.execOp;generalize o.op=op at *;cases op<;>try(simp[iO] at ab;done)
 case move x=>exact trivial
 case assign x=>exact trivial
 case pick c a b=>exact aj.bind' (aj.asBool _) λ_=>trivial
 case alloc t=>exact aj.val (aj.Ce _ _ _)
 case box t x=>exact aj.val (aj.Cf _ _)
 case build t ps=>exact aj.val (aj.adk _ _)
 case buildSlice t n ps=>exact aj.val (aj.adn _ _ _)
 case load t a=>exact aj.val (aj.Cl _ _)
 case store t a x=>exact aj.unit (aj.Cn _ _ _)
 case binOp bop t x y yt=>exact aj.val (aj.bind' (aj.eqGuard _ _ _ _ _ _) λ_=>aj.binOp _ _ _ _)
 case unOp u t x=>
  cases u<;>try(simp[iO] at ab;done)
  refine aj.val ?_
  unfold Op.unary;cases e x<;>exact trivial
 case convert s d x=>
  refine aj.val (aj.convert (P:=P) ?_ _)
  simp only[iO,zO] at ab;split at ab
  ·exact .ints _ _ (by assumption) (by assumption)
  ·unfold zK at ab
   split at ab
   ·exact .bytes _ (by assumption) (by assumption) (by assumption)
   ·cases ab
  ·cases ab
 case nilCheck x=>
  have hx:=mem x (by simp[Adu])
  simp only;generalize e x=v at hx |-
  generalize e' x=v' at hx;cases hx;case func fn fn' _ _ _ _ hf _ _ _ _=>cases hf<;>exact trivial
  all_goals first|exact trivial|exact aj.runtimePanic _
 case makeFunc fn a b=>exact aj.val (aj.K6 _ _ _)
 case makeMap t r=>exact aj.val (aj.adL _ _)
 case makeSlice t l c=>exact aj.val (aj.adM _ _ _)
 case slice t x lo hi mx=>exact aj.val (aj.Cm _ _ _ _ _)
 case fieldAddr s x i=>exact aj.val (aj.Ci _ _ _)
 case field t x i=>exact aj.val (aj.Cg _ _ _)
 case indexAddr t x i=>exact aj.val (aj.Ck _ _ _)
 case index t x i=>exact aj.val (aj.Cj _ _ _)
 case lookup t x i ok=>exact aj.val (aj.Y6 _ _ _ _)
 case mapUpdate t m k x=>exact aj.unit (aj.Y7 _ _ _ _)
 case extract x i=>exact aj.val (aj.K5 _ _)
 case call c=>
  obtain⟨callee,args,ts⟩:=c;cases callee with
  |invoke=>simp[iO] at ab
  |value f=>exact aj.AT E (mem f (by simp[Adu,Call.operands])) _
  |builtin b=>exact aj.builtin (Q:=P) b ts _ _ _ args.size (by simpa [iO] using ab)
end
end Go.Sim
namespace Go.Sim
open Go
def Zm{p:ϑ}{fr:Ϙ}{cs:List Ϙ}{s:Sem Next}{w:Ψ}:(Ad7 p θ fr cs ν s w).bare=(match s.run p w with
 | .ok n aq=>Ad7 p θ fr cs ν (.pure n) aq
 | .halt h aq=>Ad7 p θ fr cs ν (.halt h) aq).bare:=by
 have e:s.runT p w #[]=(s.run p w,(s.runT p w #[]).2):=Prod.ext (Adz p s w #[]) rfl;unfold Ad7;simp only[if_true];rw[e];cases hr:s.run p w with
 |ok n aq=>simp only[Acn,ϧ];try(cases n<;>rfl)
 |halt h aq=>simp only[Acn,ϧ];try(cases h<;>first|rfl| (rename_i u;cases u<;>rfl))
def Rl:Next->Prop
 | .value _| .skip| .enter .. | .round .. =>True
 |_=>False
section
variable {P:ϑ}{F:Array Ϣ}{C:bQ}{S:Tl}{G:Nat->Bool}{ρ:Ren}
def PN{s s':Sem Next}(hs:ed (tw P F) P C ρ (kR C) s s'){w w':Ψ}(hw:bV C ρ w w'):∀n aq,s.run (tw P F) w=.ok n aq->Rl n:=by
 intro n aq hr;obtain⟨bH,n',_,_,_,k,_⟩:=hs ρ ρ.le_refl w {w' with tape:=w.tape,drawn:=w.drawn} #[] (bV.rel ⟨hw.dA,hw.dc,hw.fn,hw.inj,hw.obj⟩ (λ_ _=>rfl)) n aq hr
 cases k<;>trivial
def SK{b:Bool}{d d':List Abf}(h:jJ S ρ b d d'):DL b d:=by
 induction h with
 |nil=>exact .nil
 |stop=>exact .stop
 |cons hd _ ih=>cases hd;exact .cons _ ih
def XB{b:Bool}{fr aV:Ϙ}(h:eS C S ρ b fr aV){cs bh:List Ϙ}(hL:Below C S ρ b cs bh):oP (fr::cs):=by
 induction hL generalizing fr aV with
 |base=>cases h with|mk f ht hk hd hm hr hf=>exact .base (SK hd)
 |call hq aw _ ih=>
  refine .call ?_ (ih hq)
  cases h with|mk f ht hk hd hm hr hf=>exact SK hd
def CW(fr:Ϙ)(v:υ):(fr.finish v).mode=fr.mode/\(fr.finish v).defers=fr.defers:=by
 unfold Acj;split<;>exact⟨rfl,rfl⟩
def tV{fr:Ϙ}{cs:List Ϙ}(h:fr.mode=.run):Plain (aO fr cs):=⟨⟨fr,cs,rfl⟩,λch e=>by simp only[h] at e;cases e⟩
def IM{fr:Ϙ}{cs:List Ϙ}(h:fr.mode=.returning):Plain (aO fr cs):=⟨⟨fr,cs,rfl⟩,λch e=>by simp only[h] at e;cases e⟩
def Lq(E:Env P F C G){s:Sem Next}(hs:aj (tw P F) s){w:Ψ}(hn:bJ w.heap){fr:Ϙ}{cs:List Ϙ}(hm:fr.mode=.run)(hd:oP (fr::cs))
 (vz:∀n aq,s.run (tw P F) w=.ok n aq->Rl n):Good (λw=>Ad7 (tw P F) θ fr cs ν s w) w:=by
 refine Good.congr (λw=>Zm) ?_
 refine Good.ue hs (k:=λr=>match r with
  | .ok n aq=>Ad7 (tw P F) θ fr cs ν (.pure n) aq
  | .halt h aq=>Ad7 (tw P F) θ fr cs ν (.halt h) aq) hn (λn aq hr dM=>?_) λh aq hr ho dM=>?_
 ·have Vf:=vz n aq hr
  refine Good.congr (g:=λw=>match n with
   | .value v=>.go (aO (fr.finish v) cs) w
   | .skip=>.go (aO (fr.finish ω) cs) w
   | .enter f args=>.go (aO (Aci (tw P F) f args (match fr.todo with| .call _ θ _ _::_=>.wrapped|_=>.normal)) (fr::cs)) w
   | .round l f tmps a b=>.go (aO (Frame.round l f tmps a b .normal) (fr::cs)) w
   |_=>.ended (.stuck "" "") w) (λw=>?_) ?_
  ·unfold Ad7
   simp only[if_true,ϧ,Acn];cases n<;>first|rfl|exact Vf.elim
  ·cases n<;>first|exact Vf.elim|skip
   case value v=>exact Good.pure (tV ((CW fr v).1.trans hm)) dM
   case skip=>exact Good.pure (tV ((CW fr ω).1.trans hm)) dM
   case enter f x=>exact Good.pure (tV rfl) dM
   case round l f tm a b=>exact Good.pure (tV rfl) dM
 ·cases h<;>first|exact ho.elim|skip
  case panic v=>
   obtain⟨ch,xK⟩:=raise_mode fr [{v,recovered:=χ}];refine Good.congr (g:=λw=>.go (aO (fr.raise [{v,recovered:=χ}]) cs) w) (λw=>?_) (Good.rA xK ?_ dM)
   ·unfold Ad7
    simp only[if_true,ϧ,Acn]
   ·have:(fr.raise [{v,recovered:=χ}]).defers=fr.defers:=by unfold Acl;split<;>rfl
    cases hd with
    |base h=>exact .base (this▸h)
    |call h t=>exact .call (this▸h) t
  case stuck why=>
   refine Good.congr (g:=λw=>.ended (.stuck why (fr.pos (tw P F))) w) (λw=>?_) Good.ended
   unfold Ad7;simp only[if_true,ϧ,Acn]
  case unsupported u=>
   by_cases hu:∃g,u=.initOrder g
   ·obtain⟨g,rfl⟩:=hu
    refine Good.congr (g:=λw=>early (tw P F) fr cs ν g w) (λw=>?_) ?_
    ·unfold Ad7
     simp only[if_true,ϧ,Acn]
    ·refine Good.congr (g:=λw=>.ended (.unsupported (.initOrder g) (fr.pos (tw P F))) w) (λw=>?_) Good.ended
     unfold early;simp only[E.ahead,E.steps g,Aa4,Aa2,if_false]
   ·refine Good.congr (g:=λw=>.ended (.unsupported u (fr.pos (tw P F))) w) (λw=>?_) Good.ended
    unfold Ad7;simp only[if_true,ϧ,Acn];cases u<;>first|rfl|exact(hu ⟨_,rfl⟩).elim
def Good.Fv{p:ϑ}{α:Type}{s:Sem α}(hs:aj p s){fn:Ϫ}{q:ϑ}{k:Abu α->Abs}{w:Ψ}(hn:bJ w.heap)
 (dh:∀a aq,s.run p w=.ok a aq->bJ aq.heap->Good (λw=>k (.ok a w)) aq)
 (hh:∀h aq,s.run p w=.halt h aq->wR h->bJ aq.heap->Good (λw=>k (.halt h w)) aq):Good (λw=>Acm (seen q fn (s.runT p w #[]).2) (k (s.runT p w #[]).1)) w:=by
 refine Good.congr (g:=λw=>k (s.run p w)) (λw=>?_) (Good.ue hs hn dh hh)
 rw[Acn,Adz]
def ahO{w:Ψ}(hn:bJ w.heap){fr aV:Ϙ}(b7:eS C S ρ χ fr aV){cs bh:List Ϙ}(hL:Below C S ρ χ cs bh){v:υ}(m:Bool):Good (λw=>Abv (tw P F) m fr cs ν v w) w:=by
 cases b7 with
 |mk f ht hk hd hm hr hf=>
  cases hL with
  |call hq aw hL=>
   cases hq with
   |mk f ht hk hd hm hr hf=>
    refine Good.pure (g:=aO (Acj _ v) _) ?_ hn
    cases hm with
    |run=>exact tV (CW _ _).1
    |returning=>exact IM (CW _ _).1
def OM{w w':Ψ}(hn:bJ w.heap){b:Bool}{fr aV:Ϙ}(b7:eS C S ρ b fr aV){cs bh:List Ϙ}(hL:Below C S ρ b cs bh)(m:Bool)(j:Option ϖ):Good (λw=>Ev (tw P F) m fr cs w j) w:=by
 have gw:=b7;cases b7 with
 | @mk f t t' ht k k' hk d d' hd md hm ro iS hr eT hf=>
   unfold Ev;cases hr with
   |none=>
    simp only;split
    ·exact Good.pure (IM rfl) hn
    ·exact Good.pure (IM rfl) hn
    ·exact Good.ended
   |some hl=>
    have hb:b=χ:=by
     cases b with
     |false=>rfl
     |true=>exact absurd (hf.base rfl) (by simp)
    subst hb;simp only;refine Good.Fv (aj.Y4 _ _) (k:=λr=>match r with
     | .ok v w=>Abv (tw P F) m _ cs ν v w
     | .halt _ w=>.ended (.stuck "range over a function: no such loop" _) w) hn (λa aq _ dM=>ahO dM gw hL m) λ_ _ _ _ _=>Good.ended
def aco(E:Env P F C G)(hG:∀g,G g=θ->ρ g g){w w':Ψ}(hn:bJ w.heap)(hw:bV C ρ w w'){q:Bool}{fr aV:Ϙ}(b7:eS C S ρ q fr aV)(qw:fr.mode=.run){cs bh:List Ϙ}(hL:Below C S ρ q cs bh)(m:Bool):
 Good (λw=>Ad8 (tw P F) m θ fr cs ν w) w:=by
 have gw:=b7;have aQ:=XB b7 hL;have eC:gY C ρ w {w' with tape:=w.tape,drawn:=w.drawn}:=bV.rel ⟨hw.dA,hw.dc,hw.fn,hw.inj,hw.obj⟩ (λ_ _=>rfl)
 cases b7 with
 | @mk f t t' ht k k' hk d d' hd md hm ro iS hr eT hf=>
   simp only at qw;subst qw;have cl:∀ {c},C.clean c->cr P G c=θ:=λh=>(E.clean _).1 h
   have lc:∀ {c},cr P G c=θ->C.clean c:=λh=>(E.clean _).2 h
   have pu:∀ {k₁:List Item} {d:List Abf},Good (λw=>.go (aO ⟨f,t,k₁,d,.run,.normal,ro⟩ cs) w) w:=Good.pure (tV rfl) hn
   have ev:∀ {k k':List Item} {d d':List Abf} {r r':Option Nat},pL G ρ (Ack ⟨f,t,k,d,.run,.normal,r⟩) (Ack ⟨f,t',k',d',.run,eT,r'⟩):=Fh hG ht
   cases hk with
   |nil=>exact OM (w':=w') hn gw hL m ν
   |stop=>exact Good.ended
   | @cons _ i i' k k' hi hk=>
     cases hi with
     |inBlock id=>exact pu
     |inScope c hc=>exact pu
     |inLoop c hc=>exact pu
     |inRangeFunc hl=>exact Good.ended
     |beginRound=>
      refine Lq E (aj.unit ?_) hn rfl aQ ?_
      ·cases hr with
       |none=>exact trivial
       |some hl=>exact aj.Y2 _
      ·refine PN (P:=P) (C:=C) (ρ:=ρ) (Sim.Ql (s':=iS.elim (Go.stuck "beginRound: no round") Adf) ?_) hw
       cases hr with
       |none=>exact Sim.stuck
       |some hl=>exact Sim.beginRound hl
     |endRangeFunc hl=>
      refine Good.Fv (aj.Y3 _) (k:=λr=>match r with
       | .ok jump w=>.go (aO ⟨f,t,(jump.map Item.code).toList++k,d,.run,.normal,ro⟩ cs) w
       | .halt (.panic v) w=>.go (aO ((⟨f,t,_,d,.run,.normal,ro⟩:Ϙ).raise [{v,recovered:=χ}]) cs) w
       | .halt _ w=>.ended (.stuck "range over a function: no such loop" _) w) hn (λa aq _ dM=>Good.pure (tV rfl) dM) λh aq _ ho dM=>?_
      cases h with
      |panic v=>
       refine Good.rA (fr:=(⟨f,t,_,d,.run,.normal,ro⟩:Ϙ).raise [{v,recovered:=χ}]) (ch:=[{v,recovered:=χ}]) rfl ?_ dM
       cases aQ with
       |base h=>exact .base h
       |call h t=>exact .call h t
      |_=>exact Good.ended
     |inRegion id dr ops todo hc=>
      cases todo with
      |nil=>exact pu
      |cons i rest=>
       have ya:ops.all (j7 P G)=θ:=cl hc;unfold Ad8;simp only;split
       ·unfold stepG.oper
        simp only[Frame.oper?];cases ho:ops[i]? with
        |none=>exact Good.ended
        |some o=>
         have mB:o∈ops:= Aax ho;have k8:j7 P G o=θ:=by simpa using Aal.1 ya o mB
         have nH:∀q,o.op≠ .defer q:=λq e=>by simp[j7,iO,e] at k8
         have he:=ev (k:=.inRegion ops (i::rest)::k) (k':=.inRegion ops (i::rest)::k') (d:=d) (d':=d') (r:=ro) (r':=iS);have:=Lq E (aj.execOp E o k8 he) hn rfl aQ (PN (ed.execOp E o k8 he) hw);simp only;cases hr with
         |none=>exact this
         |some hl=>
          cases ab:o.op<;>first|exact absurd ab (nH _) |exact this
       ·exact Good.pure (tV (CW _ _).1) hn
     |cut hc=>
      rcases lG.SG hc with rfl| ⟨x,y,y',rfl,rfl,ha,hb⟩
      ·exact Good.ended
      ·exact pu
     |code cd hc=>
      have fB:=cl hc;cases cd with
      |skip=>exact pu
      |label l=>exact pu
      |ret=>exact OM (w':=w') hn gw hL m (φ .ret)
      |seq x y=>exact pu
      |cond x y z=>
       unfold Ad8;simp only;split
       ·exact pu
       ·exact Good.ended
      |block id x=>exact pu
      |loop x=>exact pu
      |scope x=>exact pu
      |exit id=>
       have:=OM (P:=P) (F:=F) (w':=w') hn gw hL m (φ (.exit id));unfold Ad8;simp only;cases exitTo id k with
       |none=>exact this
       |some k₁=>exact pu
      |region id ops dr=>
       unfold Ad8;simp only;cases dr with
       |false=>exact pu
       |true=>
        simp only[Aa4,Aa2,if_false];refine Good.ue (p:=tw P F) (s:=Go.choose (.order f id)) (aj.choose _) (k:=λr=>match r with
         | .ok n w=>.go (aO ⟨f,t,.inRegion ops (Region.schedule ((tw P F).follows .mixedOrders) ops n)::k,d,.run,.normal,ro⟩ cs) w
         | .halt _ w=>.ended (.stuck "order" ((⟨f,t,.code (.region id ops θ)::k,d,.run,.normal,ro⟩:Ϙ).pos (tw P F))) w) hn (λa aq _ dM=>?_) (λh aq _ _ _=>?_)
        ·exact Good.pure (tV rfl) dM
        ·exact Good.ended
      |rangeFunc g ps x y=>
       simp only[cr,Aa3] at fB;refine Good.Fv (aj.Y5 _ _ _ _ _ _) (k:=λr=>match r with
        | .ok (l,mark) w=>Ad7 (tw P F) θ ⟨f,t,.inRangeFunc l::k,mark++d,.run,.normal,ro⟩ cs ν
          (do let d <-resolve (Ack ⟨f,t,.inRangeFunc l::k,mark++d,.run,.normal,ro⟩) {callee:=.value g,args:=#[.const (.func (.yield l) #[] #[])],argTypes:=#[]} 0;Go.invoke d.target d.args) w
        | .halt _ w=>.ended (.stuck "range over a function: no such loop" _) w) hn (λa aq bz dM=>?_) λ_ _ _ _ _=>Good.ended
       obtain⟨bH,y2,mo,eD,k1,⟨hl,Ay⟩,k3,k4,k5⟩:=Sim.enterLoop (P:=P) (F:=F) (C:=C) f ht ps (lc fB.1.2) (lc fB.2) hr ρ ρ.le_refl w {w' with tape:=w.tape,drawn:=w.drawn} #[] eC a aq bz
       obtain⟨l1,Iq⟩:=a;obtain⟨yB,Ir⟩:=y2;simp only at hl Ay |-
       have he:pL G bH (Ack ⟨f,t,.inRangeFunc l1::k,Iq++d,.run,.normal,ro⟩) (Ack ⟨f,t',.inRangeFunc yB::k',Ir++d',.run,eT,iS⟩):=Fh (λg hg=>k4.le _ _ (hG g hg)) (ht.mono k4.le)
       have hy:aP bH #[Value.func (.yield l1) #[] #[]] #[Value.func (.yield yB) #[] #[]]:=bU.one (R:=ah bH) (ah.func (.yield hl) rfl (by simp) rfl (by simp))
       refine Lq E ?_ dM rfl ?_ (PN (Sim.lx (Sim.AT E (he g fB.1.1) (by simpa [Ack] using hy))) k3.core)
       ·exact aj.AT E (he g fB.1.1) _
       ·have my:eS C S bH q ⟨f,t,.inRangeFunc l1::k,Iq++d,.run,.normal,ro⟩ ⟨f,t',.inRangeFunc yB::k',Ir++d',.run,eT,iS⟩:=.mk f (ht.mono k4.le) (.cons (.inRangeFunc hl) (hk.mono k4.le)) (jJ.app Ay (hd.mono k4.le)) .run (by
         cases hr with
         |none=>exact .none
         |some h=>exact .some (k4.le _ _ h)) hf
        exact XB my (hL.mono k4.le)
      |goto l=>simp[cr] at fB
      |refuse s=>simp[cr] at fB
def amB(E:Env P F C G){w w':Ψ}(hn:bJ w.heap)(hw:bV C ρ w w'){b:Bool}{fr aV:Ϙ}(b7:eS C S ρ b fr aV)(qw:fr.mode=.returning){cs bh:List Ϙ}(hL:Below C S ρ b cs bh)(m:Bool):
 Good (λw=>Abx (tw P F) m fr cs ν w) w:=by
 have gw:=b7;cases b7 with
 | @mk f t t' ht k k' hk d d' hd md hm ro iS hr eT hf=>
   simp only at qw;subst qw;have DY:ro=ν:=by
    rcases Aee ro with e| ⟨x,e⟩
    ·exact e
    ·exact absurd (hf.round (by simp[e])) (by simp)
   subst DY;cases hd with
   |nil=>
    obtain⟨fn,cd,h1,h2,h3,h4,h5⟩:=E.get f (hf.ok rfl rfl);have e1:(tw P F).funcs[f]?=φ fn:=h1;unfold Abx;simp only[e1];refine Good.Fv (aj.results _ _) (k:=λr=>match r with
     | .ok v w=>Abv (tw P F) m _ cs ν v w
     | .halt (.stuck s) w=>.ended (.stuck s _) w
     | .halt _ w=>.ended (.stuck "return: the result variables cannot be read" _) w) hn (λa aq _ dM=>ahO dM gw hL m) λh _ _ _ _=>?_
    cases h<;>exact Good.ended
   |stop=>
    refine Good.congr (g:=λw=>.ended (.stuck "call: a method without a receiver" ((⟨f,t,k,[],.returning,.normal,ν⟩:Ϙ).pos (tw P F))) w) (λw=>?_) Good.ended
    unfold Abx Abw cQ;simp[Go.invoke,Go.stuck,ϧ,bind,Ϯ]
   |cons hi hd=>
    cases hi with
    | @collected r r' hb=>
      refine Good.Fv (aj.Y8 _) (k:=λr=>match r with
       | .ok calls w=>.go {frame:={ (⟨f,t,k,_,.returning,.normal,ν⟩:Ϙ) with defers:=calls++_},callers:=cs,status:=.running,dying:=ν} w
       | .halt _ w=>.ended (.stuck "the deferred calls of a range-over-func loop have been taken" _) w) hn (λa aq _ dM=>Good.pure (IM rfl) dM) λ_ _ _ _ _=>Good.ended
def alU(E:Env P F C G)(hG:∀g,G g=θ->ρ g g){w w':Ψ}(hn:bJ w.heap)(hw:bV C ρ w w'){q:Bool}{fr aV:Ϙ}(b7:eS C S ρ q fr aV){cs bh:List Ϙ}(hL:Below C S ρ q cs bh):
 Good (λw=>ϛ (tw P F) θ (aO fr cs) w) w:=by
 have gw:=b7;cases b7 with
 | @mk f t t' ht k k' hk d d' hd md hm ro iS hr eT hf=>
   cases hm with
   |run=>exact aco E hG hn hw gw rfl hL θ
   |returning=>exact amB E hn hw gw rfl hL θ
end
end Go.Sim
namespace Go.Sim
open Go
inductive Safe(p:ϑ)(Q:ώ->Ψ->Prop):ώ->Ψ->Prop
 |stop {g:ώ} {w:Ψ} (h:Q g w):Safe p Q g w
 |step {g:ώ} {w:Ψ} (nx:Tape->ώ×Ψ) (h:∀T:Tape,(∃es,ϛ p θ g (aZ w T)=.go (nx T).1 (nx T).2 es)/\Plain (nx T).1) (hs:∀T,Safe p Q (nx T).1 (nx T).2):Safe p Q g w
section
variable {P:ϑ}{F:Array Ϣ}{C:bQ}{S:Tl}{G:Nat->Bool}
def Inv(C:bQ)(S:Tl)(G:Nat->Bool)(g:ώ)(w:Ψ):Prop:=
 bJ w.heap/\∃(ρ:Ren) (b:Bool) (fr aV:Ϙ) (cs bh:List Ϙ) (w':Ψ),g=aO fr cs/\(∀g,G g=θ->ρ g g)/\eS C S ρ b fr aV/\Below C S ρ b cs bh/\bV C ρ w w'
def bV.left{ρ:Ren}{w w' aa:Ψ}(h:bV C ρ w w')(e:aa.heap=w.heap):bV C ρ aa w':=⟨by rw[e];exact h.dA,h.dc,h.fn,h.inj,by rw[e];exact h.obj⟩
def bV.right{ρ:Ren}{w w' aa:Ψ}(h:bV C ρ w w')(e:aa.heap=w'.heap):bV C ρ w aa:=⟨h.dA,by rw[e];exact h.dc,h.fn,h.inj,by rw[e];exact h.obj⟩
def Inv.aZ{g:ώ}{w:Ψ}(h:Inv C S G g w)(T:Tape):Inv C S G g (aZ w T):=by
 obtain⟨hn,ρ,b,fr,aV,cs,bh,w',e,hG,b7,hL,hw⟩:=h;exact⟨hn,ρ,b,fr,aV,cs,bh,w',e,hG,b7,hL,hw.left rfl⟩
def Inv.C8(E:Env P F C G){g:ώ}{w:Ψ}(h:Inv C S G g w):Good (λw=>ϛ (tw P F) θ g w) w:=by
 obtain⟨hn,ρ,b,fr,aV,cs,bh,w',e,hG,b7,hL,hw⟩:=h;subst e;exact alU E hG hn hw b7 hL
def Inv.step(E:Env P F C G)(hh:∀f,C.hole f=χ){g:ώ}{w:Ψ}(h:Inv C S G g w){dG:ώ}{aa:Ψ}{es:Array ϥ}(e:ϛ (tw P F) θ g w=.go dG aa es)(hp:Plain dG):Inv C S G dG aa:=by
 have gx:=h.C8 E;have qx:bJ aa.heap:=by
  have:=gx.cls;simp only[e] at this;cases this with
  |plain h hn=>exact hn
  |rA hm hd hn=>exact hn
 obtain⟨hn,ρ,b,fr,aV,cs,bh,w',rfl,hG,b7,hL,hw⟩:=h;have eC:gY C ρ w {w' with tape:=w.tape,drawn:=w.drawn}:=(hw.right (aa:={w' with tape:=w.tape,drawn:=w.drawn}) rfl).rel λ_ _=>rfl
 obtain⟨bH,eZ,aA,es',h1,h2,h3,h4,h5⟩:=Xx E hG eC b7 hL θ θ θ .running .running ν ν dG aa es e hp;cases h2 with
 |inside my nB=>exact⟨qx,bH,_,_,_,_,_,aA,rfl,λg hg=>h4.le _ _ (hG g hg),my,nB,h3⟩
 |hole f hf=>rw[hh f] at hf;cases hf
def ahg{fr aV:Ϙ}{cs bh:List Ϙ}{w w':Ψ}(h:Ab0 fr cs w=Ab0 aV bh w'):fr=aV/\cs=bh/\w=w':=by
 simp only[Ab0,Machine.mk.injEq] at h;obtain⟨h1,h2,_⟩:=h;simp only[Array.mk.injEq,List.cons.injEq,Acp] at h2;exact⟨h2.1.1,h2.1.2.1,h1⟩
def PD(E:Env P F C G)(hh:∀f,C.hole f=χ){Q:ώ->Ψ->Prop}(hQ:∀g w T,Q g w->Q g (aZ w T))(Pp:∀g w,Q g w->∀ch,g.frame.mode≠ .panicking ch)
 {zW:ώ}{aL:Ψ}(hi:Inv C S G zW aL)
 (afw:∀T:Tape,∃n jR lM aa,runN (tw P F) n (Ab0 zW.frame zW.callers (aZ aL T))=.next (Ab0 jR lM aa)/\Q (aO jR lM) aa):Safe (tw P F) Q zW aL:=by
 apply Aa5;intro adZ
 let St:=ώ×Ψ
 let zg:St->Prop:=λx=>Inv C S G x.1 x.2/\¬Safe (tw P F) Q x.1 x.2
 have ae:∀x:St,zg x->∃T:Tape,∀y:St,(∃es,ϛ (tw P F) θ x.1 (aZ x.2 T)=.go y.1 y.2 es)->Plain y.1->¬Safe (tw P F) Q y.1 y.2:=by
  intro x hx;apply Aa5;intro bj;apply hx.2;have nO:∀T:Tape,∃y:St,(∃es,ϛ (tw P F) θ x.1 (aZ x.2 T)=.go y.1 y.2 es)/\Plain y.1/\Safe (tw P F) Q y.1 y.2:=by
   intro T;apply Aa5;intro h;exact bj ⟨T,λy h1 h2 h3=>h ⟨y,h1,h2,h3⟩⟩
  exact .step (λT=>Aa6 (nO T)) (λT=>⟨(Aa7 (nO T)).1,(Aa7 (nO T)).2.1⟩) (λT=>(Aa7 (nO T)).2.2)
 have ak:∀x:St,∃T:Tape,zg x->∀y:St,(∃es,ϛ (tw P F) θ x.1 (aZ x.2 T)=.go y.1 y.2 es)->Plain y.1->¬Safe (tw P F) Q y.1 y.2:=by
  intro x;by_cases hx:zg x
  ·obtain⟨T,h⟩:=ae x hx
   exact⟨T,λ_=>h⟩
  ·exact⟨λ_ _=>0,λh=>absurd h hx⟩
 obtain⟨τ,hτ⟩:∃τ:St->Tape,∀x,zg x->∀y:St,(∃es,ϛ (tw P F) θ x.1 (aZ x.2 (τ x))=.go y.1 y.2 es)->Plain y.1->¬Safe (tw P F) Q y.1 y.2:=
  ⟨λx=>Aa6 (ak x),λx=>Aa7 (ak x)⟩
 let Live:St->Prop:=λx=>∃y:St,(∃es,ϛ (tw P F) θ x.1 (aZ x.2 (τ x))=.go y.1 y.2 es)/\Plain y.1
 obtain⟨nx,NL,af5⟩:∃nx:St->St,(∀x,Live x->(∃es,ϛ (tw P F) θ x.1 (aZ x.2 (τ x))=.go (nx x).1 (nx x).2 es)/\Plain (nx x).1)/\∀x,¬Live x->nx x=x:=by
  refine⟨λx=> @dite _ (Live x) (Aa8 _) (λh=>Aa6 h) (λ_=>x),λx h=>?_,λx h=>?_⟩
  ·simp only[h,dite_true];exact Aa7 h
  ·simp only[h,dite_false]
 let sq:Nat->St:=λi=>Nat.rec (zW,aL) (λ_ x=>nx x) i
 have sq0:sq 0=(zW,aL):=rfl;have Jc:∀i,sq (i+1)=nx (sq i):=λ_=>rfl
 have afW:∀x:St,zg x->Good (λw=>ϛ (tw P F) θ x.1 w) (aZ x.2 (τ x)):=λx hx=>(hx.1.aZ (τ x)).C8 E
 have Dm:∀i,zg (sq i):=by
  intro i;induction i with
  |zero=>exact⟨hi,adZ⟩
  |succ i ih=>
   rw[Jc];by_cases hl:Live (sq i)
   ·obtain⟨⟨es,h1⟩,h2⟩:=NL _ hl
    exact⟨(ih.1.aZ (τ (sq i))).step E hh h1 h2,hτ _ ih _ ⟨es,h1⟩ h2⟩
   ·rw[af5 _ hl];exact ih
 have Ni:∀i,(sq i).2.drawn<=(sq (i+1)).2.drawn:=by
  intro i;rw[Jc];by_cases hl:Live (sq i)
  ·obtain⟨⟨es,h1⟩,h2⟩:=NL _ hl
   have:=(afW _ (Dm i)).drawn;simp only[h1,tk] at this;exact this
  ·rw[af5 _ hl];exact ϊ _
 have NH:∀i j,i<=j->(sq i).2.drawn<=(sq j).2.drawn:=by
  intro i j h;induction h with
  |refl=>exact ϊ _
  |step _ ih=>exact Ϥ ih (Ni _)
 let At:Nat->Nat->Prop:=λj i=>(sq i).2.drawn<=j/\j<(sq (i+1)).2.drawn
 have IQ:∀j i k,At j i->At j k->i=k:=by
  intro j i k h1 h2;rcases Nat.lt_trichotomy i k with h|h|h
  ·have:=NH (i+1) k h;have:=h1.2;have:=h2.1;omega
  ·exact h
  ·have:=NH (k+1) i h;have:=h2.2;have:=h1.1;omega
 let T:Tape:=λj q=> @dite _ (∃i,At j i) (Aa8 _) (λh=>τ (sq (Aa6 h)) j q) λ_=>
  @dite _ (∃i,¬Live (sq i)) (Aa8 _) (λh=>τ (sq (Aa6 h)) j q) λ_=>0
 have xC:∀i j q,At j i->T j q=τ (sq i) j q:=by
  intro i j q h;have hex:∃i,At j i:=⟨i,h⟩
  show @dite _ (∃i,At j i) (Aa8 _) _ _=_
  simp only[hex,dite_true];rw[IQ j _ i (Aa7 hex) h]
 have Nc:∀i,¬Live (sq i)->∀k,i<=k->sq k=sq i:=by
  intro i hl k hk;induction hk with
  |refl=>rfl
  |step _ ih=>rw[Jc,ih,af5 _ hl]
 have MH:∀i j q,¬Live (sq i)->(sq i).2.drawn<=j->T j q=τ (sq i) j q:=by
  intro i j q hl hj;have bj:¬ ∃k,At j k:=by
   rintro⟨k,h1,h2⟩;rcases Nat.lt_or_ge k i with h|h
   ·have:=NH (k+1) i h;omega
   ·have e1:=Nc i hl (k+1) (by omega)
    rw[e1] at h2;omega
  have hex:∃i,¬Live (sq i):=⟨i,hl⟩
  show @dite _ (∃i,At j i) (Aa8 _) _ _=_
  simp only[bj,dite_false,hex,dite_true];have hc:=Aa7 hex;have:sq (Aa6 hex)=sq i:=by
   rcases Nat.le_total i (Aa6 hex) with h|h
   ·exact Nc i hl _ h
   ·exact(Nc _ hc _ h).symm
  rw[this]
 have Oa:∀i,∃fr cs,(sq i).1=aO fr cs:=by
  intro i;obtain⟨_,_,_,fr,_,cs,_,_,e,_⟩:=(Dm i).1;exact⟨fr,cs,e⟩
 have ae0:∀i,Live (sq i)->step (tw P F) (Ab0 (sq i).1.frame (sq i).1.callers (aZ (sq i).2 T))=.next (Ab0 (sq (i+1)).1.frame (sq (i+1)).1.callers (aZ (sq (i+1)).2 T)):=by
  intro i hl;obtain⟨⟨es,h1⟩,h2⟩:=NL _ hl;rw[<-Jc] at h1 h2;have hg:=afW _ (Dm i);have rK:=hg.loc T (λj q a b=>by
   simp only[h1,tk] at b;exact xC i j q ⟨a,b⟩)
  simp only[h1] at rK;obtain⟨fr,cs,e⟩:=Oa i;obtain⟨⟨Tj,uQ,e1⟩,_⟩:=h2;rw[e] at rK |-
  rw[e1] at rK |-
  exact Ab2 rK
 have ael:∀i,¬Live (sq i)->(∃o aa,step (tw P F) (Ab0 (sq i).1.frame (sq i).1.callers (aZ (sq i).2 T))=.ended o aa)\/∃jR lM aa ch,step (tw P F) (Ab0 (sq i).1.frame (sq i).1.callers (aZ (sq i).2 T))=.next (Ab0 jR lM aa)/\jR.mode=.panicking ch/\oP (jR::lM)/\bJ aa.heap:=by
  intro i hl;have hg:=afW _ (Dm i);have rK:=hg.loc T (λj q a _=>MH i j q hl a)
  have T9:=hg.cls;obtain⟨fr,cs,e⟩:=Oa i;generalize hs:ϛ (tw P F) θ (sq i).1 (aZ (sq i).2 (τ (sq i)))=s at rK T9;cases T9 with
  |plain h hn=>exact absurd ⟨(_,_),⟨_,hs⟩,h⟩ hl
  | @ended o w es=>
    left;rw[e] at rK |-
    exact⟨o,_,Ab1 rK⟩
  | @rA Tj uQ w1 es ch hm hd hn=>
    right;rw[e] at rK |-
    exact⟨Tj,uQ,aZ w1 T,ch,Ab2 rK,hm,hd,hn⟩
 have Vb:∀n,(∀i,i<n->Live (sq i))->runN (tw P F) n (Ab0 (sq 0).1.frame (sq 0).1.callers (aZ (sq 0).2 T))=.next (Ab0 (sq n).1.frame (sq n).1.callers (aZ (sq n).2 T)):=by
  intro n hl;induction n with
  |zero=>rfl
  |succ n ih=>
   rw[runN_add,ih λi hi=>hl i (by omega)]
   simp only[runN,ae0 n (hl n (by omega))]
 obtain⟨n,jR,lM,aa,bz,hq⟩:=afw T;have bz:runN (tw P F) n (Ab0 (sq 0).1.frame (sq 0).1.callers (aZ (sq 0).2 T))=.next (Ab0 jR lM aa):=bz;have hnQ:∀i,Q (aO (sq i).1.frame (sq i).1.callers) (aZ (sq i).2 T)->False:=by
  intro i h;apply(Dm i).2;obtain⟨fr,cs,e⟩:=Oa i;have:=hQ _ _ (sq i).2.tape h;rw[e] at this |-
  exact .stop this
 by_cases nO:∀i,i<n->Live (sq i)
 ·have:=Vb n nO
  rw[this] at bz;simp only[Stepped.next.injEq] at bz;obtain⟨e1,e2,e3⟩:=ahg bz;subst e1 e2 e3;exact hnQ n hq
 ·
  have:∃i,i<n/\¬Live (sq i)/\∀k,k<i->Live (sq k):=by
   have hex:∃i,i<n/\¬Live (sq i):=by
    apply Aa5;intro h;exact nO λi hi=>Aa5 λhl=>h ⟨i,hi,hl⟩
   obtain⟨i,hi⟩:=hex;induction i using Nat.strongRecOn with
   |_ i ih=>
    by_cases hk:∃k,k<i/\¬Live (sq k)
    ·obtain⟨k,h1,h2⟩:=hk
     exact ih k h1 ⟨by omega,h2⟩
    ·exact⟨i,hi.1,hi.2,λk qu=>Aa5 λhl=>hk ⟨k,qu,hl⟩⟩
  obtain⟨i,dL,hl,MR⟩:=this;have h1:=Vb i MR;obtain⟨m,rfl⟩:∃m,n=i+(m+1):=⟨n - i - 1,by omega⟩
  have AH:runN (tw P F) (i+(m+1)) (Ab0 (sq 0).1.frame (sq 0).1.callers (aZ (sq 0).2 T))=.next (Ab0 jR lM aa):=bz;rw[runN_add,h1] at AH;simp only[runN] at AH;rcases ael i hl with⟨o,w2,h2⟩ | ⟨iJ,jQ,w2,ch,h2,hm,hd,hn⟩
  ·rw[h2] at AH;cases AH
  ·rw[h2] at AH
   obtain⟨iF,rM⟩:=abg m hm hd hn AH;exact Pp _ _ hq iF rM
end
end Go.Sim
namespace Go.Sim
open Go
structure aaa where
 O:Nat->Prop
 R:Nat->Prop
def aaa.has(M:aaa)(b:Nat):Prop:=M.O b\/M.R b
def aaa.grow(M:aaa)(w w':Ψ):aaa:=⟨λb=>M.O b\/(w.heap.size<=b/\b<w'.heap.size),M.R⟩
structure bN(M:aaa)(w w':Ψ):Prop where
 size:w.heap.size<=w'.heap.size
 kept:∀b,M.has b->w'.heap[b]?=w.heap[b]?
 tape:w'.tape=w.tape
 os:w'.os=w.os
 e:w'.output=w.output
def bN.refl(M:aaa)(w:Ψ):bN M w w:=⟨ϊ _,λ_ _=>rfl,rfl,rfl,rfl⟩
def bN.trans{M:aaa}{w aa aq:Ψ}(h:bN M w aa)(k:bN M aa aq):bN M w aq:=
 ⟨Ϥ h.size k.size,λb hb=>(k.kept b hb).trans (h.kept b hb),k.tape.trans h.tape,k.os.trans h.os,k.e.trans h.e⟩
def bN.of_heap{M:aaa}{w w':Ψ}(h:w'.heap=w.heap)(ht:w'.tape=w.tape)(ho:w'.os=w.os)(hp:w'.output=w.output):bN M w w':=⟨by rw[h];exact ϊ _,λ_ _=>by rw[h],ht,ho,hp⟩
def wK(M:aaa)(e:ϥ):Prop:=
 (∃b:Nat,(e.loc=.obj b\/∃c:ϕ,e.loc=.cell c/\c.block=b)/\e.sync=χ/\M.has b/\(e.write=θ->M.O b))\/e.loc=.mark .noRoom\/∃f,e.loc=.mark (.extern f)
structure eO(M:aaa)(w w':Ψ)(es:Array ϥ):Prop where
 size:w.heap.size<=w'.heap.size
 kept:∀b,b<w.heap.size->¬M.O b->w'.heap[b]?=w.heap[b]?
 tape:w'.tape=w.tape
 os:w'.os=w.os
 e:w'.output=w.output
 ev:∀e∈es,wK (M.grow w w') e
def eO.idle(M:aaa)(w:Ψ):eO M w w #[]:=⟨ϊ _,λ_ _ _=>rfl,rfl,rfl,rfl,by simp⟩
inductive Walk(P:ϑ)(main:Bool)(Stop:aaa->ώ->Ψ->Prop):aaa->ώ->Ψ->Prop
 |stop {M:aaa} {g:ώ} {w:Ψ} (h:∀aa,bN M w aa->Stop M g aa):Walk P main Stop M g w
 |step {M:aaa} {g:ώ} {w:Ψ} (run:g.status=.running) (nx:Ψ->ώ×Ψ×Array ϥ)
   (h:∀aa,bN M w aa->ϛ P main g aa=.go (nx aa).1 (nx aa).2.1 (nx aa).2.2/\eO M aa (nx aa).2.1 (nx aa).2.2)
   (hs:∀aa,bN M w aa->Walk P main Stop (M.grow aa (nx aa).2.1) (nx aa).1 (nx aa).2.1):Walk P main Stop M g w
def Walk.rely{P:ϑ}{main:Bool}{Stop:aaa->ώ->Ψ->Prop}{M:aaa}{g:ώ}{w aa:Ψ}(h:Walk P main Stop M g w)(k:bN M w aa):Walk P main Stop M g aa:=by
 cases h with
 |stop h=>exact .stop λaq k2=>h aq (k.trans k2)
 |step run nx h hs=>exact .step run nx (λaq k2=>h aq (k.trans k2)) λaq k2=>hs aq (k.trans k2)
def Walk.bind{P:ϑ}{main:Bool}{S1 S2:aaa->ώ->Ψ->Prop}{M:aaa}{g:ώ}{w:Ψ}(h:Walk P main S1 M g w)(k:∀M g w,S1 M g w->Walk P main S2 M g w):Walk P main S2 M g w:=by
 induction h with
 | @stop M g w h=>
   have:=k M g w (h w (bN.refl M w));exact this
 |step run nx h _ ih=>exact .step run nx h ih
def Walk.mono{P:ϑ}{main:Bool}{S1 S2:aaa->ώ->Ψ->Prop}{M:aaa}{g:ώ}{w:Ψ}(h:Walk P main S1 M g w)(k:∀M g w,S1 M g w->S2 M g w):Walk P main S2 M g w:=by
 induction h with
 |stop h=>exact .stop λaa k1=>k _ _ _ (h aa k1)
 |step run nx h _ ih=>exact .step run nx h ih
def Ch(p:ϑ)(y x:ώ×Ψ):Prop:=∃(T:Tape) (es:Array ϥ),ϛ p θ x.1 (aZ x.2 T)=.go y.1 y.2 es
inductive sN(p:ϑ)(x:ώ×Ψ):ώ×Ψ->Prop
 |refl:sN p x x
 |step {y z:ώ×Ψ} (h:sN p x y) (k:Ch p z y):sN p x z
def sN.trans{p:ϑ}{x y z:ώ×Ψ}(h:sN p x y)(k:sN p y z):sN p x z:=by
 induction k with
 |refl=>exact h
 |step _ k ih=>exact .step ih k
structure gX(M:aaa)(ρ:Ren)(w w':Ψ)(bS:aaa)(aE:Ren)(aa aA:Ψ):Prop where
 le:ρ.le aE
 new:∀a b,aE a b->ρ a b\/(w.heap.size<=a/\w'.heap.size<=b)
 mP:w.heap.size<=aa.heap.size
 fQ:w'.heap.size<=aA.heap.size
 kE:∀(a:Nat) (o:Obj),w.heap[a]?=φ o->lC o->aa.heap[a]?=φ o
 im:∀b:Nat,M.has b->(∀a,ρ a b->∃o,w.heap[a]?=φ o/\lC o)->aA.heap[b]?=w'.heap[b]?
 R:bS.R=M.R
 O:∀b,M.O b->bS.O b
 On:∀b,bS.O b->M.O b\/(w'.heap.size<=b/\b<aA.heap.size)
 tape:aA.tape=w'.tape
 os:aA.os=w'.os
 e:aA.output=w'.output
def aaa.tx{M bS:aaa}(hR:bS.R=M.R)(hO:∀b,M.O b->bS.O b){b:Nat}(h:M.has b):bS.has b:=h.imp (hO b) λx=>by rw[hR];exact x
def gX.trans{M bS pU:aaa}{ρ aE bH:Ren}{w w' aa aA aq mo:Ψ}(h:gX M ρ w w' bS aE aa aA)(k:gX bS aE aa aA pU bH aq mo)(hM:∀b,M.has b->b<w'.heap.size):gX M ρ w w' pU bH aq mo where
 le:=Ren.le_trans h.le k.le
 new a b x:=by
  rcases k.new a b x with x| ⟨x,y⟩
  ·exact h.new a b x
  ·exact .inr ⟨Ϥ h.mP x,Ϥ h.fQ y⟩
 mP:=Ϥ h.mP k.mP
 fQ:=Ϥ h.fQ k.fQ
 kE a o x f:=k.kE a o (h.kE a o x f) f
 im b hb hf:=by
  refine(k.im b (aaa.tx h.R h.O hb) λa ha=>?_).trans (h.im b hb hf)
  rcases h.new a b ha with x| ⟨_,y⟩
  ·obtain⟨o,ho,fo⟩:=hf a x
   exact⟨o,h.kE a o ho fo,fo⟩
  ·have:=hM b hb;omega
 R:=k.R.trans h.R
 O b x:=k.O b (h.O b x)
 On b x:=by
  rcases k.On b x with x| ⟨x,y⟩
  ·rcases h.On b x with x| ⟨x,y⟩
   ·exact .inl x
   ·exact .inr ⟨x,Ϡ y k.fQ⟩
  ·exact .inr ⟨Ϥ h.fQ x,y⟩
 tape:=k.tape.trans h.tape
 os:=k.os.trans h.os
 e:=k.e.trans h.e
def gX.keep{M:aaa}{ρ:Ren}{w w' aA:Ψ}(h:bN M w' aA):gX M ρ w w' M ρ w aA:=
 ⟨ρ.le_refl,λ_ _ h=>.inl h,ϊ _,h.size,λ_ _ h _=>h,λb hb _=>h.kept b hb,rfl,λ_ h=>h,λ_ h=>.inl h,h.tape,h.os,h.e⟩
def Fits(M:aaa)(ρ:Ren)(w:Ψ):Prop:=∀a b,ρ a b->M.O b\/(M.R b/\∃o,w.heap[a]?=φ o/\lC o)
def bV.keep{C:bQ}{M:aaa}{ρ:Ren}{w w' aA:Ψ}(h:bV C ρ w w')(f:Fits M ρ w)(k:bN M w' aA):bV C ρ w aA where
 dA:=h.dA
 dc a b x:=Ϡ (h.dc a b x) k.size
 fn:=h.fn
 inj:=h.inj
 obj a b o x e:=by
  obtain⟨o',h1,h2⟩:=h.obj a b o x e;exact⟨o',by rw[k.kept b ((f a b x).imp id (·.1))];exact h1,h2⟩
section
variable {P:ϑ}{F:Array Ϣ}{C:bQ}{S:Tl}{G:Nat->Bool}
structure Rel(P:ϑ)(F:Array Ϣ)(C:bQ)(S:Tl)(G:Nat->Bool)(M:aaa)(ρ:Ren)(g:ώ)(w:Ψ)(g':ώ)(w':Ψ):Prop where
 gr:sP P (tw P F) C S ρ g g'
 core:bV C ρ w w'
 gL:∀g,G g=θ->ρ g g
 fits:Fits M ρ w
 low:∀b,M.has b->b<w'.heap.size
def Rel.keep{M:aaa}{ρ:Ren}{g g':ώ}{w w' aA:Ψ}(h:Rel P F C S G M ρ g w g' w')(k:bN M w' aA):Rel P F C S G M ρ g w g' aA:=
 ⟨h.gr,h.core.keep h.fits k,h.gL,h.fits,λb hb=>Ϡ (h.low b hb) k.size⟩
def WG(E:Env P F C G){M:aaa}{ρ:Ren}{g g':ώ}{w w':Ψ}(h:Rel P F C S G M ρ g w g' w')
 (dL:∃b fr aV cs bh,g=aO fr cs/\g'=aO aV bh/\eS C S ρ b fr aV/\Below C S ρ b cs bh)
 {nx:Tape->ώ×Ψ}(hn:∀T:Tape,(∃es,ϛ (tw P F) θ g (aZ w T)=.go (nx T).1 (nx T).2 es)/\Plain (nx T).1)(main:Bool):
 ∃(T:Tape) (aE:Ren) (eZ:ώ) (aA:Ψ) (es:Array ϥ),ϛ P main g' w'=.go eZ aA es/\eO M w' aA es/\
  Rel P F C S G (M.grow w' aA) aE (nx T).1 (nx T).2 eZ aA/\gX M ρ w w' (M.grow w' aA) aE (nx T).2 aA:=by
 obtain⟨b,fr,aV,cs,bh,rfl,rfl,b7,hL⟩:=dL
 let T:Tape:=λj q=>w'.tape (w'.drawn+(j - w.drawn)) q
 obtain⟨⟨E6,h1⟩,h2⟩:=hn T;have hw:gY C ρ (aZ w T) w':=(h.core.left (aa:=aZ w T) rfl).rel λj q=>by
  show w'.tape (w'.drawn+(w.drawn+j - w.drawn)) q=w'.tape (w'.drawn+j) q;rw[Nat.add_sub_cancel_left]
 obtain⟨aE,eZ,aA,es,k1,k2,k3,k4,k5⟩:=Xx E h.gL hw b7 hL θ main θ .running .running ν ν _ _ _ h1 h2;have Mf:∀b,b<w'.heap.size->¬M.O b->∀a,ρ a b->∃o,w.heap[a]?=φ o/\lC o:=λb _ hb a ha=>((h.fits a b ha).resolve_left hb).2
 have aI:(aZ w T).heap.size=w.heap.size:=rfl;have GH:eO M w' aA es:=by
  refine⟨k4.fQ,λb hb hO=>k4.im b hb (Mf b hb hO),k4.wv,k4.vR,k4.vS,λe he=>?_⟩
  rcases k5 e he with⟨b,a,e1,e2,e3,e4⟩ |x
  ·refine .inl ⟨b,e1,e2,?_⟩
   rcases k4.new a b e3 with x| ⟨x,y⟩
   ·rcases h.fits a b x with o| ⟨r,o,ho,fo⟩
    ·exact⟨.inl (.inl o),λ_=>.inl o⟩
    ·refine⟨.inr r,λEc=>?_⟩
     rcases e4 with e4| ⟨o',oB,e4⟩
     ·have:=h.core.dA a b x;rw[aI] at e4;omega
     ·have e5:w.heap[a]?=φ o':=oB
      rw[ho] at e5;obtain rfl:=ϟ e5;exact absurd fo (e4 Ec)
   ·have hb:=k3.dc a b e3
    exact⟨.inl (.inr ⟨y,hb⟩),λ_=>.inr ⟨y,hb⟩⟩
  ·exact .inr x
 refine⟨T,aE,eZ,aA,es,k1,GH,⟨k2,k3,λg hg=>k4.le _ _ (h.gL g hg),λa b hab=>?_,λb hb=>?_⟩,⟨k4.le,k4.new,k4.mP,k4.fQ,k4.kE,λb hb hf=>k4.im b (h.low b hb) hf,rfl,λ_ x=>.inl x,λ_ x=>x,k4.wv,k4.vR,k4.vS⟩⟩
 ·rcases k4.new a b hab with x| ⟨x,y⟩
  ·rcases h.fits a b x with o| ⟨r,o,ho,fo⟩
   ·exact .inl (.inl o)
   ·exact .inr ⟨r,o,k4.kE a o ho fo,fo⟩
  ·exact .inl (.inr ⟨y,k3.dc a b hab⟩)
 ·rcases hb with(hb|hb) |hb
  ·exact Ϡ (h.low b (.inl hb)) k4.fQ
  ·exact hb.2
  ·exact Ϡ (h.low b (.inr hb)) k4.fQ
def X7(E:Env P F C G)(main:Bool){Q:ώ->Ψ->Prop}{Stop:aaa->ώ->Ψ->Prop}{g:ώ}{w:Ψ}(hs:Safe (tw P F) Q g w):
 ∀ {M:aaa} {ρ:Ren} {g':ώ} {w':Ψ},Rel P F C S G M ρ g w g' w'->
  (∀(bS:aaa) (aE:Ren) (dG:ώ) (aa:Ψ) (eZ:ώ) (aA:Ψ),Rel P F C S G bS aE dG aa eZ aA->gX M ρ w w' bS aE aa aA->Safe (tw P F) Q dG aa->sN (tw P F) (g,w) (dG,aa)->
     (Q dG aa\/¬ ∃b fr aV cs bh,dG=aO fr cs/\eZ=aO aV bh/\eS C S aE b fr aV/\Below C S aE b cs bh)->Stop bS eZ aA)->Walk P main Stop M g' w':=by
 induction hs with
 | @stop g w h=>
   intro M ρ g' w' hR aQ;exact .stop λaa k=>aQ M ρ g w g' aa (hR.keep k) (.keep k) (.stop h) .refl (.inl h)
 | @step g w nx h hs ih=>
   intro M ρ g' w' hR aQ;by_cases dL:∃b fr aV cs bh,g=aO fr cs/\g'=aO aV bh/\eS C S ρ b fr aV/\Below C S ρ b cs bh
   ·have key:∀aa:Ψ,∃y:ώ×Ψ×Array ϥ,bN M w' aa->∃(T:Tape) (aE:Ren),ϛ P main g' aa=.go y.1 y.2.1 y.2.2/\eO M aa y.2.1 y.2.2/\
     Rel P F C S G (M.grow aa y.2.1) aE (nx T).1 (nx T).2 y.1 y.2.1/\gX M ρ w aa (M.grow aa y.2.1) aE (nx T).2 y.2.1:=by
     intro aa;by_cases k:bN M w' aa
     ·obtain⟨T,aE,eZ,aA,es,a1,a2,a3,a4⟩:=WG E (hR.keep k) dL h main
      exact⟨(eZ,aA,es),λ_=>⟨T,aE,a1,a2,a3,a4⟩⟩
     ·exact⟨(g',aa,#[]),λx=>absurd x k⟩
    have bz:g'.status=.running:=by obtain⟨b,fr,aV,cs,bh,_,rfl,_⟩:=dL;rfl
    refine .step bz (λaa=>Aa6 (key aa)) (λaa k=>?_) λaa k=>?_
    ·obtain⟨T,aE,a1,a2,a3,a4⟩:=Aa7 (key aa) k
     exact⟨a1,a2⟩
    ·obtain⟨T,aE,a1,a2,a3,a4⟩:=Aa7 (key aa) k
     refine ih T a3 λpU bH cy aq C9 mo b1 b2 b3 b4 b5=>aQ pU bH cy aq C9 mo b1 (((gX.keep k).trans a4 hR.low).trans b2 hR.low) b3 ?_ b5
     obtain⟨⟨es,h1⟩,_⟩:=h T;exact sN.trans (.step .refl ⟨T,es,h1⟩) b4
   ·exact .stop λaa k=>aQ M ρ g w g' aa (hR.keep k) (.keep k) (.step nx h hs) .refl (.inr dL)
end
end Go.Sim
namespace Go.Sim
open Go Go.Conc
open Go.ConcN (sumTo upd sumTo_upd upd_ne upd_same)
def Iz:Loc->Prop:=λ_=>False
def L9{M:aaa}{B:Nat}{e:ϥ}(h:wK M e)(hB:∀b,M.has b->b<B):EvL Iz B e:=by
 obtain⟨loc,wr,sy⟩:=e;rcases h with⟨b,e1,e2,e3,e4⟩ |e1| ⟨f,e1⟩
 ·simp only at e1 e2 e4
  subst e2;rcases e1 with e1| ⟨c,e1,e5⟩
  ·subst e1
   refine⟨λ_ _ h=>h.elim,by simp,by simp,?_⟩
   cases wr<;>exact hB _ e3
  ·subst e1
   refine⟨λ_ _ h=>h.elim,by simp,by simp,?_⟩
   have:=hB _ e3;rw[<-e5] at this;cases wr<;>exact this
 ·simp only at e1
  subst e1;exact⟨λ_ _ h=>h.elim,by simp,by simp,by cases wr<;>cases sy<;>exact trivial⟩
 ·simp only at e1
  subst e1;exact⟨λ_ _ h=>h.elim,by simp,by simp,by cases wr<;>cases sy<;>exact trivial⟩
def oS(t:ϭ):Prop:=∀op∈t,op.act≠ .mark .disable/\op.act≠ .mark .enable
def Wj{t:ϭ}(h:oS t)(g:Nat):∀i,t.deaf g i=0:=by
 intro i;induction i with
 |zero=>rfl
 |succ i ih=>
  unfold Trace.deaf;split
  ·rename_i ab
   exact absurd rfl (h _ (Aax ab)).1
  ·rename_i ab
   exact absurd rfl (h _ (Aax ab)).2
  ·exact ih
def IA{t:ϭ}(h:oS t){i:Nat}{op:MemOp}(hi:t[i]?=φ op):t.heard i:=⟨op.g,by simp[Trace.g?,hi],Wj h _ _⟩
def EG{t:ϭ}(h:oS t)(g:Nat):Deaf t g=0:=Wj h g _
def oS.app{t u:ϭ}(h:oS t)(k:oS u):oS (t++u):=λop ab=>(Aad.1 ab).elim (h op) (k op)
def O4{M:aaa}{g:Nat}{fn:Ϫ}{pos:String}{es:Array ϥ}(h:∀e∈es,wK M e):oS (MemOp.ofEvents g fn pos es):=by
 intro op ab;obtain⟨e,he,rfl⟩:=Go.Conc.mem_ofEvents ab;obtain⟨loc,wr,sy⟩:=e;rcases h _ he with⟨b,e1,e2,_⟩ |e1| ⟨f,e1⟩
 ·simp only at e1 e2
  subst e2;rcases e1 with e1| ⟨c,e1,_⟩<;>subst e1<;>cases wr<;>exact⟨by simp[Adl],by simp[Adl]⟩
 ·simp only at e1
  subst e1;exact⟨by simp[Adl],by simp[Adl]⟩
 ·simp only at e1
  subst e1;exact⟨by simp[Adl],by simp[Adl]⟩
section
variable {P:ϑ}
structure Fr(P:ϑ)(gs:Array ώ)(w:Ψ)(t:ϭ)(q:Nat->Nat)(g:ώ):Prop where
 zero:gs[0]?=φ g
 lv:∀i x,0<i->gs[i]?=φ x->QuitsIn P (q i) x
 gD:Past Iz w.heap.size t
 nd:oS t
 gb:∀op∈t,op.g<gs.size
def Fr.ag1{gs:Array ώ}{w:Ψ}{t:ϭ}{q:Nat->Nat}{g:ώ}(h:Fr P gs w t q g):Leavers P t gs q:=
 ⟨λi x hi hx=>by rw[EG h.nd];exact QuitsD.of_quitsIn (h.lv i x hi hx),λj _=>EG h.nd j⟩
def woken_quits{g g' b:ώ}{w':Ψ}{k:Nat}(hB:QuitsIn P k b):woken P g g' w' b=b:=woken_quitsD (QuitsD.of_quitsIn hB)
def nM(g:Nat)(fn:Ϫ)(pos:String):MemOp.ofEvents g fn pos #[]=#[]:=by simp[MemOp.ofEvents]
def yy(M:aaa)(w:Ψ)(d:Nat):bN M w (w.at d):=bN.of_heap rfl rfl rfl rfl
def To{gs:Array ώ}{w:Ψ}{sl:Option (Nat×Nat)}{t:ϭ}{q:Nat->Nat}{g:ώ}(h:Fr P gs w t q g)(bz:g.status=.running):
 (∃d bm,stepT P (crowd gs w sl)=runT P (crowd gs (w.at d) bm) 0)\/
 ∃aT d bm ops q',stepT P (crowd gs w sl)=(.next (crowd aT (w.at d) bm),ops)/\aT.size=gs.size/\sumTo aT.size q'<sumTo gs.size q/\Fr P aT (w.at d) (t++ops) q' g:=by
 obtain⟨h0,hL,hP,hN,hG⟩:=h;have tz:∀g∈gs,awake g:=by
  intro x hx;obtain⟨i,hi,rfl⟩:=Aay.1 hx;rcases Nat.eq_zero_or_pos i with rfl|rP
  ·have:gs[0]=g:=by simpa [Aaz hi] using h0
   rw[this];exact awake_of (.inl bz)
  ·exact awake_of ((hL i _ rP (Aaz hi)).status.elim .inl λx=>.inr (.inr x))
 obtain⟨i,x,d,bm,hi,hg,aQ⟩:=crowd_pick (P:=P) (w:=w) (sl:=sl) tz ⟨0,g,h0,bz⟩;rcases Nat.eq_zero_or_pos i with rfl|rP
 ·exact .inl ⟨d,bm,aQ⟩
 ·right
  have hq:=hL i x rP hi;have cR:(i==0)=χ:=by simp;omega
  have al:i<gs.size:=(Ϟ.1 hi).1
  cases pe:q i with
  |zero=>rw[pe] at hq;rw[show x.status=.finished from hq] at hg;cases hg
  |succ k=>
   rw[pe] at hq;rcases hq with hf| ⟨_,g',aej,mD⟩
   ·rw[hf] at hg;cases hg
   have tJ:=runT_crowd_go (P:=P) (sl:=bm) (i:=i) hi (by rw[cR];exact aej (w.at d))
   rw[nM] at tJ;have aI:((gs.map (woken P x g' (w.at d))).setIfInBounds i g').size=gs.size:=by simp
   have Zb:sumTo gs.size (upd q i k)+(k+1)=sumTo gs.size q+k:=by
    have:=sumTo_upd q k id al;simpa [pe] using this
   refine⟨(gs.map (woken P x g' (w.at d))).setIfInBounds i g',d,bm,#[],upd q i k,aQ.trans tJ,aI,by rw[aI];omega,?_,λj y hj hy=>?_,by rw[Aag];exact hP,by rw[Aag];exact hN,by rw[Aag];exactλop ab=>by rw[aI];exact hG op ab⟩
   ·have aw:i≠0:=by omega
    rw[Aa0 aw,Aa1,h0]
    simp[woken_run bz]
   ·by_cases pa:i=j
    ·subst pa
     rw[Array.getElem?_setIfInBounds_self_of_lt (by simpa using al)] at hy
     obtain rfl:=ϟ hy;rw[upd_same];exact mD
    ·rw[Aa0 pa,Aa1] at hy
     obtain⟨z,hz,rfl⟩:=Aef.1 hy;have yd:=hL j z hj hz;rw[woken_quits yd,upd_ne q k (Ne.symm pa)];exact yd
def Tm{gs:Array ώ}{w aa:Ψ}{sl:Option (Nat×Nat)}{t:ϭ}{q:Nat->Nat}{g dG:ώ}{es:Array ϥ}{M:aaa}(h:Fr P gs w t q g)(hs:ϛ P θ g w=.go dG aa es)(hd:eO M w aa es)(hM:∀b,M.has b->b<w.heap.size):
 ∃aT ops,runT P (crowd gs w sl) 0=(.next (crowd aT aa sl),ops)/\aT.size=gs.size/\Fr P aT aa (t++ops) q dG:=by
 obtain⟨h0,hL,hP,hN,hG⟩:=h;have tJ:=runT_crowd_go (P:=P) (sl:=sl) (i:=0) h0 (show ϛ P (0==0) g w=_ from hs)
 have al:0<gs.size:=(Ϟ.1 h0).1
 refine⟨_,_,tJ,by simp,by simp[al],λj x hj hx=>?_,(hP.mono hd.size).own λe he=>L9 (hd.ev e he) λb hb=>?_,hN.app (O4 hd.ev),λop ab=>?_⟩
 ·have aw:0≠j:=by omega
  rw[Aa0 aw,Aa1] at hx
  obtain⟨y,hy,rfl⟩:=Aef.1 hx;have hq:=hL j y hj hy;rw[woken_quits hq];exact hq
 ·rcases hb with(hb|hb) |hb
  ·exact Ϡ (hM b (.inl hb)) hd.size
  ·exact hb.2
  ·exact Ϡ (hM b (.inr hb)) hd.size
 ·rw[Array.size_setIfInBounds,Array.size_map]
  rcases Aad.1 ab with ab|ab
  ·exact hG op ab
  ·obtain⟨e,_,rfl⟩:=Go.Conc.mem_ofEvents ab
   exact al
def zU{M:aaa}{w aa:Ψ}{es:Array ϥ}(hd:eO M w aa es)(hM:∀b,M.has b->b<w.heap.size):∀b,(M.grow w aa).has b->b<aa.heap.size:=by
 intro b hb;rcases hb with(hb|hb) |hb
 ·exact Ϡ (hM b (.inl hb)) hd.size
 ·exact hb.2
 ·exact Ϡ (hM b (.inr hb)) hd.size
def Cw{Stop:aaa->ώ->Ψ->Prop}{M:aaa}{g:ώ}{w:Ψ}(h:Walk P θ Stop M g w):
 ∀(gs:Array ώ) (sl:Option (Nat×Nat)) (t:ϭ) (q:Nat->Nat),Fr P gs w t q g->(∀b,M.has b->b<w.heap.size)->
  ∃(N:Nat) (aT:Array ώ) (M':aaa) (g':ώ) (w':Ψ) (bm:Option (Nat×Nat)) (t':ϭ) (q':Nat->Nat),
    runNT P N (crowd gs w sl) t=(.next (crowd aT w' bm),t')/\aT.size=gs.size/\Stop M' g' w'/\Fr P aT w' t' q' g':=by
 induction h with
 | @stop M g w h=>exactλgs sl t q hF hM=>⟨0,gs,M,g,w,sl,t,q,rfl,rfl,h w (bN.refl M w),hF⟩
 | @step M g w run nx h hs ih=>
   have key:∀(n:Nat) (gs:Array ώ) (sl:Option (Nat×Nat)) (t:ϭ) (q:Nat->Nat) (aq:Ψ),sumTo gs.size q<=n->bN M w aq->Fr P gs aq t q g->(∀b,M.has b->b<aq.heap.size)->
    ∃(N:Nat) (aT:Array ώ) (M':aaa) (g':ώ) (w':Ψ) (bm:Option (Nat×Nat)) (t':ϭ) (q':Nat->Nat),
     runNT P N (crowd gs aq sl) t=(.next (crowd aT w' bm),t')/\aT.size=gs.size/\Stop M' g' w'/\Fr P aT w' t' q' g':=by
    intro n;induction n with
    |zero=>
     intro gs sl t q aq hn k hF hM;rcases To (sl:=sl) hF run with⟨d,bm,aQ⟩ | ⟨aT,d,bm,ops,q',_,_,al,_⟩
     ·have k2:=k.trans (yy M aq d)
      obtain⟨h1,h2⟩:=h _ k2;obtain⟨iK,ops,hr,aI,lN⟩:=Tm (sl:=bm) (w:=aq.at d) (M:=M) ⟨hF.zero,hF.lv,hF.gD,hF.nd,hF.gb⟩ h1 h2 hM;obtain⟨N,aT,M',g',w',mQ,t',q',r1,r2,r3,r4⟩:=ih _ k2 iK bm _ q lN (zU h2 hM);exact⟨N+1,aT,M',g',w',mQ,t',q',by simp only[runNT,aQ,hr];exact r1,r2.trans aI,r3,r4⟩
     ·omega
    |succ n En=>
     intro gs sl t q aq hn k hF hM;rcases To (sl:=sl) hF run with⟨d,bm,aQ⟩ | ⟨aT,d,bm,ops,q',aQ,aI,al,lN⟩
     ·have k2:=k.trans (yy M aq d)
      obtain⟨h1,h2⟩:=h _ k2;obtain⟨iK,ops,hr,aI,lN⟩:=Tm (sl:=bm) (w:=aq.at d) (M:=M) ⟨hF.zero,hF.lv,hF.gD,hF.nd,hF.gb⟩ h1 h2 hM;obtain⟨N,aT,M',g',w',mQ,t',q',r1,r2,r3,r4⟩:=ih _ k2 iK bm _ q lN (zU h2 hM);exact⟨N+1,aT,M',g',w',mQ,t',q',by simp only[runNT,aQ,hr];exact r1,r2.trans aI,r3,r4⟩
     ·obtain⟨N,xu,M',g',w',mQ,t',Pf,r1,r2,r3,r4⟩:=En aT bm (t++ops) q' (aq.at d) (by omega) (k.trans (yy M aq d)) lN hM
      exact⟨N+1,xu,M',g',w',mQ,t',Pf,by simp only[runNT,aQ];exact r1,r2.trans aI,r3,r4⟩
   exactλgs sl t q hF hM=>key _ gs sl t q w (ϊ _) (bN.refl M w) hF hM
end
end Go.Sim
