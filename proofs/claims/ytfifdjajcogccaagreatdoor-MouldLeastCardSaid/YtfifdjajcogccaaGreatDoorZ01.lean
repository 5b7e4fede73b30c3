import Derived.Calls
import Derived.Laws.Sem
import Derived.RunT
set_option linter.all false
set_option maxHeartbeats 64000000
set_option maxRecDepth 20000
open Array renaming getD_eq_getD_getElem? -> Aaa, getElem_mem -> Aab, append_assoc -> Aac, mem_append -> Aad, push_eq_append -> Aae, getElem?_eq_some_iff -> Aaf, append_empty -> Aag, getElem?_push -> Aah, getElem?_setIfInBounds -> Aai, forIn_toList -> Aaj, mapM_eq_mapM_toList -> Aak, all_eq_true_iff_forall_mem -> Aal, getElem!_eq_getD -> Aam, getElem?_eq_none -> Aan, range -> Aao, getElem_map -> Aap, getElem_range -> Aaq, foldl_toList -> Aar, toList_zipIdx -> Aas, ext -> Aat, getElem_modify -> Aau, mem_replicate -> Aav
open Bool renaming false_eq_true -> Aaw, and_eq_true -> Aax
open Go renaming Addr -> Aay, FuncId -> Aaz, IntKind -> Aa0, TypeId -> Aa1, MapEntry -> Aa2, Deferred -> Aa3, World -> Aa4, Event -> Aa5, Program -> Aa6, Func -> Aa7, boundsPanic -> Aa8, TypeDesc -> Aa9, byteOfCell -> Aba, cellOfByte -> Abb, Operand -> Abc, Frame -> Abd, Goroutine -> Abe
open Go.Builtin renaming unsafeAdd_ -> Abf, lenOf -> Abg, firstCells -> Abh, zeroCells -> Abi, len_ -> Abj, max_ -> Abk, min_ -> Abl, copy_ -> Abm, clear_ -> Abn, nextslicecap -> Abo, mayShare -> Abp, append_ -> Abq
open Go.GStep renaming after -> Abr
open Go.GStep.go renaming injEq -> Abs
open Go.Instr renaming sliceBound -> Abt, sliceBounds -> Abu, slice -> Abv, sliceAt -> Abw, extract -> Abx, makeMap -> Aby, makeSlice -> Abz, fill -> Ab0, build -> Ab1, buildSlice -> Ab2, checkKey -> Ab3, findAsking -> Ab4, sameNow -> Ab5, findNow -> Ab6, findKey -> Ab7, lookup -> Ab8, sameBits -> Ab9, keyThatStays -> Aca, mapUpdate -> Acb, getLoop -> Acd, yield -> Ace, enterLoop -> Acf, beginRound -> Acg, endRound -> Ach, endLoop -> Aci, takeDeferred -> Acj
open Go.IntKind renaming i64 -> Ack
open Go.Made renaming infoAt -> Acl
open Go.Next renaming value -> Acm, skip -> Acn
open Go.Op renaming equalIn -> Aco, equal -> Acp, addrMod -> Acr, eqGuardIn -> Acs, maxDepth -> Acu, operands -> Acv
open Go.Result.ok renaming injEq -> Acw
open Go.Sem renaming run -> Acx, runT -> Acy, bind -> Acz
open Go.World renaming setCell -> Ac0, shape? -> Ac1
open Nat renaming le_refl -> Ac2, le_trans -> Ac3, zero_mul -> Ac4
open Option.some renaming inj -> Ac5, injEq -> Ac6
open Pure renaming pure -> Ac7
open Std.Legacy.Range renaming forIn_eq_forIn_range' -> Ac8
namespace Go.Sim
open Go
abbrev Ren:=Nat->Nat->Prop
def Ren.le(ρ ax:Ren):Prop:=∀a b,ρ a b->ax a b
theorem Ren.le_refl(ρ:Ren):ρ.le ρ:=fun _ _ h=>h
theorem Ren.le_trans{ρ ax eY:Ren}(h:ρ.le ax)(h':ax.le eY):ρ.le eY:=fun a b x=>h' a b (h a b x)
def dU(ρ:Ren)(a b:Aay):Prop:=ρ a.block b.block/\a.off=b.off/\a.spot=b.spot
theorem dU.mono{ρ ax:Ren}(h:ρ.le ax){a b:Aay}(x:dU ρ a b):dU ax a b:=⟨h _ _ x.1,x.2⟩
theorem dU.add{ρ:Ren}{a b:Aay}(h:dU ρ a b)(n:Nat):dU ρ (a.add n) (b.add n):=by
 obtain⟨h1,h2,h3⟩:=h;unfold Addr.add;split
 ·exact⟨h1,h2,h3⟩
 ·exact⟨h1,by simp[h2],rfl⟩
inductive zi(ρ:Ren):Fn->Fn->Prop
 |func (f:Aaz):zi ρ (.func f) (.func f)
 |yield {l l':Nat} (h:ρ l l'):zi ρ (.yield l) (.yield l')
inductive ah(ρ:Ren):Value->Value->Prop
 |bool (b:Bool):ah ρ (.bool b) (.bool b)
 |int (k:Aa0) (n:Int):ah ρ (.int k n) (.int k n)
 |string (s:ByteArray):ah ρ (.string s) (.string s)
 |ptrNone:ah ρ (.pointer none) (.pointer none)
 |ptr {a b:Aay} (h:dU ρ a b):ah ρ (.pointer (some a)) (.pointer (some b))
 |sliceNone (n c:Nat):ah ρ (.slice none n c) (.slice none n c)
 |slice {a b:Aay} (n c:Nat) (h:dU ρ a b):ah ρ (.slice (some a) n c) (.slice (some b) n c)
 |sliceDead (a b:Aay):ah ρ (.slice (some a) 0 0) (.slice (some b) 0 0)
 |mapNone:ah ρ (.map none) (.map none)
 |map {r r':Nat} (h:ρ r r'):ah ρ (.map (some r)) (.map (some r'))
 |chanNone:ah ρ (.chan none) (.chan none)
 |chan {r r':Nat} (h:ρ r r'):ah ρ (.chan (some r)) (.chan (some r'))
 |func {fn fn':Fn} {x x' y y':Array Value} (h:zi ρ fn fn') (hx:x.size=x'.size) (h1:∀i (h:i<x.size) (h':i<x'.size),ah ρ x[i] x'[i])
   (hy:y.size=y'.size) (h2:∀i (h:i<y.size) (h':i<y'.size),ah ρ y[i] y'[i]):ah ρ (.func fn x y) (.func fn' x' y')
 |nilFunc:ah ρ .nilFunc .nilFunc
 |iface (t:Aa1) {v v':Value} (h:ah ρ v v'):ah ρ (.iface t v) (.iface t v')
 |nilIface:ah ρ .nilIface .nilIface
 |agg {x x':Array Value} (hx:x.size=x'.size) (h1:∀i (h:i<x.size) (h':i<x'.size),ah ρ x[i] x'[i]):ah ρ (.agg x) (.agg x')
 |tuple {x x':Array Value} (hx:x.size=x'.size) (h1:∀i (h:i<x.size) (h':i<x'.size),ah ρ x[i] x'[i]):ah ρ (.tuple x) (.tuple x')
 |junk {v':Value} (h:v'.cells=#[v']) (hb:∀b,v'≠ .bool b) (hc:v'≠ .pointer none/\v'≠ .nilIface/\v'≠ .nilFunc/\∀f x y,v'≠ .func f x y):ah ρ (.tuple #[]) v'
 |fjunk (fn':Fn) (x' y':Array Value):ah ρ (.func (.method "") #[.nilIface] #[]) (.func fn' x' y')
def bU{α β:Type}(R:α->β->Prop)(x:Array α)(y:Array β):Prop:=x.size=y.size/\∀i (h:i<x.size) (h':i<y.size),R x[i] y[i]
abbrev aP(ρ:Ren):Array Value->Array Value->Prop:=bU (ah ρ)
theorem zi.mono{ρ ax:Ren}(h:ρ.le ax){f g:Fn}(x:zi ρ f g):zi ax f g:=by
 cases x with
 |func f=>exact .func f
 |yield hl=>exact .yield (h _ _ hl)
theorem ah.mono{ρ ax:Ren}(h:ρ.le ax){v v':Value}(x:ah ρ v v'):ah ax v v':=by
 induction x with
 |bool b=>exact .bool b
 |int k n=>exact .int k n
 |string s=>exact .string s
 |ptrNone=>exact .ptrNone
 |ptr ha=>exact .ptr (ha.mono h)
 |sliceNone n c=>exact .sliceNone n c
 |slice n c ha=>exact .slice n c (ha.mono h)
 |sliceDead a b=>exact .sliceDead a b
 |mapNone=>exact .mapNone
 |map hr=>exact .map (h _ _ hr)
 |chanNone=>exact .chanNone
 |chan hr=>exact .chan (h _ _ hr)
 |func hf hx _ hy _ i1 i2=>exact .func (hf.mono h) hx i1 hy i2
 |nilFunc=>exact .nilFunc
 |iface t _ ih=>exact .iface t ih
 |nilIface=>exact .nilIface
 |agg hx _ ih=>exact .agg hx ih
 |tuple hx _ ih=>exact .tuple hx ih
 |junk h hb hc=>exact .junk h hb hc
 |fjunk f x y=>exact .fjunk f x y
inductive fT{α β:Type}(R:α->β->Prop):List α->List β->Prop
 |nil:fT R [] []
 |cons {a:α} {b:β} {x:List α} {y:List β} (h:R a b) (t:fT R x y):fT R (a::x) (b::y)
section arr
variable {α β:Type}{R:α->β->Prop}
theorem bU.mono{R':α->β->Prop}(h:∀a b,R a b->R' a b){x:Array α}{y:Array β}(hx:bU R x y):bU R' x y:=⟨hx.1,fun i a b=>h _ _ (hx.2 i a b)⟩
theorem bU.empty:bU R #[] #[]:=⟨rfl,fun i h=>by simp at h⟩
theorem bU.push{x:Array α}{y:Array β}(h:bU R x y){a:α}{b:β}(hab:R a b):bU R (x.push a) (y.push b):=by
 refine⟨by simp[h.1],fun i hi bu=>?_⟩
 simp only[Array.getElem_push];have hs:=h.1;by_cases al:i<x.size
 ·rw[dif_pos al,dif_pos (hs▸al)];exact h.2 i _ _
 ·rw[dif_neg al,dif_neg (hs▸al)];exact hab
theorem bU.append{x x':Array α}{y y':Array β}(h:bU R x y)(h':bU R x' y'):bU R (x++x') (y++y'):=by
 refine⟨by simp[h.1,h'.1],fun i hi bu=>?_⟩
 have hs:=h.1;simp only[Array.getElem_append];by_cases al:i<x.size
 ·rw[dif_pos al,dif_pos (hs▸al)];exact h.2 i _ _
 ·rw[dif_neg al,dif_neg (hs▸al)]
  have:=h'.2 (i - x.size) (by simp at hi;omega) (by simp at bu;omega)
  simpa [hs] using this
theorem bU.set{x:Array α}{y:Array β}(h:bU R x y)(i:Nat){a:α}{b:β}(hab:R a b):bU R (x.setIfInBounds i a) (y.setIfInBounds i b):=by
 refine⟨by simp[h.1],fun j hj qq=>?_⟩
 rw[Array.getElem_setIfInBounds (by simpa using hj),Array.getElem_setIfInBounds (by simpa using qq)]
 split
 ·exact hab
 ·exact h.2 j _ _
theorem bU.get? {x:Array α}{y:Array β}(h:bU R x y)(i:Nat):(x[i]?=none/\y[i]?=none)\/∃a b,x[i]?=some a/\y[i]?=some b/\R a b:=by
 by_cases al:i<x.size
 ·exact .inr ⟨x[i],y[i]'(h.1▸al),by simp[al],by simp[h.1▸al],h.2 i _ _⟩
 ·refine .inl ⟨by simp;omega,?_⟩
  have:=h.1;simp;omega
theorem bU.getD{x:Array α}{y:Array β}(h:bU R x y)(i:Nat){a:α}{b:β}(hab:R a b):R (x.getD i a) (y.getD i b):=by
 rcases h.get? i with⟨h1,h2⟩ | ⟨u,v,h1,h2,h3⟩
 ·simpa [Aaa,h1,h2] using hab
 ·simpa [Aaa,h1,h2] using h3
theorem bU.extract{x:Array α}{y:Array β}(h:bU R x y)(i j:Nat):bU R (x.extract i j) (y.extract i j):=by
 refine⟨by simp[h.1],fun k hk rH=>?_⟩
 simp only[Array.getElem_extract];exact h.2 _ _ _
theorem bU.refl{R:α->α->Prop}{x:Array α}(h:∀a∈x,R a a):bU R x x:=⟨rfl,fun _ hi _=>h _ (Aab hi)⟩
theorem bU.one{a:α}{b:β}(h:R a b):bU R #[a] #[b]:=⟨rfl,fun i hi _=>by
 have:i=0:=by simp at hi;omega
 subst this;exact h⟩
theorem bU.oG{x:Array α}{y:Array β}(h:bU R x y):fT R x.toList y.toList:=by
 obtain⟨x⟩:=x;obtain⟨y⟩:=y;obtain⟨h1,h2⟩:=h;simp only[List.size_toArray,List.getElem_toArray] at h1 h2;simp only;induction x generalizing y with
 |nil=>cases y with
  |nil=>exact .nil
  |cons=>simp at h1
 |cons a x ih=>cases y with
  |nil=>simp at h1
  |cons b y=>
   refine .cons (h2 0 (by simp) (by simp)) (ih y (by simpa using h1) fun i hi bu=>?_)
   have:=h2 (i+1) (by simpa using hi) (by simpa using bu)
   simpa using this
theorem bU.ai9{x:List α}{y:List β}(h:fT R x y):bU R x.toArray y.toArray:=by
 induction h with
 |nil=>exact .empty
 |cons hab _ ih=>
  refine⟨by have:=ih.1;simp at this;simp[this],fun i hi bu=>?_⟩
  cases i with
  |zero=>simpa using hab
  |succ i=>
   have:=ih.2 i (by simpa using hi) (by simpa using bu)
   simpa using this
end arr
theorem ah.uF{ρ:Ren}{x y:Array Value}(h:aP ρ x y):ah ρ (.agg x) (.agg y):=.agg h.1 h.2
theorem ah.tuple'{ρ:Ren}{x y:Array Value}(h:aP ρ x y):ah ρ (.tuple x) (.tuple y):=.tuple h.1 h.2
theorem ah.undef{ρ:Ren}:ah ρ undef undef:=.tuple' .empty
theorem aP.mono{ρ ax:Ren}(h:ρ.le ax){x y:Array Value}(hx:aP ρ x y):aP ax x y:=bU.mono (fun _ _=>ah.mono h) hx
theorem ah.cells{ρ:Ren}{v v':Value}(h:ah ρ v v'):aP ρ v.cells v'.cells:=by
 have h0:=h;cases h;case agg hx h1=>exact⟨hx,h1⟩
 case junk h hb _=>rw[h];exact bU.one h0
 all_goals exact bU.one h0
end Go.Sim
namespace Go.Sim
open Go
structure bQ where
 ok:Aaz->Bool
 hole:Aaz->Bool
 clean:Code->Prop
def Full(c:Array Value)(fr:Nat×Nat):Prop:=fr.1=0/\c.size<=fr.2
inductive jm(ρ:Ren):Aa2->Aa2->Prop
 |mk {k k' v v':Value} (b:Nat) (hk:ah ρ k k') (hv:ah ρ v v'):jm ρ ⟨k,v,b⟩ ⟨k',v',b⟩
inductive sM(ρ:Ren):Aa3->Aa3->Prop
 |collected {r r':Nat} (h:ρ r r'):sM ρ ⟨.collected r,#[]⟩ ⟨.collected r',#[]⟩
inductive zu(C:bQ)(ρ:Ren):Loop->Loop->Prop
 |mk (st:LoopState) (px:Option Code) (fn:Aaz) {tm XJ:Array Value} (ps:Array Tmp) (oU body:Code) {d d':Nat} (ht:aP ρ tm XJ) (hd:ρ d d')
   (ha:C.clean oU) (hb:C.clean body) (hp:∀c,px=some c->C.clean c):zu C ρ ⟨st,px,fn,tm,ps,oU,body,d⟩ ⟨st,px,fn,XJ,ps,oU,body,d'⟩
inductive iE(C:bQ)(ρ:Ren):Obj->Obj->Prop
 |cells {c c':Array Value} (e:Aa1) {fr aV:Nat×Nat} (h:aP ρ c c') (hf:aV=fr\/Full c fr):iE C ρ (.cells c e fr) (.cells c' e aV)
 |map {es es':Array Aa2} (clock:Nat) (h:bU (jm ρ) es es'):iE C ρ (.map es clock) (.map es' clock)
 |loop {l l':Loop} (h:zu C ρ l l'):iE C ρ (.loop l) (.loop l')
 |EF:iE C ρ (.deferred none) (.deferred none)
 |calls:iE C ρ (.deferred (some [])) (.deferred (some []))
 |stringIter (s:ByteArray) (p:Nat):iE C ρ (.stringIter s p) (.stringIter s p)
 |number {a b:Aay} (lost:Bool) (h:dU ρ a b):iE C ρ (.number a lost) (.number b lost)
theorem jm.mono{ρ ax:Ren}(h:ρ.le ax){a b:Aa2}(x:jm ρ a b):jm ax a b:=by
 cases x with|mk b hk hv=>exact .mk b (hk.mono h) (hv.mono h)
theorem zu.mono{C:bQ}{ρ ax:Ren}(h:ρ.le ax){a b:Loop}(x:zu C ρ a b):zu C ax a b:=by
 cases x with|mk st px fn ps oU body ht hd ha hb hp=>exact .mk st px fn ps oU body (ht.mono h) (h _ _ hd) ha hb hp
theorem iE.mono{C:bQ}{ρ ax:Ren}(h:ρ.le ax){a b:Obj}(x:iE C ρ a b):iE C ax a b:=by
 cases x with
 |cells e hc hf=>exact .cells e (hc.mono h) hf
 |map clock hm=>exact .map clock (bU.mono (fun _ _=>jm.mono h) hm)
 |loop hl=>exact .loop (hl.mono h)
 |EF=>exact .EF
 |calls=>exact .calls
 |stringIter s p=>exact .stringIter s p
 |number l ha=>exact .number l (ha.mono h)
def lC:Obj->Prop
 | .cells c _ fr=>Full c fr
 |_=>False
structure gY(C:bQ)(ρ:Ren)(w w':Aa4):Prop where
 dA:∀a b,ρ a b->a<w.heap.size
 dc:∀a b,ρ a b->b<w'.heap.size
 fn:∀a b b',ρ a b->ρ a b'->b=b'
 inj:∀a a' b,ρ a b->ρ a' b->a=a'
 obj:∀a b o,ρ a b->w.heap[a]?=some o->∃o',w'.heap[b]?=some o'/\iE C ρ o o'
 tape:∀j q,w.tape (w.drawn+j) q=w'.tape (w'.drawn+j) q
structure Trans(ρ ax:Ren)(w w' aa aA:Aa4):Prop where
 le:ρ.le ax
 new:∀a b,ax a b->ρ a b\/(w.heap.size<=a/\w'.heap.size<=b)
 mP:w.heap.size<=aa.heap.size
 fQ:w'.heap.size<=aA.heap.size
 kE:∀(a:Nat) (o:Obj),w.heap[a]?=some o->lC o->aa.heap[a]?=some o
 im:∀b:Nat,b<w'.heap.size->(∀a,ρ a b->∃o,w.heap[a]?=some o/\lC o)->aA.heap[b]?=w'.heap[b]?
 Gl:∀b:Nat,w'.heap.size<=b->b<aA.heap.size->∃a,ax a b
 Jg:aa.tape=w.tape
 wv:aA.tape=w'.tape
 vR:aA.os=w'.os
 vS:aA.output=w'.output
theorem Trans.refl(ρ:Ren)(w w':Aa4):Trans ρ ρ w w' w w':=
 ⟨ρ.le_refl,fun _ _ h=>.inl h,Ac2 _,Ac2 _,fun _ _ h _=>h,fun _ _ _=>rfl,fun b h h'=>by omega,rfl,rfl,rfl,rfl⟩
theorem Trans.trans{ρ ax eY:Ren}{w w' aa aA aq ep:Aa4}(h:Trans ρ ax w w' aa aA)(k:Trans ax eY aa aA aq ep):Trans ρ eY w w' aq ep where
 le:=Ren.le_trans h.le k.le
 new a b x:=by
  rcases k.new a b x with x| ⟨x,y⟩
  ·exact h.new a b x
  ·exact .inr ⟨Ac3 h.mP x,Ac3 h.fQ y⟩
 mP:=Ac3 h.mP k.mP
 fQ:=Ac3 h.fQ k.fQ
 kE a o x f:=k.kE a o (h.kE a o x f) f
 im b hb hf:=by
  have e:=h.im b hb hf;rw[<-e];refine k.im b (Nat.lt_of_lt_of_le hb h.fQ) fun a ha=>?_
  rcases h.new a b ha with x| ⟨_,y⟩
  ·obtain⟨o,ho,fo⟩:=hf a x
   exact⟨o,h.kE a o ho fo,fo⟩
  ·omega
 Gl b hb eH:=by
  by_cases al:b<aA.heap.size
  ·obtain⟨a,ha⟩:=h.Gl b hb al
   exact⟨a,k.le _ _ ha⟩
  ·exact k.Gl b (by omega) eH
 Jg:=k.Jg.trans h.Jg
 wv:=k.wv.trans h.wv
 vR:=k.vR.trans h.vR
 vS:=k.vS.trans h.vS
def pM(ρ:Ren)(w:Aa4)(e:Aa5):Prop:=
 (∃(b a:Nat),(e.loc=.obj b\/∃c:Aay,e.loc=.cell c/\c.block=b)/\e.sync=false/\ρ a b/\(w.heap.size<=a\/∃o,w.heap[a]?=some o/\(e.write=true->¬lC o)))
 \/e.loc=.mark .noRoom\/∃f,e.loc=.mark (.extern f)
theorem pM.mono{ρ ax:Ren}(h:ρ.le ax){w:Aa4}{e:Aa5}(x:pM ρ w e):pM ax w e:=by
 rcases x with⟨b,a,h1,h2,h3,h4⟩ |x
 ·exact .inl ⟨b,a,h1,h2,h _ _ h3,h4⟩
 ·exact .inr x
theorem pM.back{ρ ax eY:Ren}{w w' aa aA:Aa4}(h:Trans ρ ax w w' aa aA){e:Aa5}(x:pM eY aa e):pM eY w e:=by
 rcases x with⟨b,a,h1,h2,h3,h4⟩ |x
 ·refine .inl ⟨b,a,h1,h2,h3,?_⟩
  by_cases al:w.heap.size<=a
  ·exact .inl al
  ·right
   rcases h4 with h4| ⟨o,ho,hf⟩
   ·have:=h.mP;omega
   ·obtain⟨IJ,U5⟩:∃IJ,w.heap[a]?=some IJ:=⟨w.heap[a]'(by omega),by simp⟩
    refine⟨IJ,U5,fun hw lP=>?_⟩
    have:=h.kE a IJ U5 lP;rw[ho] at this;obtain rfl:=Ac5 this;exact hf hw lP
 ·exact .inr x
def Sim(P' P:Aa6)(C:bQ)(ρ:Ren){α β:Type}(R:Ren->α->β->Prop)(s:Sem α)(s':Sem β):Prop:=
 ∀aE,ρ.le aE->∀(w w':Aa4) (es:Array Aa5),gY C aE w w'->∀a aa,s.run P' w=.ok a aa->
  ∃bH b aA eD,s'.runT P w' es=(.ok b aA,es++eD)/\R bH a b/\gY C bH aa aA/\Trans aE bH w w' aa aA/\∀e∈eD,pM bH w e
section
variable {P' P:Aa6}{C:bQ}{ρ:Ren}{α β γ δ:Type}{R:Ren->α->β->Prop}{S:Ren->γ->δ->Prop}
theorem Sim.mono{ax:Ren}(h:ρ.le ax){s:Sem α}{s':Sem β}(x:Sim P' P C ρ R s s'):Sim P' P C ax R s s':=fun aE h1=>x aE (Ren.le_trans h h1)
theorem Sim.SC{R':Ren->α->β->Prop}{s:Sem α}{s':Sem β}(x:Sim P' P C ρ R s s')(h:∀ax a b,ρ.le ax->R ax a b->R' ax a b):Sim P' P C ρ R' s s':=by
 intro aE h1 w w' es hw a aa hr;obtain⟨bH,b,aA,eD,h2,h3,h4,h5,h6⟩:=x aE h1 w w' es hw a aa hr;exact⟨bH,b,aA,eD,h2,h _ _ _ (Ren.le_trans h1 h5.le) h3,h4,h5,h6⟩
theorem Sim.pure{a:α}{b:β}(h:∀ax,ρ.le ax->R ax a b):Sim P' P C ρ R (.pure a) (.pure b):=by
 intro aE h1 w w' es hw a' aa hr;simp only[Acx,Acw] at hr;obtain⟨rfl,rfl⟩:=hr;exact⟨aE,b,w',#[],by simp[Acy],h _ h1,hw,Trans.refl ..,by simp⟩
theorem Sim.halt{h:Halt}{s':Sem β}:Sim P' P C ρ R (.halt h) s':=by
 intro aE h1 w w' es hw a aa hr;simp[Acx] at hr
theorem run_bind{s:Sem α}{f:α->Sem γ}{p:Aa6}{w:Aa4}:(s.bind f).run p w=match s.run p w with| .ok a w=>(f a).run p w| .halt h w=>.halt h w:=by
 induction s generalizing w with
 |pure a=>rfl
 |load m a k ih=>
  simp only[Acz,Acx]
  (repeat' split)<;>simp_all
 |store m a v k ih=>
  cases v<;>simp only[Acz,Acx]<;>(repeat' split)<;>simp_all
 |new o k ih=>simp only[Acz,Acx,ih]
 |shape r k ih=>simp only[Acz,Acx,ih]
 |freeze a n k ih=>simp only[Acz,Acx,ih]
 |frozen a k ih=>simp only[Acz,Acx,ih]
 |getObj r k ih=>
  simp only[Acz,Acx]
  (repeat' split)<;>simp_all
 |setObj r o k ih=>
  simp only[Acz,Acx]
  (repeat' split)<;>simp_all
 |choose q k ih=>
  simp only[Acz,Acx]
  (repeat' split)<;>simp_all
 |sys c k ih=>simp only[Acz,Acx,ih]
 |program k ih=>simp only[Acz,Acx,ih]
 |mark m k ih=>simp only[Acz,Acx,ih]
 |halt h=>rfl
theorem pA{s:Sem α}{f:α->Sem γ}{p:Aa6}{w:Aa4}{es:Array Aa5}:
 (s.bind f).runT p w es=match s.runT p w es with| (.ok a w,es)=>(f a).runT p w es| (.halt h w,es)=>(.halt h w,es):=by
 induction s generalizing w es with
 |pure a=>rfl
 |load m a k ih=>
  simp only[Acz,Acy]
  (repeat' split)<;>simp_all
 |store m a v k ih=>
  cases v<;>simp only[Acz,Acy]<;>(repeat' split)<;>simp_all
 |new o k ih=>simp only[Acz,Acy,ih]
 |shape r k ih=>simp only[Acz,Acy,ih]
 |freeze a n k ih=>simp only[Acz,Acy,ih]
 |frozen a k ih=>simp only[Acz,Acy,ih]
 |getObj r k ih=>
  simp only[Acz,Acy]
  (repeat' split)<;>simp_all
 |setObj r o k ih=>
  simp only[Acz,Acy]
  (repeat' split)<;>simp_all
 |choose q k ih=>
  simp only[Acz,Acy]
  (repeat' split)<;>simp_all
 |sys c k ih=>simp only[Acz,Acy,ih]
 |program k ih=>simp only[Acz,Acy,ih]
 |mark m k ih=>simp only[Acz,Acy,ih]
 |halt h=>rfl
theorem Sim.bind{s:Sem α}{s':Sem β}{f:α->Sem γ}{g:β->Sem δ}(h:Sim P' P C ρ R s s')(hf:∀ax,ρ.le ax->∀a b,R ax a b->Sim P' P C ax S (f a) (g b)):
 Sim P' P C ρ S (s.bind f) (s'.bind g):=by
 intro aE h1 w w' es hw c aq hr;rw[run_bind] at hr;cases e:s.run P' w with
 |halt h w=>rw[e] at hr;cases hr
 |ok a aa=>
  rw[e] at hr;obtain⟨bH,b,aA,eD,h2,h3,h4,h5,h6⟩:=h aE h1 w w' es hw a aa e;obtain⟨BR,d,ep,O3,k2,k3,k4,k5,k6⟩:=hf bH (Ren.le_trans h1 h5.le) a b h3 bH bH.le_refl aa aA (es++eD) h4 c aq hr;refine⟨BR,d,ep,eD++O3,?_,k3,k4,h5.trans k5,fun x hx=>?_⟩
  ·rw[pA,h2]
   simp only[k2,Aac]
  ·rcases Aad.1 hx with hx|hx
   ·exact(h6 x hx).mono k5.le
   ·exact(k6 x hx).back h5
end
end Go.Sim
namespace Go.Sim
open Go
section
variable {P' P:Aa6}{C:bQ}{ρ:Ren}
def EI:Value->Bool
 | .agg _| .tuple _=>false
 |_=>true
theorem gY.Nf{w w':Aa4}(h:gY C ρ w w'){a b:Nat}(hab:ρ a b):∃o,w.heap[a]?=some o/\∃o',w'.heap[b]?=some o'/\iE C ρ o o':=by
 have:=h.dA a b hab;have e:w.heap[a]?=some w.heap[a]:=by simp[this]
 exact⟨_,e,h.obj a b _ hab e⟩
theorem Sk{w:Aa4}{a:Aay}{v:Value}(h: w.cell? a=some v):∃c e fr,w.heap[a.block]?=some (.cells c e fr)/\a.spot=none/\c[a.off]?=some v:=by
 unfold World.cell? at h;split at h
 ·rename_i c e fr hh
  split at h
  ·cases h
  ·rename_i hs
   exact⟨c,e,_,hh,by cases rR:a.spot<;>simp_all,h⟩
 ·cases h
theorem lL{w:Aa4}{a:Aay}{v:Value}{c:Array Value}{e:Aa1}{fr:Nat×Nat}(h:w.heap[a.block]?=some (.cells c e fr))(hs:a.spot=none)(hc:c[a.off]?=some v): w.cell? a=some v:=by
 unfold World.cell?;simp[h,hs,hc]
theorem gY.cell{w w':Aa4}(h:gY C ρ w w'){a b:Aay}(hab:dU ρ a b){v:Value}(hv: w.cell? a=some v):
 ∃c c' e fr aV v',w.heap[a.block]?=some (.cells c e fr)/\w'.heap[b.block]?=some (.cells c' e aV)/\aP ρ c c'/\(aV=fr\/Full c fr)/\c[a.off]?=some v/\c'[b.off]?=some v'/\ah ρ v v'/\ w'.cell? b=some v':=by
 obtain⟨c,e,fr,hh,hs,hc⟩:=Sk hv;obtain⟨adR,TS,adS⟩:=hab;obtain⟨o',oB,hr⟩:=h.obj _ _ _ adR hh
 ·cases hr with
  | @cells _ c' _ _ aV cX hf=>
    rcases cX.get? a.off with⟨x,_⟩ | ⟨u,u',x,y,z⟩
    ·rw[hc] at x;cases x
    ·rw[hc] at x
     obtain rfl:=Ac5 x;exact⟨c,c',e,fr,aV,u',hh,oB,cX,hf,hc,by rw[<-TS];exact y,z,lL oB (adS▸hs) (by rw[<-TS];exact y)⟩
theorem Sim.load{a b:Aay}(h:dU ρ a b):Sim P' P C ρ ah (Go.load a) (Go.load b):=by
 intro aE h1 w w' es hw v aa hr;have h:=h.mono h1;unfold Go.load at hr |-
 simp only[Acx] at hr;split at hr
 ·rename_i v' hv
  simp only[Acw] at hr;obtain⟨rfl,rfl⟩:=hr;obtain⟨c,c',e,fr,aV,v2,q1,q2,q3,q4,q5,q6,q7,q8⟩:=hw.cell h hv;refine⟨aE,v2,w',#[⟨.cell b,false,false⟩],?_,q7,hw,Trans.refl ..,fun x hx=>?_⟩
  ·simp only[Acy,q8,Aae];rfl
  ·simp at hx
   subst hx;exact .inl ⟨b.block,a.block,.inr ⟨b,rfl,rfl⟩,rfl,h.1,.inr ⟨_,q1,fun x=>by cases x⟩⟩
 ·rename_i hn
  unfold World.farLoad at hr;obtain⟨o,ho,Aj⟩:=hw.Nf h.1;rw[ho] at hr;cases o<;>simp_all [World.noCell]<;>(obtain⟨o',_,x⟩:=Aj;cases x)
theorem xm{w:Aa4}{a:Aay}{c:Array Value}{e:Aa1}{fr:Nat×Nat}(h:w.heap[a.block]?=some (.cells c e fr)): w.frozen? a=(decide (fr.1<=a.off) && decide (a.off<fr.2)):=by
 unfold World.frozen?;rw[h]
theorem Bx{w:Aa4}{a:Aay}{v:Value}{c:Array Value}{e:Aa1}{fr:Nat×Nat}(h:w.heap[a.block]?=some (.cells c e fr))(hs:a.spot=none)(i:Nat):
 (w.setCell a v).heap[i]?=if i=a.block then some (.cells (c.setIfInBounds a.off v) e fr) else w.heap[i]?:=by
 unfold Ac0;simp only[Array.getElem?_modify,hs]
 by_cases hi:i=a.block
 ·subst hi;simp[h]
 ·rw[if_neg (fun e=>hi e.symm),if_neg hi]
theorem Sim.store{a b:Aay}{v v':Value}(h:dU ρ a b)(hv:ah ρ v v'):Sim P' P C ρ (fun _ _ _=>True) (Go.store a v) (Go.store b v'):=by
 intro aE h1 w w' es hw u aa hr;have h:=h.mono h1;have hv:=hv.mono h1;have AB:∀(p:Aa6) (w:Aa4),EI v=true->(Go.store a v).run p w=match w.cell? a with
  |some _=>if w.frozen? a then .halt (.unsupported (.unsafePointer "a write to bytes that a string shares")) w else .ok () (w.setCell a v)
  |none=>match w.farStore p a v false with| .ok (w,_)=>.ok () w| .error h=>.halt h w:=by
  intro p w ho;cases v<;>first|rfl|cases ho
 have afi:∀(p:Aa6) (w:Aa4) (es:Array Aa5),EI v'=true-> w.frozen? b=false->(w.cell? b).isSome->(Go.store b v').runT p w es=(.ok () (w.setCell b v'),es.push ⟨.cell b,true,false⟩):=by
  intro p w es ho hf hc;obtain⟨x,hx⟩:=Option.isSome_iff_exists.1 hc;cases v'<;>first| (unfold Go.store;simp only[Acy,hx,hf,Aaw,if_false];rfl) |cases ho
 have vv:EI v=true:=by
  cases v<;>first|rfl| (unfold Go.store at hr;simp[Acx] at hr)
 have afk:EI v'=true:=by cases hv<;>first|rfl|cases vv
 rw[AB _ _ vv] at hr;split at hr
 ·rename_i x hx
  split at hr
  ·cases hr
  ·rename_i Hh
   simp only[Acw] at hr;obtain⟨_,rfl⟩:=hr;obtain⟨c,c',e,fr,aV,v2,q1,q2,q3,q4,q5,q6,q7,q8⟩:=hw.cell h hx;obtain⟨_,_,_,hh,rR,_⟩:=Sk hx;have al:=(Aaf.1 q5).1
   have xN: w.frozen? a=false:=by simpa using Hh
   rw[xm q1] at xN;have vu:¬Full c fr:=fun⟨x,y⟩=>by
    have:decide (a.off<fr.2)=true:=by simp;omega
    simp[x,this] at xN
   have b7:aV=fr:=q4.resolve_right vu;subst b7;have Vh:b.spot=none:=h.2.2▸rR;have hfb: w'.frozen? b=false:=by rw[xm q2,<-h.2.1];exact xN
   refine⟨aE,(),w'.setCell b v',#[⟨.cell b,true,false⟩],?_,trivial,?_,?_,fun y hy=>?_⟩
   ·rw[afi _ _ _ afk hfb (by rw[q8];rfl)];simp
   ·refine⟨fun i j x=>by simpa [Ac0] using hw.dA i j x,fun i j x=>by simpa [Ac0] using hw.dc i j x,hw.fn,hw.inj,fun i j o vo ho=>?_,hw.tape⟩
    rw[Bx q1 rR] at ho;rw[Bx q2 Vh];by_cases hi:i=a.block
    ·subst hi
     rw[if_pos rfl] at ho;obtain rfl:=Ac5 ho;have:j=b.block:=hw.fn _ _ _ vo h.1;subst this;exact⟨_,if_pos rfl,.cells e (by rw[h.2.1];exact q3.set _ hv) (.inl rfl)⟩
    ·rw[if_neg hi] at ho
     have:j≠b.block:=fun e=>hi (hw.inj _ _ _ vo (e▸h.1))
     rw[if_neg this];exact hw.obj i j o vo ho
   ·refine⟨aE.le_refl,fun _ _ x=>.inl x,by simp[Ac0],by simp[Ac0],fun i o ho hf=>?_,fun j hj hk=>?_,fun j hj qq=>by simp[Ac0] at qq;omega,rfl,rfl,rfl,rfl⟩
    ·rw[Bx q1 rR]
     by_cases hi:i=a.block
     ·subst hi
      rw[q1] at ho;obtain rfl:=Ac5 ho;exact absurd hf vu
     ·rw[if_neg hi];exact ho
    ·rw[Bx q2 Vh]
     by_cases hi:j=b.block
     ·subst hi
      obtain⟨o,ho,hf⟩:=hk _ h.1;rw[q1] at ho;obtain rfl:=Ac5 ho;exact absurd hf vu
     ·rw[if_neg hi]
   ·simp at hy
    subst hy;exact .inl ⟨b.block,a.block,.inr ⟨b,rfl,rfl⟩,rfl,h.1,.inr ⟨_,q1,fun _=>vu⟩⟩
 ·rename_i hn
  unfold World.farStore at hr;obtain⟨o,ho,Aj⟩:=hw.Nf h.1;rw[ho] at hr;cases o<;>simp_all [World.noCell]<;>(obtain⟨o',_,x⟩:=Aj;cases x)
def Ren.add(ρ:Ren)(a b:Nat):Ren:=fun x y=>ρ x y\/(x=a/\y=b)
theorem Ren.OL(ρ:Ren)(a b:Nat):ρ.le (ρ.add a b):=fun _ _ h=>.inl h
theorem Sim.newObj{o o':Obj}(h:iE C ρ o o'):Sim P' P C ρ (fun ax a b=>ax a b) (Go.newObj o) (Go.newObj o'):=by
 intro aE h1 w w' es hw u aa hr;have h:=h.mono h1;unfold Go.newObj at hr |-
 simp only[Acx,Acw] at hr;obtain⟨rfl,rfl⟩:=hr;refine⟨aE.add w.heap.size w'.heap.size,w'.heap.size,{w' with heap:=w'.heap.push o'},#[],by simp only[Acy,Aag],.inr ⟨rfl,rfl⟩,?_,?_,by simp⟩
 ·refine⟨fun a b x=>?_,fun a b x=>?_,fun a b b' x y=>?_,fun a a' b x y=>?_,fun a b q x hq=>?_,hw.tape⟩
  ·rcases x with x| ⟨x,_⟩
   ·have:=hw.dA _ _ x;simp;omega
   ·simp;omega
  ·rcases x with x| ⟨_,x⟩
   ·have:=hw.dc _ _ x;simp;omega
   ·simp;omega
  ·rcases x with x| ⟨x,x'⟩<;>rcases y with y| ⟨y,y'⟩
   ·exact hw.fn _ _ _ x y
   ·have:=hw.dA _ _ x;omega
   ·have:=hw.dA _ _ y;omega
   ·omega
  ·rcases x with x| ⟨x,x'⟩<;>rcases y with y| ⟨y,y'⟩
   ·exact hw.inj _ _ _ x y
   ·have:=hw.dc _ _ x;omega
   ·have:=hw.dc _ _ y;omega
   ·omega
  ·rcases x with x| ⟨rfl,rfl⟩
   ·have al:=hw.dA _ _ x
    have NA:=hw.dc _ _ x;simp only[Aah] at hq |-
    rw[if_neg (by omega)] at hq
    rw[if_neg (by omega)]
    obtain⟨q',e,r⟩:=hw.obj _ _ _ x hq;exact⟨q',e,r.mono (aE.OL _ _)⟩
   ·simp only[Aah] at hq |-
    simp only[if_true] at hq;obtain rfl:=Ac5 hq;exact⟨o',by simp,h.mono (aE.OL _ _)⟩
 ·refine⟨aE.OL _ _,fun a b x=>?_,by simp,by simp,fun a q hq hf=>?_,fun b hb _=>?_,fun b hb eH=>?_,rfl,rfl,rfl,rfl⟩
  ·rcases x with x| ⟨rfl,rfl⟩
   ·exact .inl x
   ·exact .inr ⟨Ac2 _,Ac2 _⟩
  ·have:=(Aaf.1 hq).1
   simp only[Aah]
   rw[if_neg (by omega)]
   exact hq
  ·simp only[Aah]
   rw[if_neg (by omega)]
  ·simp at eH
   exact⟨w.heap.size,.inr ⟨rfl,by omega⟩⟩
theorem Sim.getObj{a b:Nat}(h:ρ a b):Sim P' P C ρ (iE C) (Go.getObj a) (Go.getObj b):=by
 intro aE h1 w w' es hw u aa hr;have h:=h1 _ _ h;unfold Go.getObj at hr |-
 simp only[Acx] at hr;split at hr
 ·cases hr
 ·rename_i o bj ho
  simp only[Acw] at hr;obtain⟨rfl,rfl⟩:=hr;obtain⟨o',e,r⟩:=hw.obj _ _ _ h ho
  ·refine⟨aE,o',w',#[⟨.obj b,false,false⟩],?_,r,hw,Trans.refl ..,fun x hx=>?_⟩
   ·cases r<;>first|exact(bj _ _ _ rfl).elim| (simp only[Acy,e,Aae];rfl)
   ·simp at hx
    subst hx;exact .inl ⟨b,a,.inl rfl,rfl,h,.inr ⟨o,ho,fun x=>by cases x⟩⟩
 ·cases hr
theorem Sim.setObj{a b:Nat}{o o':Obj}(h:ρ a b)(DU:iE C ρ o o'):Sim P' P C ρ (fun _ _ _=>True) (Go.setObj a o) (Go.setObj b o'):=by
 intro aE h1 w w' es hw u aa hr;have h:=h1 _ _ h;have DU:=DU.mono h1;unfold Go.setObj at hr |-
 simp only[Acx] at hr;split at hr
 ·cases hr
 ·rename_i q DR hq
  simp only[Acw] at hr;obtain⟨_,rfl⟩:=hr;have vu:¬lC q:=by
   intro hf;cases q<;>first|exact hf.elim|exact(DR _ _ _ rfl).elim
  have al:=hw.dA _ _ h;have NA:=hw.dc _ _ h;obtain⟨q',e,r⟩:=hw.obj _ _ _ h hq;refine⟨aE,(),{w' with heap:=w'.heap.setIfInBounds b o'},#[⟨.obj b,true,false⟩],?_,trivial,?_,?_,fun x hx=>?_⟩
  ·cases r<;>first|exact(DR _ _ _ rfl).elim| (cases DU<;>(simp only[Acy,e,Aae];rfl))
  ·refine⟨fun i j x=>by simpa using hw.dA i j x,fun i j x=>by simpa using hw.dc i j x,hw.fn,hw.inj,fun i j x vo hx=>?_,hw.tape⟩
   simp only[Aai] at hx |-
   by_cases hi:a=i
   ·subst hi
    rw[if_pos rfl,if_pos al] at hx;obtain rfl:=Ac5 hx;obtain rfl:b=j:=hw.fn _ _ _ h vo;exact⟨o',by simp[NA],DU⟩
   ·rw[if_neg hi] at hx
    have:b≠j:=fun e=>hi (hw.inj _ _ _ h (e▸vo))
    rw[if_neg this];exact hw.obj i j x vo hx
  ·refine⟨aE.le_refl,fun _ _ x=>.inl x,by simp,by simp,fun i x hx hf=>?_,fun j hj hk=>?_,fun j hj qq=>by simp at qq;omega,rfl,rfl,rfl,rfl⟩
   ·simp only[Aai]
    by_cases hi:a=i
    ·subst hi
     rw[hq] at hx;obtain rfl:=Ac5 hx;exact absurd hf vu
    ·rw[if_neg hi];exact hx
   ·simp only[Aai]
    by_cases hi:b=j
    ·subst hi
     obtain⟨x,hx,hf⟩:=hk _ h;rw[hq] at hx;obtain rfl:=Ac5 hx;exact absurd hf vu
    ·rw[if_neg hi]
  ·simp at hx
   subst hx;exact .inl ⟨b,a,.inl rfl,rfl,h,.inr ⟨q,hq,fun _=>vu⟩⟩
 ·cases hr
theorem Sim.choose(q:Question):Sim P' P C ρ (fun _ a b=>a=b) (Go.choose q) (Go.choose q):=by
 intro aE h1 w w' es hw u aa hr;unfold Go.choose at hr |-
 simp only[Acx] at hr;split at hr
 ·rename_i hf
  simp only[Acw] at hr;obtain⟨rfl,rfl⟩:=hr;exact⟨aE,0,w',#[],by simp only[Acy,hf,if_true,Aag],rfl,hw,Trans.refl ..,by simp⟩
 ·rename_i hf
  simp only[Acw] at hr;obtain⟨rfl,rfl⟩:=hr;have ht:=hw.tape 0 q;simp only[Nat.add_zero] at ht;refine⟨aE,q.cut (w'.tape w'.drawn q),{w' with drawn:=w'.drawn+1},#[],by simp only[Acy,hf,Aaw,if_false,Aag],by rw[ht],⟨hw.dA,hw.dc,hw.fn,hw.inj,hw.obj,fun j r=>?_⟩,⟨aE.le_refl,fun _ _ x=>.inl x,Ac2 _,Ac2 _,fun _ _ x _=>x,fun _ _ _=>rfl,fun b hb eH=>by simp at eH;omega,rfl,rfl,rfl,rfl⟩,by simp⟩
  have:=hw.tape (1+j) r;simpa [Nat.add_assoc] using this
theorem Sim.program:Sim P' P C ρ (fun _ a b=>a=P'/\b=P) Go.program Go.program:=by
 intro aE h1 w w' es hw u aa hr;unfold Go.program at hr |-
 simp only[Acx,Acw] at hr;obtain⟨rfl,rfl⟩:=hr;exact⟨aE,P,w',#[],by simp only[Acy,Aag],⟨rfl,rfl⟩,hw,Trans.refl ..,by simp⟩
theorem Sim.shape{a b:Nat}(h:ρ a b):Sim P' P C ρ (fun _ a b=>a=b) (Go.shape a) (Go.shape b):=by
 intro aE h1 w w' es hw u aa hr;have h:=h1 _ _ h;unfold Go.shape at hr |-
 simp only[Acx,Acw] at hr;obtain⟨rfl,rfl⟩:=hr;refine⟨aE,w'.shape? b,w',#[],by simp only[Acy,Aag],?_,hw,Trans.refl ..,by simp⟩
 obtain⟨o,ho,o',oB,r⟩:=hw.Nf h;unfold Ac1;rw[ho,oB];cases r with
 |cells e hc hf=>simp[hc.1]
 |_=>rfl
theorem Sim.noRoom:Sim P' P C ρ (fun _ _ _=>True) (Go.mark .noRoom) (Go.mark .noRoom):=by
 intro aE h1 w w' es hw u aa hr;unfold Go.mark at hr |-
 simp only[Acx,Acw] at hr;obtain⟨_,rfl⟩:=hr;exact⟨aE,(),w',#[⟨.mark .noRoom,false,true⟩],by simp only[Acy,Aae],trivial,hw,Trans.refl ..,fun x hx=>by simp at hx;subst hx;exact .inr (.inl rfl)⟩
end
end Go.Sim
namespace Go.Sim
open Go
def Flat(v:Value):Prop:=ah (fun _ _=>False) v v
theorem Flat.rel{v:Value}(h:Flat v)(ρ:Ren):ah ρ v v:=ah.mono (fun _ _ x=>x.elim) h
def tw(P:Aa6)(F:Array Aa7):Aa6:={P with funcs:=F,globals:=#[]}
theorem XO(P:Aa6)(F:Array Aa7):∀(f:Nat) (t:Aa1),Acl (tw P F).toTables f t=Acl P.toTables f t
 |0,t=>rfl
 |f+1,t=>by
  have e:Acl (tw P F).toTables f=Acl P.toTables f:=funext fun t=>XO P F f t
  show(if t<P.types.size then P.types[t]? else(Made.decode (t - P.types.size)).bind (Made.reckon (Acl (tw P F).toTables f)))=_
  rw[e];rfl
theorem ly(P:Aa6)(F:Array Aa7)(t:Aa1):(tw P F).info? t= P.info? t:=by
 show(if t<P.types.size then P.types[t]? else Acl (tw P F).toTables Made.depth t)=_
 rw[XO];rfl
theorem jH(P:Aa6)(F:Array Aa7)(t:Aa1):(tw P F).underlying t=P.underlying t:=by
 unfold Program.underlying;rw[ly];cases h: P.info? t with
 |none=>rfl
 |some i=>
  obtain⟨d,_⟩:=i;cases d;case named n u=>exact congrArg (Option.map _) (ly P F u)
  all_goals rfl
structure oe(P:Aa6):Prop where
 zero:∀t i v,P.info? t=some i->i.zero=some v->Flat v
section
variable {P:Aa6}{F:Array Aa7}{C:bQ}{ρ:Ren}{α β γ δ:Type}
variable {R:Ren->α->β->Prop}{S:Ren->γ->δ->Prop}
theorem Sim.bind'{P':Aa6}{s:Sem α}{s':Sem β}{f:α->Sem γ}{g:β->Sem δ}(h:Sim P' P C ρ R s s')(hf:∀ax,ρ.le ax->∀a b,R ax a b->Sim P' P C ax S (f a) (g b)):
 Sim P' P C ρ S (s>>=f) (s'>>=g):=Sim.bind h hf
theorem Sim.pure'{P':Aa6}{a:α}{b:β}(h:∀ax,ρ.le ax->R ax a b):Sim P' P C ρ R (Ac7 a) (Ac7 b):=Sim.pure h
theorem Sim.stuck{P':Aa6}{why:String}{s':Sem β}:Sim P' P C ρ R (Go.stuck why:Sem α) s':=Sim.halt
theorem Sim.y8{P':Aa6}{why:String}{f:α->Sem γ}{s':Sem δ}:Sim P' P C ρ S ((Go.stuck why:Sem α)>>=f) s':=Sim.halt
theorem Sim.unsupported{P':Aa6}{u:Unsupported}{s':Sem β}:Sim P' P C ρ R (Go.unsupported u:Sem α) s':=Sim.halt
theorem Sim.BI{P':Aa6}{u:Unsupported}{f:α->Sem γ}{s':Sem δ}:Sim P' P C ρ S ((Go.unsupported u:Sem α)>>=f) s':=Sim.halt
def br(P':Aa6)(s:Sem α):Prop:=∀w a aa,s.run P' w≠ .ok a aa
theorem Sim.never{P':Aa6}{s:Sem α}{s':Sem β}(h:br P' s):Sim P' P C ρ R s s':=fun _ _ w _ _ _ a aa hr=>absurd hr (h w a aa)
theorem br.bind{P':Aa6}{s:Sem α}{f:α->Sem γ}(h:br P' s):br P' (s>>=f):=by
 intro w a aa hr;have hr:(s.bind f).run P' w=.ok a aa:=hr;rw[run_bind] at hr;cases e:s.run P' w with
 |ok b aq=>exact h _ _ _ e
 |halt h' aq=>rw[e] at hr;cases hr
theorem br.kI{P':Aa6}{s:Sem α}{f:α->Sem γ}(h:∀a,br P' (f a)):br P' (s>>=f):=by
 intro w a aa hr;have hr:(s.bind f).run P' w=.ok a aa:=hr;rw[run_bind] at hr;cases e:s.run P' w with
 |ok b aq=>rw[e] at hr;exact h b _ _ _ hr
 |halt h' aq=>rw[e] at hr;cases hr
theorem br.halt{P':Aa6}{h:Halt}:br P' (.halt h:Sem α):=fun w a aa hr=>by simp[Acx] at hr
theorem nL{P':Aa6}(e:RuntimeError):br P' (runtimePanic e:Sem α):=by
 unfold runtimePanic;refine br.kI fun p=>?_
 cases e<;>simp only<;>first|exact br.halt|exact br.kI fun _=>br.kI fun _=>br.halt|exact br.kI fun _=>br.halt
theorem tS{P':Aa6}(k:Aa0)(x y:Int)(c:BoundsCode):br P' (Aa8 k x y c:Sem α):=by
 unfold Aa8;simp only;split<;>exact br.kI fun _=>nL _
theorem Sim.typeInfo(t:Aa1):Sim (tw P F) P C ρ (fun _ a b=>a=b/\ P.info? t=some b) (typeInfo t) (typeInfo t):=by
 unfold Go.typeInfo;refine Sim.bind' Sim.program fun ax _ a b h=>?_
 obtain⟨rfl,rfl⟩:=h;rw[ly];cases h: b.info? t with
 |none=>exact Sim.stuck
 |some i=>exact Sim.pure' fun _ _=>⟨rfl,rfl⟩
theorem Sim.underlying(t:Aa1):Sim (tw P F) P C ρ (fun _ a b=>a=b/\P.underlying t=some b) (underlying t) (underlying t):=by
 unfold Go.underlying;refine Sim.bind' Sim.program fun ax _ a b h=>?_
 obtain⟨rfl,rfl⟩:=h;rw[jH];cases h:b.underlying t with
 |none=>exact Sim.stuck
 |some i=>exact Sim.pure' fun _ _=>⟨rfl,rfl⟩
theorem Sim.zeroValue(T:oe P)(t:Aa1):Sim (tw P F) P C ρ ah (zeroValue t) (zeroValue t):=by
 unfold Go.zeroValue;refine Sim.bind' (Sim.typeInfo t) fun ax _ a b h=>?_
 obtain⟨rfl,hi⟩:=h;cases hz:a.zero with
 |none=>exact Sim.unsupported
 |some v=>exact Sim.pure' fun _ _=>(T.zero t a v hi hz).rel _
theorem Sim.sizeOf(t:Aa1):Sim (tw P F) P C ρ (fun _ a b=>a=b) (sizeOf t) (sizeOf t):=by
 unfold Go.sizeOf;refine Sim.bind' (Sim.typeInfo t) fun ax _ a b h=>?_
 obtain⟨rfl,_⟩:=h;exact Sim.pure' fun _ _=>rfl
theorem Sim.isAgg(t:Aa1):Sim (tw P F) P C ρ (fun _ a b=>a=b) (isAgg t) (isAgg t):=by
 unfold Go.isAgg;refine Sim.bind' (Sim.underlying t) fun ax _ a b h=>?_
 obtain⟨rfl,_⟩:=h;cases a<;>exact Sim.pure' fun _ _=>rfl
theorem Sim.loadCellsFrom{a b:Aay}(h:dU ρ a b)(n:Nat):∀(i:Nat) {acc Gi:Array Value} {ax:Ren},ρ.le ax->aP ax acc Gi->Sim (tw P F) P C ax aP (loadCellsFrom a i n acc) (loadCellsFrom b i n Gi):=by
 induction n with
 |zero=>intro i acc Gi ax hl Dk;exact Sim.pure' fun eY dR=>Dk.mono dR
 |succ n ih=>
  intro i acc Gi ax hl Dk;unfold Go.loadCellsFrom;exact Sim.bind' (Sim.load ((h.mono hl).add i)) fun eY dR v v' hv=>ih (i+1) (Ren.le_trans hl dR) ((Dk.mono dR).push hv)
theorem Sim.loadCells{a b:Aay}(h:dU ρ a b)(n:Nat):Sim (tw P F) P C ρ aP (loadCells a n) (loadCells b n):=
 Sim.loadCellsFrom h n 0 ρ.le_refl .empty
theorem Sim.storeCells{a b:Aay}{vs X2:List Value}(h:dU ρ a b)(hv:fT (ah ρ) vs X2):∀(i:Nat),Sim (tw P F) P C ρ (fun _ _ _=>True) (storeCells a vs i) (storeCells b X2 i):=by
 induction hv with
 |nil=>intro i;exact Sim.pure' fun _ _=>trivial
 |cons hv _ ih=>
  intro i;unfold Go.storeCells;exact Sim.bind' (Sim.store (h.add i) hv) fun ax h' _ _ _=>(ih (i+1)).mono h'
theorem Sim.loadVar(t:Aa1){a b:Aay}(h:dU ρ a b):Sim (tw P F) P C ρ ah (loadVar t a) (loadVar t b):=by
 unfold Go.loadVar;refine Sim.bind' (Sim.isAgg t) fun ax h' x y e=>?_
 subst e;have h:=h.mono h';cases x with
 |true=>
  simp only[if_true];refine Sim.bind' (Sim.sizeOf t) fun eY dR x y e=>?_
  subst e;exact Sim.bind' (Sim.loadCells (h.mono dR) x) fun ej _ c c' hc=>Sim.pure' fun _ h4=>ah.uF (hc.mono h4)
 |false=>exact Sim.load h
theorem Sim.storeVar(t:Aa1){a b:Aay}{v v':Value}(h:dU ρ a b)(hv:ah ρ v v'):Sim (tw P F) P C ρ (fun _ _ _=>True) (storeVar t a v) (storeVar t b v'):=by
 unfold Go.storeVar;refine Sim.bind' (Sim.sizeOf t) fun ax h' x y e=>?_
 subst e;have hc:=(hv.mono h').cells;rw[<-hc.1];split
 ·exact Sim.stuck
 ·exact Sim.storeCells (h.mono h') hc.oG 0
theorem Sim.newRow(e:Aa1){c c':Array Value}(h:aP ρ c c'):Sim (tw P F) P C ρ dU (newRow e c) (newRow e c'):=by
 unfold Go.newRow;exact Sim.bind' (Sim.newObj (.cells e h (.inl rfl))) fun ax _ a b hab=>Sim.pure' fun _ h2=>⟨h2 _ _ hab,rfl,rfl⟩
theorem Sim.newVar(t:Aa1){v v':Value}(h:ah ρ v v'):Sim (tw P F) P C ρ dU (newVar t v) (newVar t v'):=Sim.newRow t h.cells
theorem Sim.part(t:Aa1){c c':Array Value}(h:aP ρ c c')(off:Nat):Sim (tw P F) P C ρ ah (part t c off) (part t c' off):=by
 unfold Go.part;refine Sim.bind' (Sim.isAgg t) fun ax h' x y e=>?_
 subst e;have h:=h.mono h';cases x with
 |true=>
  simp only[if_true];refine Sim.bind' (Sim.sizeOf t) fun eY dR x y e=>?_
  subst e;exact Sim.pure' fun _ h4=>ah.uF ((h.mono (Ren.le_trans dR h4)).extract _ _)
 |false=>
  simp only[Aaw,if_false];rcases h.get? off with⟨e1,_⟩ | ⟨u,v,e1,e2,huv⟩
  ·rw[e1];exact Sim.stuck
  ·rw[e1,e2];exact Sim.pure' fun _ h4=>huv.mono h4
theorem Sim.asIntOf{v v':Value}(h:ah ρ v v'):Sim (tw P F) P C ρ (fun _ a b=>a=b) (asIntOf v) (asIntOf v'):=by
 cases h<;>first|exact Sim.pure' fun _ _=>rfl|exact Sim.halt
theorem Sim.asInt{v v':Value}(h:ah ρ v v'):Sim (tw P F) P C ρ (fun _ a b=>a=b) (asInt v) (asInt v'):=
 Sim.bind' (Sim.asIntOf h) fun _ _ a b e=>by subst e;exact Sim.pure' fun _ _=>rfl
theorem Sim.asBool{v v':Value}(h:ah ρ v v'):Sim (tw P F) P C ρ (fun _ a b=>a=b) (asBool v) (asBool v'):=by
 cases h<;>first|exact Sim.pure' fun _ _=>rfl|exact Sim.halt
theorem Sim.asAgg{v v':Value}(h:ah ρ v v'):Sim (tw P F) P C ρ aP (asAgg v) (asAgg v'):=by
 cases h;case agg hx h1=>exact Sim.pure' fun _ h'=>aP.mono h' ⟨hx,h1⟩
 all_goals exact Sim.halt
theorem Sim.asAddr{v v':Value}(h:ah ρ v v'):Sim (tw P F) P C ρ dU (asAddr v) (asAddr v'):=by
 cases h;case ptr hx=>exact Sim.pure' fun _ h'=>dU.mono h' hx
 case ptrNone=>exact Sim.never (show br (tw P F) (Go.asAddr (.pointer none)) from nL .nilDeref)
 all_goals exact Sim.halt
theorem Sim.sureAddr{v v':Value}(h:ah ρ v v'):Sim (tw P F) P C ρ dU (Instr.sureAddr v) (Instr.sureAddr v'):=by
 cases h;case ptr hx=>exact Sim.pure' fun _ h'=>dU.mono h' hx
 all_goals exact Sim.halt
end
end Go.Sim
namespace Go.Sim
open Go
section
variable {P:Aa6}{F:Array Aa7}{C:bQ}{ρ:Ren}{α β γ δ:Type}
variable {R:Ren->α->β->Prop}{S:Ren->γ->δ->Prop}
def J4(ρ:Ren):Prop:=(∀a b b',ρ a b->ρ a b'->b=b')/\(∀a a' b,ρ a b->ρ a' b->a=a')
theorem Sim.cE{P':Aa6}{σ:Type}{s:Sem σ}{s':Sem σ}{f:σ->Sem γ}{g:σ->Sem δ}(h:Sim P' P C ρ (fun _ a b=>a=b) s s')(hf:∀ax,ρ.le ax->∀a,Sim P' P C ax S (f a) (g a)):
 Sim P' P C ρ S (s>>=f) (s'>>=g):=Sim.bind' h fun ax h' a b e=>by subst e;exact hf ax h' a
theorem Sim.map{P':Aa6}{s:Sem α}{s':Sem β}{f:α->γ}{g:β->δ}(h:Sim P' P C ρ R s s')(hf:∀ax,ρ.le ax->∀a b,R ax a b->∀eY,ax.le eY->S eY (f a) (g b)):
 Sim P' P C ρ S (f<$>s) (g<$>s'):=by
 rw[map_eq_pure_bind,map_eq_pure_bind];exact Sim.bind' h fun ax h' a b r=>Sim.pure' fun eY dR=>hf ax h' a b r eY dR
theorem Sim.fu{t:Aa1}{f:Aa9->Sem γ}{g:Aa9->Sem δ}(hf:∀ax,ρ.le ax->∀a,P.underlying t=some a->Sim (tw P F) P C ax S (f a) (g a)):
 Sim (tw P F) P C ρ S (Go.underlying t>>=f) (Go.underlying t>>=g):=Sim.bind' (Sim.underlying t) fun ax h' a b e=>by obtain⟨rfl,e⟩:=e;exact hf ax h' a e
theorem Sim.BH{t:Aa1}{f:TypeInfo->Sem γ}{g:TypeInfo->Sem δ}(hf:∀ax,ρ.le ax->∀a,P.info? t=some a->Sim (tw P F) P C ax S (f a) (g a)):
 Sim (tw P F) P C ρ S (Go.typeInfo t>>=f) (Go.typeInfo t>>=g):=Sim.bind' (Sim.typeInfo t) fun ax h' a b e=>by obtain⟨rfl,e⟩:=e;exact hf ax h' a e
theorem Sim.Mh{P':Aa6}{ι σ:Type}(l:List ι){f g:ι->σ->Sem (ForInStep σ)}(h:∀x∈l,∀s,Sim P' P C ρ (fun _ a b=>a=b) (f x s) (g x s)):
 ∀s,Sim P' P C ρ (fun _ a b=>a=b) (forIn l s f) (forIn l s g):=by
 induction l with
 |nil=>intro s;exact Sim.pure' fun _ _=>rfl
 |cons x l ih=>
  intro s;rw[List.forIn_cons,List.forIn_cons];refine Sim.cE (h x (by simp) s) fun ax h' r=>?_
  cases r with
  |done s=>exact Sim.pure' fun _ _=>rfl
  |yield s=>exact(ih (fun y hy s=>h y (by simp[hy]) s) s).mono h'
theorem Sim.Tg{P':Aa6}{ι σ:Type}(l:Array ι){f g:ι->σ->Sem (ForInStep σ)}(h:∀x∈l,∀s,Sim P' P C ρ (fun _ a b=>a=b) (f x s) (g x s))(s:σ):
 Sim P' P C ρ (fun _ a b=>a=b) (forIn l s f) (forIn l s g):=by
 rw[<-Aaj,<-Aaj];exact Sim.Mh _ (fun x hx s=>h x (by simpa using hx) s) s
theorem Sim.ahY{P':Aa6}{ι σ:Type}(l:List ι){f g:ι->Sem σ}(h:∀x∈l,Sim P' P C ρ (fun _ a b=>a=b) (f x) (g x)):
 Sim P' P C ρ (fun _ a b=>a=b) (l.mapM f) (l.mapM g):=by
 induction l with
 |nil=>simp only[List.mapM_nil];exact Sim.pure' fun _ _=>rfl
 |cons x l ih=>
  simp only[List.mapM_cons];refine Sim.cE (h x (by simp)) fun ax h' a=>?_
  refine Sim.cE ((ih fun y hy=>h y (by simp[hy])).mono h') fun eY dR b=>Sim.pure' fun _ _=>rfl
theorem Sim.ahX{P':Aa6}{ι σ:Type}(l:Array ι){f g:ι->Sem σ}(h:∀x∈l,Sim P' P C ρ (fun _ a b=>a=b) (f x) (g x)):
 Sim P' P C ρ (fun _ a b=>a=b) (l.mapM f) (l.mapM g):=by
 rw[Aak,Aak];exact Sim.map (Sim.ahY _ fun x hx=>h x (by simpa using hx)) fun _ _ a b e _ _=>by rw[e]
theorem Sim.alloc(T:oe P)(t:Aa1):Sim (tw P F) P C ρ ah (Instr.alloc t true (.tuple #[])) (Instr.alloc t true (.tuple #[])):=by
 unfold Instr.alloc;refine Sim.bind' (Sim.zeroValue T t) fun ax h' v v' hv=>?_
 exact Sim.bind' (Sim.newVar t hv) fun eY dR a b hab=>Sim.pure' fun _ h=>.ptr (hab.mono h)
theorem Sim.box(t:Aa1){v v':Value}(h:ah ρ v v'):Sim (tw P F) P C ρ ah (Instr.box t v) (Instr.box t v'):=by
 unfold Instr.box;exact Sim.bind' (Sim.newVar t h) fun eY dR a b hab=>Sim.pure' fun _ h=>.ptr (hab.mono h)
theorem Sim.loadAt(t:Aa1){v v':Value}(h:ah ρ v v'):Sim (tw P F) P C ρ ah (Instr.loadAt t v) (Instr.loadAt t v'):=
 Sim.bind' (Sim.sureAddr h) fun _ _ _ _ hab=>Sim.loadVar t hab
theorem Sim.storeAt(t:Aa1){v v' x x':Value}(h:ah ρ v v')(hx:ah ρ x x'):Sim (tw P F) P C ρ (fun _ _ _=>True) (Instr.storeAt t v x) (Instr.storeAt t v' x'):=
 Sim.bind' (Sim.sureAddr h) fun _ h' _ _ hab=>Sim.storeVar t hab (hx.mono h')
theorem Sim.fieldAt(s:Aa1){v v':Value}(h:ah ρ v v')(i:Nat)(dh:∀fs f,P.underlying s=some (.struct fs)->fs[i]?=some f->∃info,P.info? f.type=some info/\info.size≠0):
 Sim (tw P F) P C ρ ah (Instr.fieldAt s v i) (Instr.fieldAt s v' i):=by
 unfold Instr.fieldAt;refine Sim.fu fun ax h' d hd=>?_
 cases d;case struct fs=>
  simp only;cases hf:fs[i]? with
  |none=>exact Sim.stuck
  |some f=>
   simp only;refine Sim.bind' (Sim.sureAddr (h.mono h')) fun eY dR a b hab=>?_
   refine Sim.bind' (R:=dU) ?_ fun ej h3 a b hab=>Sim.pure' fun _ h4=>.ptr (hab.mono h4)
   unfold Go.fieldPlace;unfold Go.sizeOf;obtain⟨info,hi,hz⟩:=dh fs f hd hf;simp only[bind_assoc,pure_bind];refine Sim.BH fun ej h3 i bu=>?_
   rw[hi] at bu;obtain rfl:=Ac5 bu;simp only[if_neg hz];exact Sim.pure' fun _ h4=>(hab.mono (Ren.le_trans h3 h4)).add _
 all_goals exact Sim.stuck
inductive fl{α β:Type}(R:α->β->Prop):Option α->Option β->Prop
 |none:fl R none none
 |some {a:α} {b:β} (h:R a b):fl R (some a) (some b)
theorem fl.mono{α β:Type}{R R':α->β->Prop}(h:∀a b,R a b->R' a b){x:Option α}{y:Option β}(k:fl R x y):fl R' x y:=by
 cases k with
 |none=>exact .none
 |some k=>exact .some (h _ _ k)
def rX(t:Aa1)(k:Aa0)(i:Int)(base:Option Aay)(len:Nat)(elem:Aa1):Sem Value:=do
 let amf:=len<=1 && (match <-Go.underlying t with| .array .. =>true|_=>false)
 match base with
 |some a=>
  if 0<=i/\i<len then pure (.pointer (some (a.add (i.toNat * (<-Go.sizeOf elem)))))
  else if amf then Go.unsupported (.noEntry "op/indexAddr.an index out of range at an array of length 0 or 1 (ledger 616)")
  else Aa8 k i len .index
 |none=>Aa8 k i 0 .index
theorem Sim.rX(t:Aa1)(k:Aa0)(i:Int){x y:Option Aay}(hxy:fl (dU ρ) x y)(len:Nat)(e:Aa1):
 Sim (tw P F) P C ρ ah (rX t k i x len e) (rX t k i y len e):=by
 unfold Go.Sim.rX;refine Sim.fu fun lB h4 d' Ud=>?_
 cases hxy with
 |none=>exact Sim.never (tS _ _ _ _)
 |some hxy=>
  simp only;split
  ·exact Sim.cE (Sim.sizeOf _) fun uq h5 n=>Sim.pure' fun _ h6=>.ptr ((hxy.mono (Ren.le_trans h4 (Ren.le_trans h5 h6))).add _)
  ·split
   ·split
    ·exact Sim.unsupported
    ·exact Sim.never (tS _ _ _ _)
   ·split
    ·exact Sim.unsupported
    ·exact Sim.never (tS _ _ _ _)
theorem Sim.af2(t:Aa1)(k:Aa0)(i:Int)(x y:Aay)(e:Aa1):Sim (tw P F) P C ρ ah (Go.Sim.rX t k i (some x) 0 e) (Go.Sim.rX t k i (some y) 0 e):=by
 unfold Go.Sim.rX;refine Sim.fu fun lB h4 d' Ud=>?_
 have hn:¬ (0<=i/\i<((0:Nat):Int)):=by omega
 simp only[if_neg hn];split
 ·split
  ·exact Sim.unsupported
  ·exact Sim.never (tS _ _ _ _)
 ·split
  ·exact Sim.unsupported
  ·exact Sim.never (tS _ _ _ _)
theorem Sim.indexAt(t:Aa1){v v' x x':Value}(h:ah ρ v v')(hx:ah ρ x x'):Sim (tw P F) P C ρ ah (Instr.indexAt t v x) (Instr.indexAt t v' x'):=by
 unfold Instr.indexAt;refine Sim.cE (Sim.asIntOf hx) fun ax h' ki=>?_
 obtain⟨k,i⟩:=ki;simp only;refine Sim.fu fun eY dR d hd=>?_
 have h:=h.mono (Ren.le_trans h' dR);cases d;case array n e=>
  simp only;refine Sim.bind' (Sim.sureAddr h) fun ej h3 a b hab=>?_
  exact Sim.rX t k i (.some hab) n e
 case slice e=>
  cases h;case slice n c hab=>exact Sim.rX t k i (.some hab) n e
  case sliceNone n c=>exact Sim.rX t k i .none n e
  case sliceDead a b=>exact Sim.af2 t k i a b e
  all_goals exact Sim.y8
 all_goals (cases h<;>exact Sim.y8)
theorem Sim.field(t:Aa1){v v':Value}(h:ah ρ v v')(i:Nat):Sim (tw P F) P C ρ ah (Instr.field t v i) (Instr.field t v' i):=by
 unfold Instr.field;refine Sim.fu fun ax h' d hd=>?_
 cases d;case struct fs=>
  simp only;cases hf:fs[i]? with
  |none=>exact Sim.stuck
  |some f=>exact Sim.bind' (Sim.asAgg (h.mono h')) fun _ _ _ _ hab=>Sim.part _ hab _
 all_goals exact Sim.stuck
theorem Sim.index(t:Aa1){v v' x x':Value}(h:ah ρ v v')(hx:ah ρ x x'):Sim (tw P F) P C ρ ah (Instr.index t v x) (Instr.index t v' x'):=by
 unfold Instr.index;refine Sim.cE (Sim.asIntOf hx) fun ax h' ki=>?_
 obtain⟨k,i⟩:=ki;simp only;refine Sim.fu fun eY dR d hd=>?_
 have h:=h.mono (Ren.le_trans h' dR);cases d;case array n e=>
  cases h;case agg hx h1=>
   simp only;split
   ·exact Sim.cE (Sim.sizeOf _) fun uq h5 n=>Sim.part _ (aP.mono h5 ⟨hx,h1⟩) _
   ·exact Sim.never (tS _ _ _ _)
  all_goals exact Sim.stuck
 case string=>
  cases h;case string s=>
   simp only;split
   ·exact Sim.pure' fun _ _=>.int _ _
   ·exact Sim.never (tS _ _ _ _)
  all_goals exact Sim.stuck
 all_goals (cases h<;>exact Sim.stuck)
theorem Sim.sliceBound{v v':Value}(h:ah ρ v v')(y:Nat)(c:BoundsCode):Sim (tw P F) P C ρ (fun _ a b=>a=b) (Abt v y c) (Abt v' y c):=by
 unfold Abt;refine Sim.cE (Sim.asIntOf h) fun ax h' ki=>?_
 obtain⟨k,i⟩:=ki;simp only;split
 ·exact Sim.pure' fun _ _=>rfl
 ·exact Sim.never (tS _ _ _ _)
def uK(l:Option Value)(mx:Bool)(y x:Nat):Sem (Nat×Nat×Nat):=
 match l with
 |some v=>Abt v y (if mx=true then BoundsCode.slice3C else BoundsCode.sliceB)>>=fun l=>Ac7 (l,y,x)
 |none=>Ac7 0>>=fun l=>Ac7 (l,y,x)
theorem Sim.ak7{l l':Option Value}(hl:fl (ah ρ) l l')(mx:Bool)(y x:Nat):Sim (tw P F) P C ρ (fun _ a b=>a=b) (uK l mx y x) (uK l' mx y x):=by
 cases hl with
 |none=>exact Sim.pure' fun _ _=>rfl
 |some hl=>exact Sim.cE (Sim.sliceBound hl _ _) fun _ _ _=>Sim.pure' fun _ _=>rfl
theorem Sim.sliceBounds(b:Bool)(n c:Nat){l l' h h' m m':Option Value}(hl:fl (ah ρ) l l')(hh:fl (ah ρ) h h')(hm:fl (ah ρ) m m'):
 Sim (tw P F) P C ρ (fun _ a b=>a=b) (Abu b n c l h m) (Abu b n c l' h' m'):=by
 have tl:∀(ax:Ren),ρ.le ax->∀(mx:Bool) (x y:Nat),Sim (tw P F) P C ax (fun _ a b=>a=b) (uK l mx y x) (uK l' mx y x):=
  fun ax h' mx x y=>Sim.ak7 (hl.mono fun _ _ x=>ah.mono h' x) mx y x
 unfold Abu;cases hm with
 |none=>
  cases hh with
  |none=>exact tl ρ ρ.le_refl false c n
  |some hh=>
   simp only[pure_bind];exact Sim.cE (Sim.sliceBound hh _ _) fun ax h' y=>tl ax h' false c y
 |some hm=>
  refine Sim.cE (Sim.sliceBound hm _ _) fun ax h' x=>?_
  cases hh with
  |none=>exact Sim.y8
  |some hh=>exact Sim.cE (Sim.sliceBound (hh.mono h') _ _) fun eY dR y=>tl eY (Ren.le_trans h' dR) true x y
theorem Sim.Jb{v v':Value}(h:ah ρ v v')(c:BoundsCode):Sim (tw P F) P C ρ (fun _ a b=>a=0/\b=0) (Abt v 0 c) (Abt v' 0 c):=by
 unfold Abt;refine Sim.cE (Sim.asIntOf h) fun ax h' ki=>?_
 obtain⟨k,i⟩:=ki;simp only;split
 ·have:i.toNat=0:=by omega
  exact Sim.pure' fun _ _=>⟨this,this⟩
 ·exact Sim.never (tS _ _ _ _)
theorem Sim.ak8{l l':Option Value}(hl:fl (ah ρ) l l')(mx:Bool):Sim (tw P F) P C ρ (fun _ a b=>a=(0,0,0)/\b=(0,0,0)) (uK l mx 0 0) (uK l' mx 0 0):=by
 cases hl with
 |none=>exact Sim.pure' fun _ _=>⟨rfl,rfl⟩
 |some hl=>exact Sim.bind' (Sim.Jb hl _) fun _ _ a b ⟨ha,hb⟩=>by subst ha hb;exact Sim.pure' fun _ _=>⟨rfl,rfl⟩
theorem Sim.alw(b:Bool){l l' h h' m m':Option Value}(hl:fl (ah ρ) l l')(hh:fl (ah ρ) h h')(hm:fl (ah ρ) m m'):
 Sim (tw P F) P C ρ (fun _ a b=>a=(0,0,0)/\b=(0,0,0)) (Abu b 0 0 l h m) (Abu b 0 0 l' h' m'):=by
 have tl:∀(ax:Ren),ρ.le ax->∀(mx:Bool),Sim (tw P F) P C ax (fun _ a b=>a=(0,0,0)/\b=(0,0,0)) (uK l mx 0 0) (uK l' mx 0 0):=
  fun ax h' mx=>Sim.ak8 (hl.mono fun _ _ x=>ah.mono h' x) mx
 unfold Abu;cases hm with
 |none=>
  cases hh with
  |none=>exact tl ρ ρ.le_refl false
  |some hh=>
   simp only[pure_bind];exact Sim.bind' (Sim.Jb hh _) fun ax h' x y hxy=>by obtain⟨rfl,rfl⟩:=hxy;exact tl ax h' false
 |some hm=>
  refine Sim.bind' (Sim.Jb hm _) fun ax h' x y hxy=>?_
  obtain⟨rfl,rfl⟩:=hxy;cases hh with
  |none=>exact Sim.y8
  |some hh=>exact Sim.bind' (Sim.Jb (hh.mono h') _) fun eY dR x y hxy=>by obtain⟨rfl,rfl⟩:=hxy;exact tl eY (Ren.le_trans h' dR) true
theorem Sim.slice(t:Aa1){v v':Value}{l l' h h' m m':Option Value}(hv:ah ρ v v')(hl:fl (ah ρ) l l')(hh:fl (ah ρ) h h')(hm:fl (ah ρ) m m'):
 Sim (tw P F) P C ρ ah (Abv t v l h m) (Abv t v' l' h' m'):=by
 unfold Abv;refine Sim.fu fun cw h1 d hd=>?_
 have hv:=hv.mono h1;have hl:=hl.mono fun _ _ x=>ah.mono h1 x
 have hh:=hh.mono fun _ _ x=>ah.mono h1 x
 have hm:=hm.mono fun _ _ x=>ah.mono h1 x
 cases d;case string=>
  cases hv;case string s=>
   cases hm with
   |some _=>exact Sim.y8
   |none=>
    refine Sim.cE (Sim.sliceBounds _ _ _ hl hh .none) fun bM h2 x=>Sim.pure' fun _ _=>.string _
  all_goals exact Sim.stuck
 case slice e=>
  cases hv;case slice n c hab=>
   refine Sim.cE (Sim.sliceBounds _ _ _ hl hh hm) fun bM h2 x=>?_
   obtain⟨x1,x2,x3⟩:=x;simp only;refine Sim.cE (Sim.sizeOf _) fun ej h3 n=>?_
   refine Sim.pure' fun lB h4=>?_
   have hab:=hab.mono (Ren.le_trans h2 (Ren.le_trans h3 h4));split
   ·exact .slice _ _ hab
   ·exact .slice _ _ (hab.add _)
  case sliceNone n c=>
   refine Sim.cE (Sim.sliceBounds _ _ _ hl hh hm) fun bM h2 x=>?_
   obtain⟨x1,x2,x3⟩:=x;simp only;refine Sim.cE (Sim.sizeOf _) fun ej h3 n=>?_
   refine Sim.pure' fun lB h4=>?_
   split<;>exact .sliceNone _ _
  case sliceDead a b=>
   refine Sim.bind' (Sim.alw _ hl hh hm) fun bM h2 x y hxy=>?_
   obtain⟨rfl,rfl⟩:=hxy;simp only;refine Sim.cE (Sim.sizeOf _) fun ej h3 n=>?_
   refine Sim.pure' fun lB h4=>?_
   split<;>exact .sliceDead _ _
  all_goals exact Sim.stuck
 case pointer arr=>
  simp only;refine Sim.bind' (Sim.asAddr hv) fun bM h2 a b hab=>?_
  refine Sim.fu fun ej h3 d' Ud=>?_
  cases d';case array n e=>
   simp only;refine Sim.cE (Sim.sliceBounds _ _ _ (hl.mono fun _ _ x=>ah.mono (Ren.le_trans h2 h3) x) (hh.mono fun _ _ x=>ah.mono (Ren.le_trans h2 h3) x) (hm.mono fun _ _ x=>ah.mono (Ren.le_trans h2 h3) x)) fun lB h4 x=>?_
   obtain⟨x1,x2,x3⟩:=x;simp only;refine Sim.cE (Sim.sizeOf _) fun uq h5 n=>?_
   refine Sim.pure' fun QC h6=>?_
   have hab:=hab.mono (Ren.le_trans h3 (Ren.le_trans h4 (Ren.le_trans h5 h6)));split
   ·exact .slice _ _ hab
   ·exact .slice _ _ (hab.add _)
  all_goals exact Sim.stuck
 all_goals (cases hv<;>exact Sim.stuck)
theorem Sim.sliceAt(t:Aa1){v v':Value}{l l' h h' m m':Option Value}(hv:ah ρ v v')(hl:fl (ah ρ) l l')(hh:fl (ah ρ) h h')(hm:fl (ah ρ) m m'):
 Sim (tw P F) P C ρ ah (Abw t v l h m) (Abw t v' l' h' m'):=by
 unfold Abw;refine Sim.fu fun cw h1 d hd=>?_
 have hv:=hv.mono h1;have hl:=hl.mono fun _ _ x=>ah.mono h1 x
 have hh:=hh.mono fun _ _ x=>ah.mono h1 x
 have hm:=hm.mono fun _ _ x=>ah.mono h1 x
 cases d;case array n e=>
  simp only;refine Sim.bind' (Sim.sureAddr hv) fun bM h2 a b hab=>?_
  refine Sim.cE (Sim.sliceBounds _ _ _ (hl.mono fun _ _ x=>ah.mono h2 x) (hh.mono fun _ _ x=>ah.mono h2 x) (hm.mono fun _ _ x=>ah.mono h2 x)) fun lB h4 x=>?_
  obtain⟨x1,x2,x3⟩:=x;simp only;refine Sim.cE (Sim.sizeOf _) fun uq h5 n=>?_
  refine Sim.pure' fun QC h6=>?_
  have hab:=hab.mono (Ren.le_trans h4 (Ren.le_trans h5 h6));split
  ·exact .slice _ _ hab
  ·exact .slice _ _ (hab.add _)
 all_goals exact Sim.slice t hv hl hh hm
theorem br.program{P':Aa6}{f:Aa6->Sem γ}(h:br P' (f P')):br P' (Go.program>>=f):=by
 intro w a aa hr;exact h w a aa hr
theorem br.typeInfo{t:Aa1}{f:TypeInfo->Sem γ}(h:∀i,P.info? t=some i->br (tw P F) (f i)):br (tw P F) (Go.typeInfo t>>=f):=by
 unfold Go.typeInfo;rw[bind_assoc];refine br.program ?_
 rw[ly];cases e: P.info? t with
 |none=>exact br.halt
 |some i=>exact h i e
theorem XL(P:Aa6)(F:Array Aa7):∀(n:Nat) (t u:Aa1),(tw P F).alikeButTags n t u=P.alikeButTags n t u
 |0,_,_=>rfl
 |n+1,t,u=>by
  have e:(tw P F).alikeButTags n=P.alikeButTags n:=funext fun t=>funext fun u=>XL P F n t u
  unfold Program.alikeButTags;rw[e,ly,ly]
theorem amx(P:Aa6)(F:Array Aa7)(t:Aa1):(tw P F).underlyingId t=P.underlyingId t:=by
 unfold Program.underlyingId;rw[ly]
theorem BF(P:Aa6)(F:Array Aa7):(tw P F).depth=P.depth:=rfl
theorem amw(P:Aa6)(F:Array Aa7)(t:Aa1):(tw P F).stoodInAs t=P.stoodInAs t:=by
 unfold Program.stoodInAs;simp only[jH,XL,amx,BF];rfl
theorem XQ(P:Aa6)(F:Array Aa7)(t:Aa1):(tw P F).stoodInHeld t=P.stoodInHeld t:=by
 unfold Program.stoodInHeld;rw[amw,ly]
theorem Jk(P:Aa6)(F:Array Aa7):∀(d:Nat) (t:Aa1),(tw P F).eqGuardType d t=P.eqGuardType d t
 |0,_=>rfl
 |d+1,t=>by
  have e:(tw P F).eqGuardType d=P.eqGuardType d:=funext fun t=>Jk P F d t
  unfold Program.eqGuardType;rw[jH,e]
def gK(P:Aa6):Nat->Aa1->Bool
 |0,_=>false
 |d+1,t=>
  match P.info? t with
  |none=>false
  |some i=>
   (match i.desc with| .named "sync.copyChecker" _=>false|_=>true) &&
   match P.underlying t with
   |some .bool|some (.int _) |some .string|some (.slice _) |some (.map _ _) |some (.func _ _ _)=>true
   |some (.struct fs)=>fs.all fun f=>gK P d f.type
   |some (.array _ e)=>gK P d e
   |_=>false
theorem Sim.equalIn:∀(d n:Nat) (t:Aa1) {x x' y y':Value} {ρ:Ren},gK P n t=true->ah ρ x x'->ah ρ y y'->
 Sim (tw P F) P C ρ (fun _ a b=>a=b) (Aco d t x y) (Aco d t x' y'):=by
 intro d;induction d with
 |zero=>intro n t x x' y y' ρ _ _ _;exact Sim.halt
 |succ d ih=>
  intro n t x x' y y' ρ h hx hy;cases n with
  |zero=>cases h
  |succ n=>
  unfold Aco;refine Sim.fu fun cw h1 ds hd=>?_
  have hx:=hx.mono h1;have hy:=hy.mono h1;unfold gK at h;cases hi: P.info? t with
  |none=>rw[hi] at h;cases h
  |some info=>
  rw[hi,hd] at h;simp only[Aax] at h;obtain⟨cX,h⟩:=h;cases ds;case bool=>
   cases hx<;>first|exact Sim.stuck| (cases hy<;>first|exact Sim.pure' fun _ _=>rfl|exact Sim.stuck)
  case string=>
   cases hx<;>first|exact Sim.stuck| (cases hy<;>first|exact Sim.pure' fun _ _=>rfl|exact Sim.stuck)
  case int k=>
   cases hx;case int k a=>
    cases hy;case int k' b=>
     have key:Sim (tw P F) P C cw (fun _ a b=>a=b) (if k=k' then Ac7 (a==b) else Go.stuck "==: kinds differ") (if k=k' then Ac7 (a==b) else Go.stuck "==: kinds differ"):=by
      split
      ·exact Sim.pure' fun _ _=>rfl
      ·exact Sim.stuck
     cases a with
     |ofNat a=>cases a<;>(cases b with|ofNat b=>cases b<;>exact key|negSucc b=>exact key)
     |negSucc a=>cases b with|ofNat b=>cases b<;>exact key|negSucc b=>exact key
    case ptr hab=>
     cases a with
     |ofNat a=>cases a<;>first|exact Sim.pure' fun _ _=>rfl|exact Sim.unsupported
     |negSucc a=>exact Sim.unsupported
    all_goals first|exact Sim.unsupported|exact Sim.stuck
   case ptr hab=>
    cases hy;case ptr hab'=>
     refine Sim.never ?_
     refine br.kI fun _=>br.kI fun _=>br.program ?_
     split
     ·rename_i hc
      simp[tw] at hc
     ·refine br.typeInfo fun i bu=>?_
      rw[hi] at bu;obtain rfl:=Ac5 bu;split
      ·rename_i dH
       rw[dH] at cX;cases cX
      ·exact br.halt
    case int k' b=>
     cases b with
     |ofNat b=>cases b<;>first|exact Sim.pure' fun _ _=>rfl|exact Sim.unsupported
     |negSucc b=>exact Sim.unsupported
    all_goals first|exact Sim.unsupported|exact Sim.stuck
   case ptrNone=>cases hy<;>exact Sim.unsupported
   all_goals (cases hy<;>first|exact Sim.unsupported|exact Sim.stuck)
  case slice e=>
   cases hx<;>first|exact Sim.stuck| (cases hy<;>first|exact Sim.pure' fun _ _=>rfl|exact Sim.stuck)
  case map k e=>
   cases hx<;>first|exact Sim.stuck| (cases hy<;>first|exact Sim.pure' fun _ _=>rfl|exact Sim.stuck)
  case func a b c=>
   cases hx<;>first|exact Sim.stuck| (cases hy<;>first|exact Sim.pure' fun _ _=>rfl|exact Sim.stuck)
  case struct fs=>
   cases hx;case agg hxs hxs'=>
    cases hy;case agg hys hys'=>
     simp only;refine Sim.bind' Sim.program fun bM h2 p p' hp=>?_
     obtain⟨rfl,rfl⟩:=hp;rw[XQ];split
     ·exact Sim.unsupported
     ·refine Sim.cE (Sim.Tg fs (fun f hf s=>?_) _) fun ej h3 r=>?_
      ·have Nl:gK p' n f.type=true:=by
        simp only[Aal] at h;exact h f hf
       split
       ·refine Sim.bind' (Sim.part f.type (aP.mono h2 ⟨hxs,hxs'⟩) _) fun ej h3 a a' ha=>?_
        refine Sim.bind' (Sim.part f.type (aP.mono (Ren.le_trans h2 h3) ⟨hys,hys'⟩) _) fun lB h4 b b' hb=>?_
        refine Sim.cE (ih n f.type Nl (ha.mono h4) hb) fun uq h5 r=>?_
        cases r<;>exact Sim.pure' fun _ _=>rfl
       ·exact Sim.pure' fun _ _=>rfl
      ·obtain⟨r,_⟩:=r
       cases r<;>exact Sim.pure' fun _ _=>rfl
    all_goals exact Sim.stuck
   all_goals (cases hy<;>exact Sim.stuck)
  case array len e=>
   cases hx;case agg hxs hxs'=>
    cases hy;case agg hys hys'=>
     simp only;refine Sim.cE (Sim.sizeOf e) fun bM h2 m=>?_
     simp only[Ac8];refine Sim.cE (Sim.Mh _ (fun i hi s=>?_) _) fun ej h3 r=>?_
     ·refine Sim.bind' (Sim.part e (aP.mono h2 ⟨hxs,hxs'⟩) _) fun ej h3 a a' ha=>?_
      refine Sim.bind' (Sim.part e (aP.mono (Ren.le_trans h2 h3) ⟨hys,hys'⟩) _) fun lB h4 b b' hb=>?_
      refine Sim.cE (ih n e h (ha.mono h4) hb) fun uq h5 r=>?_
      cases r<;>exact Sim.pure' fun _ _=>rfl
     ·obtain⟨r,_⟩:=r
      cases r<;>exact Sim.pure' fun _ _=>rfl
    all_goals exact Sim.stuck
   all_goals (cases hy<;>exact Sim.stuck)
  all_goals cases h
theorem FK(P:Aa6)(F:Array Aa7)(t:Aa1):(tw P F).cellsOf t=P.cellsOf t:=by unfold Program.cellsOf;rw[ly]
theorem Jj(P:Aa6)(F:Array Aa7)(t:Aa1):(tw P F).bytesOf t=P.bytesOf t:=by unfold Program.bytesOf;rw[ly]
theorem Qe(P:Aa6)(F:Array Aa7):∀(d:Nat) (t:Aa1) (o:Nat),Aba (tw P F) d t o=Aba P d t o
 |0,_,_=>rfl
 |d+1,t,o=>by
  have e:Aba (tw P F) d=Aba P d:=funext fun t=>funext fun o=>Qe P F d t o
  unfold Aba;simp only[jH,e,FK,Jj]
theorem XM(P:Aa6)(F:Array Aa7):∀(d:Nat) (t:Aa1) (o:Nat),Abb (tw P F) d t o=Abb P d t o
 |0,_,_=>rfl
 |d+1,t,o=>by
  have e:Abb (tw P F) d=Abb P d:=funext fun t=>funext fun o=>XM P F d t o
  unfold Abb;simp only[jH,e,FK,Jj]
theorem ams(P:Aa6)(F:Array Aa7)(d:Nat)(e:Aa1)(c o:Nat)(b:Int):cellAtBytes (tw P F) d e c o b=cellAtBytes P d e c o b:=by
 unfold cellAtBytes;simp only[FK,Jj,Qe,XM]
theorem Sim.Fw{P':Aa6}{a b:Nat}{f:Option (Aa1×Nat)->Sem γ}{g:Option (Aa1×Nat)->Sem δ}(h:ρ a b)(hf:∀ax,ρ.le ax->∀x,Sim P' P C ax S (f x) (g x)):
 Sim P' P C ρ S (Go.shape a>>=f) (Go.shape b>>=g):=Sim.cE (Sim.shape h) hf
theorem Sim.viewAt{P':Aa6}{a b:Nat}(h:ρ a b):Sim P' P C ρ (fun _ x y=>x=none/\y=none) (Go.viewAt a) (Go.viewAt b):=by
 unfold Go.viewAt;refine Sim.Fw h fun ax h' x=>?_
 cases x with
 |some x=>exact Sim.pure' fun _ _=>⟨rfl,rfl⟩
 |none=>
  refine Sim.bind' (Sim.getObj (h' _ _ h)) fun eY dR o o' r=>?_
  cases r<;>exact Sim.pure' fun _ _=>⟨rfl,rfl⟩
theorem Sim.numberAt{P':Aa6}{a b:Nat}(h:ρ a b):Sim P' P C ρ (fun ρ x y=>fl (fun p q=>dU ρ p.1 q.1/\p.2=q.2) x y) (Go.numberAt a) (Go.numberAt b):=by
 unfold Go.numberAt;refine Sim.Fw h fun ax h' x=>?_
 cases x with
 |some x=>exact Sim.pure' fun _ _=>.none
 |none=>
  refine Sim.bind' (Sim.getObj (h' _ _ h)) fun eY dR o o' r=>?_
  cases r;case number l hab=>exact Sim.pure' fun _ h3=>.some ⟨hab.mono h3,rfl⟩
  all_goals exact Sim.pure' fun _ _=>.none
theorem Sim.behindNumber{P':Aa6}{a b:Aay}(h:dU ρ a b):Sim P' P C ρ (fun ρ x y=>dU ρ x.1 y.1/\x.2=y.2) (Go.behindNumber a) (Go.behindNumber b):=by
 unfold Go.behindNumber;refine Sim.bind' (Sim.numberAt h.1) fun ax h' x y r=>?_
 cases r with
 |none=>exact Sim.pure' fun _ h3=>⟨(h.mono h').mono h3,rfl⟩
 |some r=>exact Sim.pure' fun _ h3=>⟨r.1.mono h3,r.2⟩
theorem Sim.asNumber{P':Aa6}{a b:Aay}(h:dU ρ a b)(l:Bool):Sim P' P C ρ ah (Go.asNumber a l) (Go.asNumber b l):=by
 unfold Go.asNumber;exact Sim.bind' (Sim.newObj (.number l h)) fun ax _ a b hab=>Sim.pure' fun _ h3=>.ptr ⟨h3 _ _ hab,rfl,rfl⟩
theorem Sim.noView{P':Aa6}{a b:Aay}(h:dU ρ a b):Sim P' P C ρ (fun _ _ _=>True) (Go.noView a) (Go.noView b):=by
 unfold Go.noView;refine Sim.bind' (Sim.viewAt h.1) fun ax h' x y r=>?_
 obtain⟨rfl,rfl⟩:=r;exact Sim.pure' fun _ _=>trivial
theorem Sim.byteOf{a b:Aay}(h:dU ρ a b):Sim (tw P F) P C ρ (fun _ x y=>x=y) (Go.byteOf a) (Go.byteOf b):=by
 unfold Go.byteOf;rw[<-h.2.2,<-h.2.1];cases a.spot with
 |some s=>exact Sim.pure' fun _ _=>rfl
 |none=>
  refine Sim.bind' Sim.program fun cw h1 p p' hp=>?_
  obtain⟨rfl,rfl⟩:=hp;refine Sim.bind' (Sim.noView (h.mono h1)) fun bM h2 _ _ _=>?_
  refine Sim.Fw (h.mono (Ren.le_trans h1 h2)).1 fun ej h3 x=>?_
  cases x with
  |none=>exact Sim.stuck
  |some x=>
   simp only[FK,Jj,Qe,BF];split
   ·exact Sim.pure' fun _ _=>rfl
   ·cases Aba p' p'.depth x.1 (a.off % p'.cellsOf x.1) with
    |none=>exact Sim.stuck
    |some _=>exact Sim.pure' fun _ _=>rfl
theorem Sim.unsafeAdd(t:Aa1){x x' y y':Value}(hx:ah ρ x x')(hy:ah ρ y y'):Sim (tw P F) P C ρ (fun ρ u u'=>∃a b,u=.pointer (some a)/\u'=.pointer (some b)/\dU ρ a b) (Abf #[] t #[x,y]) (Abf #[] t #[x',y']):=by
 unfold Abf;cases hx;case ptrNone=>
  refine Sim.cE (Sim.asInt hy) fun cw h1 n=>?_
  simp only;split
  ·exact Sim.unsupported
  ·split
   ·exact Sim.BI
   ·exact Sim.unsupported
 case ptr hab=>
  refine Sim.cE (Sim.asInt hy) fun cw h1 n=>?_
  have hab:=hab.mono h1;simp only;split
  ·refine Sim.bind' (Sim.viewAt hab.1) fun bM h2 x y r=>?_
   obtain⟨rfl,rfl⟩:=r;exact Sim.pure' fun _ h3=>⟨_,_,rfl,rfl,hab.mono (Ren.le_trans h2 h3)⟩
  ·split
   ·exact Sim.BI
   ·refine Sim.Fw hab.1 fun ej h3 x=>?_
    cases x with
    |none=>exact Sim.unsupported
    |some x=>
     refine Sim.bind' Sim.program fun lB h4 p p' hp=>?_
     obtain⟨rfl,rfl⟩:=hp;simp only[ams,BF,FK,hab.2.1];split
     ·exact Sim.pure' fun _ h5=>⟨_,_,rfl,rfl,(hab.mono (Ren.le_trans h3 (Ren.le_trans h4 h5))).1,rfl,hab.2.2⟩
     ·exact Sim.unsupported
 all_goals exact Sim.stuck
def Ey(t:Aa1)(x y:Value):Sem Value:=do
 let .pointer (some n):=x|Abf #[] t #[x,y]
 let (a,lost) <-Go.behindNumber n
 match <-Abf #[] t #[.pointer (some a),y] with
 | .pointer (some b)=>Go.asNumber b lost
 |v=>pure v
theorem Sim.Ey(t:Aa1){x x' y y':Value}(hx:ah ρ x x')(hy:ah ρ y y'):Sim (tw P F) P C ρ ah (Ey t x y) (Ey t x' y'):=by
 unfold Go.Sim.Ey;have gen:Sim (tw P F) P C ρ ah (Abf #[] t #[x,y]) (Abf #[] t #[x',y']):=(Sim.unsafeAdd t hx hy).SC fun _ _ _ _ ⟨a,b,e1,e2,h⟩=>by subst e1 e2;exact .ptr h
 cases hx;case ptr hab=>
  refine Sim.bind' (Sim.behindNumber hab) fun bM h2 a b r=>?_
  obtain⟨a,l⟩:=a;obtain⟨b,l'⟩:=b;obtain⟨r,e⟩:=r;simp only at r e |-
  subst e;refine Sim.bind' (Sim.unsafeAdd t (.ptr r) (hy.mono h2)) fun ej h3 u u' hu=>?_
  obtain⟨a,b,rfl,rfl,hab⟩:=hu;exact Sim.asNumber hab _
 case junk=>exact Sim.stuck
 all_goals exact gen
theorem Sim.movedNumber(t:Aa1){x x' y y':Value}(hx:ah ρ x x')(hy:ah ρ y y'):Sim (tw P F) P C ρ ah (Go.movedNumber t x y) (Go.movedNumber t x' y'):=by
 unfold Go.movedNumber;refine Sim.fu fun cw h1 d _=>?_
 have hx:=hx.mono h1;have hy:=hy.mono h1;cases d<;>first|exact Sim.BI|exact Sim.Ey t hx hy
theorem Sim.yq(op:BinOp)(t:Aa1)(k:Aa0)(a:Int)(k':Aa0)(b:Int):Sim (tw P F) P C ρ ah (Go.binOp op t (.int k a) (.int k' b)) (Go.binOp op t (.int k a) (.int k' b)):=by
 have shift:∀op,Sim (tw P F) P C ρ ah (Op.shift op k a k' b) (Op.shift op k a k' b):=by
  intro op;unfold Op.shift;split
  ·exact Sim.never (nL _)
  ·cases op<;>first|exact Sim.stuck|exact Sim.pure' fun _ _=>.int _ _
 have div:∀op,Sim (tw P F) P C ρ ah (Op.intDiv op k a b) (Op.intDiv op k a b):=by
  intro op;unfold Op.intDiv;split
  ·exact Sim.never (nL _)
  ·cases op<;>first|exact Sim.stuck|exact Sim.pure' fun _ _=>.int _ _
 cases op;case shl=>exact shift .shl
 case shr=>exact shift .shr
 all_goals
  simp only[Go.binOp];split
  ·exact Sim.stuck
  ·first|exact div _|exact Sim.pure' fun _ _=>.int _ _|exact Sim.pure' fun _ _=>.bool _
theorem Sim.y7(op:BinOp)(t:Aa1)(a b:ByteArray):Sim (tw P F) P C ρ ah (Go.binOp op t (.string a) (.string b)) (Go.binOp op t (.string a) (.string b)):=by
 cases op;case add=>
  simp only[Go.binOp,Op.stringOp];split
  ·exact Sim.unsupported
  ·exact Sim.pure' fun _ _=>.string _
 all_goals first|exact Sim.pure' fun _ _=>.bool _|exact Sim.stuck
theorem Sim.Sd{x y:Sem Bool}(h:Sim (tw P F) P C ρ (fun _ a b=>a=b) x y)(f:Bool->Bool):Sim (tw P F) P C ρ ah (x>>=fun b=>Ac7 (Value.bool (f b))) (y>>=fun b=>Ac7 (Value.bool (f b))):=
 Sim.cE h fun _ _ _=>Sim.pure' fun _ _=>.bool _
theorem Oy(t:Aa1)(y:Value):br (tw P F) (Acp t (.tuple #[]) y):=by
 show br _ (Aco (9999+1) t (.tuple #[]) y);unfold Aco;refine br.kI fun d=>?_
 cases d<;>first|exact br.halt| (cases y<;>exact br.halt)
theorem Oz(t:Aa1)(x:Value):br (tw P F) (Acp t x (.tuple #[])):=by
 show br _ (Aco (9999+1) t x (.tuple #[]));unfold Aco;refine br.kI fun d=>?_
 cases d<;>(cases x<;>first|exact br.halt| (rename_i a _ _;cases a<;>exact br.halt) | (rename_i a;cases a<;>exact br.halt))
theorem Sim.RS(neq:Bool)(t:Aa1){n:Nat}(ht:gK P n t=true){x x' y y':Value}(hx:ah ρ x x')(hy:ah ρ y y'):
 Sim (tw P F) P C ρ ah (Go.binOp (if neq then .neq else .eql) t x y) (Go.binOp (if neq then .neq else .eql) t x' y'):=by
 have e:Sim (tw P F) P C ρ (fun _ a b=>a=b) (Acp t x y) (Acp t x' y'):=Sim.equalIn _ n t ht hx hy
 have e1:=Sim.Sd e id;have e2:=Sim.Sd e not;cases neq;all_goals
  simp only[Aaw,if_false,if_true];cases hx<;>cases hy<;>first|exact e1|exact e2|exact Sim.yq .eql t _ _ _ _|exact Sim.y7 .eql t _ _|exact Sim.yq .neq t _ _ _ _|exact Sim.y7 .neq t _ _|exact Sim.never (br.bind (Oy _ _)) |exact Sim.never (br.bind (Oz _ _))
theorem Sim.movedPointer(t:Aa1){x x' y y':Value}(hx:ah ρ x x')(hy:ah ρ y y'):Sim (tw P F) P C ρ ah (Go.movedPointer t x y) (Go.movedPointer t x' y'):=by
 unfold Go.movedPointer;have gen:∀ax,ρ.le ax->Sim (tw P F) P C ax ah (Abf #[] t #[x,y]) (Abf #[] t #[x',y']):=fun ax h'=>(Sim.unsafeAdd t (hx.mono h') (hy.mono h')).SC fun _ _ _ _ ⟨a,b,e1,e2,h⟩=>by subst e1 e2;exact .ptr h
 cases hx;case ptr hab=>
  refine Sim.bind' (Sim.numberAt hab.1) fun bM h2 a b r=>?_
  cases r with
  |none=>exact gen bM h2
  |some r=>exact Sim.BI
 case junk=>exact Sim.stuck
 all_goals exact gen ρ ρ.le_refl
theorem Wf(a b:Aay):br (tw P F) (Op.twoPlaces a b):=by
 unfold Op.twoPlaces;refine br.program ?_
 simp only;have:(a.block !=b.block||decide (a.block>=(tw P F).globals.size))=true:=by simp[tw]
 rw[if_pos this];exact br.bind br.halt
theorem Sim.addrMod(k:Aa0){a b:Aay}(h:dU ρ a b)(n:Int):Sim (tw P F) P C ρ ah (Acr k a n) (Acr k b n):=by
 unfold Acr;refine Sim.Fw h.1 fun cw h1 x=>?_
 cases x with
 |none=>exact Sim.unsupported
 |some x=>
  refine Sim.BH fun bM h2 i _=>?_
  simp only;split
  ·exact Sim.BI
  ·exact Sim.cE (Sim.byteOf (h.mono (Ren.le_trans h1 h2))) fun _ _ _=>Sim.pure' fun _ _=>.int _ _
theorem aiQ(op:BinOp)(a b:Aay):br (tw P F) (Go.behindNumber a>>=fun x=>Go.behindNumber b>>=fun y=>Op.addrCmp op x.1 y.1):=by
 refine br.kI fun x=>br.kI fun y=>?_
 unfold Op.addrCmp;exact br.bind (Wf _ _)
theorem aiR(a b:Aay):br (tw P F) (Go.behindNumber a>>=fun x=>Go.behindNumber b>>=fun y=>Op.addrSub .u64 x.1 y.1):=by
 refine br.kI fun x=>br.kI fun y=>?_
 unfold Op.addrSub;exact br.bind (Wf _ _)
theorem Sim.WA(k:Aa0){a b:Aay}(h:dU ρ a b)(n:Int):Sim (tw P F) P C ρ ah (Go.behindNumber a>>=fun x=>Acr k x.1 n) (Go.behindNumber b>>=fun x=>Acr k x.1 n):=
 Sim.bind' (Sim.behindNumber h) fun _ _ _ _ r=>Sim.addrMod k r.1 n
theorem Sim.ajH(t:Aa1){x x' y y':Value}(hx:ah ρ x x')(hy:ah ρ y y'):
 Sim (tw P F) P C ρ ah (Go.underlying t>>=fun d=>if(match d with| .unsafePointer=>true|_=>false)=true then Go.movedPointer t x y else Go.movedNumber t x y)
  (Go.underlying t>>=fun d=>if(match d with| .unsafePointer=>true|_=>false)=true then Go.movedPointer t x' y' else Go.movedNumber t x' y'):=by
 refine Sim.fu fun cw h1 d _=>?_
 split
 ·exact Sim.movedPointer t (hx.mono h1) (hy.mono h1)
 ·exact Sim.movedNumber t (hx.mono h1) (hy.mono h1)
theorem Sim.ZA(t:Aa1){x x' y y':Value}(hx:ah ρ x x')(hy:ah ρ y y'):Sim (tw P F) P C ρ ah (Go.binOp .add t x y) (Go.binOp .add t x' y'):=by
 have p1:=Sim.ajH (P:=P) (F:=F) (C:=C) t hx hy;have p2:=Sim.movedNumber (P:=P) (F:=F) (C:=C) t hy hx;cases hx<;>cases hy<;>first|exact Sim.stuck|exact Sim.unsupported|exact Sim.yq .add t _ _ _ _|exact Sim.y7 .add t _ _|exact p1|exact p2
theorem Sim.ZF(t:Aa1){x x' y y':Value}(hx:ah ρ x x')(hy:ah ρ y y'):Sim (tw P F) P C ρ ah (Go.binOp .sub t x y) (Go.binOp .sub t x' y'):=by
 have p:∀k n,Sim (tw P F) P C ρ ah (Go.movedNumber t x (.int k (-n))) (Go.movedNumber t x' (.int k (-n))):=fun k n=>Sim.movedNumber t hx (.int _ _)
 cases hx<;>cases hy<;>first|exact Sim.stuck|exact Sim.unsupported|exact Sim.yq .sub t _ _ _ _|exact Sim.y7 .sub t _ _|exact p _ _|exact Sim.never (aiR _ _)
theorem Sim.ZB(t:Aa1){x x' y y':Value}(hx:ah ρ x x')(hy:ah ρ y y'):Sim (tw P F) P C ρ ah (Go.binOp .and t x y) (Go.binOp .and t x' y'):=by
 cases hx<;>cases hy<;>first|exact Sim.stuck|exact Sim.unsupported|exact Sim.yq .and t _ _ _ _|exact Sim.y7 .and t _ _|exact Sim.WA _ (by assumption) _
theorem Sim.ZE(t:Aa1){x x' y y':Value}(hx:ah ρ x x')(hy:ah ρ y y'):Sim (tw P F) P C ρ ah (Go.binOp .rem t x y) (Go.binOp .rem t x' y'):=by
 cases hx<;>cases hy<;>first|exact Sim.stuck|exact Sim.unsupported|exact Sim.yq .rem t _ _ _ _|exact Sim.y7 .rem t _ _|exact Sim.WA _ (by assumption) _
inductive oT:BinOp->Prop
 |mul:oT .mul
 |quo:oT .quo
 |or:oT .or
 |xor:oT .xor
 |shl:oT .shl
 |shr:oT .shr
 |andNot:oT .andNot
 |lss:oT .lss
 |leq:oT .leq
 |gtr:oT .gtr
 |geq:oT .geq
theorem Sim.ZC(op:BinOp)(ho:oT op)(t:Aa1){x x' y y':Value}(hx:ah ρ x x')(hy:ah ρ y y'):Sim (tw P F) P C ρ ah (Go.binOp op t x y) (Go.binOp op t x' y'):=by
 cases ho<;>(cases hx<;>cases hy<;>first|exact Sim.stuck|exact Sim.unsupported|exact Sim.yq _ t _ _ _ _|exact Sim.y7 _ t _ _|exact Sim.never (aiQ _ _ _))
theorem Sim.binOp(op:BinOp)(t:Aa1){n:Nat}(ht:op=.eql\/op=.neq->gK P n t=true){x x' y y':Value}(hx:ah ρ x x')(hy:ah ρ y y'):
 Sim (tw P F) P C ρ ah (Go.binOp op t x y) (Go.binOp op t x' y'):=by
 cases op;case eql=>exact Sim.RS false t (ht (.inl rfl)) hx hy
 case neq=>exact Sim.RS true t (ht (.inr rfl)) hx hy
 case add=>exact Sim.ZA t hx hy
 case sub=>exact Sim.ZF t hx hy
 case and=>exact Sim.ZB t hx hy
 case rem=>exact Sim.ZE t hx hy
 all_goals exact Sim.ZC _ (by constructor) t hx hy
theorem aiS(op:BinOp)(t:Aa1)(b:Value):br (tw P F) (Go.binOp op t (.tuple #[]) b):=by
 cases op;case eql=>cases b<;>exact br.bind (Oy t _)
 case neq=>cases b<;>exact br.bind (Oy t _)
 all_goals (cases b<;>exact br.halt)
theorem aiT(op:BinOp)(t:Aa1)(a:Value):br (tw P F) (Go.binOp op t a (.tuple #[])):=by
 cases op;case eql=>cases a<;>exact br.bind (Oz t _)
 case neq=>cases a<;>exact br.bind (Oz t _)
 all_goals (cases a<;>first|exact br.halt| (rename_i a;cases a<;>exact br.halt))
theorem Sim.ajj(op:BinOp)(t:Aa1){n:Nat}(ht:op=.eql\/op=.neq->gK P n t=true/\P.eqGuardType P.depth t=false)(x y:Abc){a a' b b':Value}(ha:ah ρ a a')(hb:ah ρ b b'):
 Sim (tw P F) P C ρ ah (do Go.eqGuard op t x y a b;Go.binOp op t a b) (do Go.eqGuard op t x y a' b';Go.binOp op t a' b'):=by
 by_cases ja:a=.tuple #[]
 ·subst ja
  exact Sim.never (br.kI fun _=>aiS op t b)
 by_cases jb:b=.tuple #[]
 ·subst jb
  exact Sim.never (br.kI fun _=>aiT op t a)
 refine Sim.bind' (R:=fun _ _ _=>True) ?_ fun cw h1 _ _ _=>Sim.binOp op t (fun h=>(ht h).1) (ha.mono h1) (hb.mono h1)
 have pt:∀ {ρ:Ren},Sim (tw P F) P C ρ (fun _ _ _=>True) (Ac7 ():Sem Unit) (Ac7 ()):=Sim.pure' fun _ _=>trivial
 by_cases he:op=.eql\/op=.neq
 ·obtain⟨_,hg⟩:=ht he
  have adU:∀u u' v v',Sim (tw P F) P C ρ (fun _ _ _=>True)
   (do if !(<-Go.program).eqGuardType (<-Go.program).depth t then return
       if <-Acs Acu t u v then Go.unsupported (.noEntry "binop/eql: two nil values of an interface type with methods, in a part of a struct or an array"))
   (do if !(<-Go.program).eqGuardType (<-Go.program).depth t then return
       if <-Acs Acu t u' v' then Go.unsupported (.noEntry "binop/eql: two nil values of an interface type with methods, in a part of a struct or an array")):=by
   intro u u' v v';refine Sim.bind' Sim.program fun cw h1 p p' hp=>?_
   obtain⟨rfl,rfl⟩:=hp;refine Sim.bind' Sim.program fun bM h2 q q' hq=>?_
   obtain⟨rfl,rfl⟩:=hq;rw[Jk,BF,hg];exact pt
  have NJ:Sim (tw P F) P C ρ (fun _ _ _=>True)
   (do if(match x with| .const _=>true|_=>false) || (match y with| .const _=>true|_=>false) then return
       if <-Acs Acu t .nilIface .nilIface then Go.unsupported (.noEntry "binop/eql: two nil values of an interface type with methods, neither of them the literal nil"))
   (do if(match x with| .const _=>true|_=>false) || (match y with| .const _=>true|_=>false) then return
       if <-Acs Acu t .nilIface .nilIface then Go.unsupported (.noEntry "binop/eql: two nil values of an interface type with methods, neither of them the literal nil")):=by
   have tail:Sim (tw P F) P C ρ (fun _ _ _=>True)
    (do if <-Acs Acu t .nilIface .nilIface then Go.unsupported (.noEntry "binop/eql: two nil values of an interface type with methods, neither of them the literal nil"))
    (do if <-Acs Acu t .nilIface .nilIface then Go.unsupported (.noEntry "binop/eql: two nil values of an interface type with methods, neither of them the literal nil")):=by
    refine Sim.cE (Sim.fu fun cw h1 d hd=>?_) fun cw h1 r=>?_
    ·cases d<;>exact Sim.pure' fun _ _=>rfl
    ·cases r
     ·exact pt
     ·exact Sim.unsupported
   cases x<;>cases y<;>first|exact pt|exact tail
  rcases he with rfl|rfl
  all_goals
   cases ha<;>cases hb<;>first|exact pt|exact adU _ _ _ _|exact NJ|exact absurd rfl ja|exact absurd rfl jb
 ·unfold Go.eqGuard
  cases op<;>first|exact pt| (exact absurd (.inl rfl) he) | (exact absurd (.inr rfl) he)
theorem Sim.not{v v':Value}(h:ah ρ v v'):Sim (tw P F) P C ρ ah (Op.unary .not v) (Op.unary .not v'):=by
 cases h<;>first|exact Sim.stuck|exact Sim.pure' fun _ _=>.bool _
theorem Sim.extract{v v':Value}(h:ah ρ v v')(i:Nat):Sim (tw P F) P C ρ ah (Abx v i) (Abx v' i):=by
 unfold Abx;cases h;case tuple hx h1=>
  rcases bU.get? (R:=ah ρ) ⟨hx,h1⟩ i with⟨e1,_⟩ | ⟨a,b,e1,e2,r⟩
  ·simp only[e1];exact Sim.stuck
  ·simp only[e1,e2];exact Sim.pure' fun _ h=>r.mono h
 case junk h _ _=>simp only[Array.getElem?_empty];exact Sim.stuck
 all_goals exact Sim.stuck
theorem Sim.makeFunc(f:Aaz){x x' y y':Array Value}(hx:aP ρ x x')(hy:aP ρ y y'):Sim (tw P F) P C ρ ah (Instr.makeFunc (.func f) x y) (Instr.makeFunc (.func f) x' y'):=
 Sim.pure' fun _ h=>.func (.func f) (hx.mono h).1 (hx.mono h).2 (hy.mono h).1 (hy.mono h).2
theorem Sim.ahW(t:Aa1):Sim (tw P F) P C ρ ah (Aby t none) (Aby t none):=by
 unfold Aby;exact Sim.bind' (Sim.newObj (.map 0 .empty)) fun _ _ _ _ h=>Sim.pure' fun _ h'=>.map (h' _ _ h)
theorem Sim.askRoom{P':Aa6}(n:Nat):Sim P' P C ρ (fun _ _ _=>True) (Go.askRoom n) (Go.askRoom n):=by
 unfold Go.askRoom;split
 ·exact Sim.noRoom
 ·exact Sim.pure' fun _ _=>trivial
theorem aP.get! {x y:Array Value}(h:aP ρ x y)(i:Nat):ah ρ x[i]! y[i]! :=by
 have hs:=h.1;by_cases hi:i<x.size
 ·simpa [Aam,Aaa,hi,hs▸hi] using h.2 i hi (hs▸hi)
 ·have e1:x[i]! =default:=by simp[Aam,Aaa];rw[Aan (by omega)];rfl
  have e2:y[i]! =default:=by simp[Aam,Aaa];rw[Aan (by omega)];rfl
  rw[e1,e2];exact .bool _
theorem aP.Pu{x y:Array Value}(h:aP ρ x y)(n:Nat):aP ρ ((Aao n).map (x[· % x.size]!)) ((Aao n).map (y[· % y.size]!)):=by
 refine⟨by simp,fun i hi bu=>?_⟩
 simp only[Aap,Aaq];rw[<-h.1];exact aP.get! h _
theorem Sim.makeSlice(T:oe P)(t:Aa1){l l' c c':Value}(hl:ah ρ l l')(hc:ah ρ c c'):Sim (tw P F) P C ρ ah (Abz t l c) (Abz t l' c'):=by
 unfold Abz;refine Sim.fu fun cw h1 d hd=>?_
 cases d;case slice e=>
  simp only;refine Sim.cE (Sim.asInt (hl.mono h1)) fun bM h2 ln=>?_
  refine Sim.cE (Sim.asInt (hc.mono (Ren.le_trans h1 h2))) fun ej h3 cp=>?_
  refine Sim.BH fun lB h4 i hi=>?_
  have tail:Sim (tw P F) P C lB ah
   (do
     Go.askRoom ((Ack.wrap cp).toNat * i.bytes)
     let n:=(Ack.wrap cp).toNat * (<-Go.sizeOf e)
     let zero <-if n=0 then Ac7 #[] else do Ac7 (<-Go.zeroValue e).cells
     let a <-Go.newRow e ((Aao n).map (zero[· % zero.size]!))
     Ac7 (.slice (some a) (Ack.wrap ln).toNat (Ack.wrap cp).toNat))
   (do
     Go.askRoom ((Ack.wrap cp).toNat * i.bytes)
     let n:=(Ack.wrap cp).toNat * (<-Go.sizeOf e)
     let zero <-if n=0 then Ac7 #[] else do Ac7 (<-Go.zeroValue e).cells
     let a <-Go.newRow e ((Aao n).map (zero[· % zero.size]!))
     Ac7 (.slice (some a) (Ack.wrap ln).toNat (Ack.wrap cp).toNat)):=by
   refine Sim.bind' (Sim.askRoom _) fun uq h5 _ _ _=>?_
   refine Sim.cE (Sim.sizeOf e) fun QC h6 sz=>?_
   simp only;split
   ·refine Sim.bind' (R:=aP) (Sim.pure' fun _ _=>bU.empty) fun FT h7 x y hxy=>?_
    exact Sim.bind' (Sim.newRow e (aP.Pu hxy _)) fun Yi h8 a b hab=>Sim.pure' fun _ h9=>.slice _ _ (hab.mono h9)
   ·refine Sim.bind' (Sim.zeroValue T e) fun FT h7 v v' hv=>?_
    refine Sim.bind' (R:=aP) (Sim.pure' fun _ h=>aP.mono h hv.cells) fun FT h7 x y hxy=>?_
    exact Sim.bind' (Sim.newRow e (aP.Pu hxy _)) fun Yi h8 a b hab=>Sim.pure' fun _ h9=>.slice _ _ (hab.mono h9)
  split
  ·refine Sim.never ?_
   split
   ·exact br.bind (nL _)
   ·split
    ·exact br.bind (nL _)
    ·exact br.kI fun _=>br.bind (nL _)
  ·exact tail
 all_goals exact Sim.stuck
abbrev zw(ρ:Ren):Nat×Value->Nat×Value->Prop:=fun p q=>p.1=q.1/\ah ρ p.2 q.2
theorem acO{x y:List (Value×Nat)}(h:fT (fun p q=>ah ρ p.1 q.1/\p.2=q.2) x y)(off:Nat):∀ {c c':Array Value},aP ρ c c'->
 aP ρ (x.foldl (fun cs p=>cs.setIfInBounds (off+p.2) p.1) c) (y.foldl (fun cs p=>cs.setIfInBounds (off+p.2) p.1) c'):=by
 induction h with
 |nil=>intro c c' hc;exact hc
 |cons hp _ ih=>
  intro c c' hc;simp only[List.foldl_cons];rw[<-hp.2];exact ih (hc.set _ hp.1)
theorem ans{x y:List Value}(h:fT (ah ρ) x y):∀n,fT (fun p q=>ah ρ p.1 q.1/\p.2=q.2) (x.zipIdx n) (y.zipIdx n):=by
 induction h with
 |nil=>intro n;exact .nil
 |cons hp _ ih=>intro n;simp only[List.zipIdx_cons];exact .cons ⟨hp,rfl⟩ (ih _)
theorem Me(place:Nat->Option (Nat×Nat)){p q:List (Nat×Value)}(h:fT (zw ρ) p q):∀ {c c':Array Value},aP ρ c c'->fl (aP ρ) (Ab0 place c p) (Ab0 place c' q):=by
 induction h with
 |nil=>intro c c' hc;exact .some hc
 | @cons a b x y hp _ ih=>
   intro c c' hc;obtain⟨i,v⟩:=a;obtain⟨i',v'⟩:=b;obtain⟨e,hv⟩:=hp;simp only at e hv;subst e;have fg:=hv.cells;unfold Ab0;cases place i with
   |none=>exact .none
   |some os=>
    obtain⟨off,size⟩:=os;simp only;rw[<-fg.1,<-hc.1];split
    ·exact .none
    ·refine ih ?_
     have:=acO (ans fg.oG 0) off hc;rw[<-Aar,<-Aar,Aas,Aas];exact this
theorem Sim.build(T:oe P)(t:Aa1){p q:Array (Nat×Value)}(h:bU (zw ρ) p q):Sim (tw P F) P C ρ ah (Ab1 t p) (Ab1 t q):=by
 unfold Ab1;refine Sim.bind' (Sim.zeroValue T t) fun cw h1 z z' hz=>?_
 refine Sim.fu fun bM h2 d hd=>?_
 have hz:=(hz.mono h2).cells;have h:bU (zw bM) p q:=h.mono fun _ _ x=>⟨x.1,x.2.mono (Ren.le_trans h1 h2)⟩
 cases d;case struct fs=>
  simp only;refine Sim.cE (Sim.ahX fs fun f _=>Sim.cE (Sim.sizeOf f.type) fun _ _ _=>Sim.pure' fun _ _=>rfl) fun ej h3 places=>?_
  have:=Me (fun i=>places[i]?) h.oG hz
  generalize Ab0 (fun i=>places[i]?) z.cells p.toList=r at this |-
  generalize Ab0 (fun i=>places[i]?) z'.cells q.toList=r' at this |-
  cases this with
  |none=>exact Sim.stuck
  |some hr=>exact Sim.pure' fun _ h4=>ah.uF (hr.mono (Ren.le_trans h3 h4))
 case array n e=>
  simp only;refine Sim.cE (Sim.sizeOf e) fun ej h3 size=>?_
  have:=Me (fun i=>some (i * size,size)) h.oG hz
  generalize Ab0 (fun i=>some (i * size,size)) z.cells p.toList=r at this |-
  generalize Ab0 (fun i=>some (i * size,size)) z'.cells q.toList=r' at this |-
  cases this with
  |none=>exact Sim.stuck
  |some hr=>exact Sim.pure' fun _ h4=>ah.uF (hr.mono (Ren.le_trans h3 h4))
 all_goals exact Sim.stuck
theorem Sim.buildSlice(T:oe P)(t:Aa1)(n:Nat){p q:Array (Nat×Value)}(h:bU (zw ρ) p q):Sim (tw P F) P C ρ ah (Ab2 t n p) (Ab2 t n q):=by
 unfold Ab2;refine Sim.fu fun cw h1 d hd=>?_
 cases d;case slice e=>
  simp only;refine Sim.cE (Sim.sizeOf e) fun bM h2 size=>?_
  split
  ·exact Sim.BI
  ·have tail:∀ {ax:Ren},bM.le ax->∀ {z z':Array Value},aP ax z z'->Sim (tw P F) P C ax ah
    (match Ab0 (fun i=>some (i * size,size)) ((Aao (n * size)).map (z[· % z.size]!)) p.toList with
      |some cells=>do Ac7 (.slice (some (<-Go.newRow e cells)) n n)
      |_=>Go.stuck "buildSlice: a part of the wrong size")
    (match Ab0 (fun i=>some (i * size,size)) ((Aao (n * size)).map (z'[· % z'.size]!)) q.toList with
      |some cells=>do Ac7 (.slice (some (<-Go.newRow e cells)) n n)
      |_=>Go.stuck "buildSlice: a part of the wrong size"):=by
    intro ax h' z z' hz;have h:bU (zw ax) p q:=h.mono fun _ _ x=>⟨x.1,x.2.mono (Ren.le_trans h1 (Ren.le_trans h2 h'))⟩
    have:=Me (fun i=>some (i * size,size)) h.oG (aP.Pu hz (n * size))
    generalize Ab0 (fun i=>some (i * size,size)) ((Aao (n * size)).map (z[· % z.size]!)) p.toList=r at this |-
    generalize Ab0 (fun i=>some (i * size,size)) ((Aao (n * size)).map (z'[· % z'.size]!)) q.toList=r' at this |-
    cases this with
    |none=>exact Sim.stuck
    |some hr=>exact Sim.bind' (Sim.newRow e hr) fun _ _ a b hab=>Sim.pure' fun _ h9=>.slice _ _ (hab.mono h9)
   split
   ·refine Sim.bind' (R:=aP) (Sim.pure' fun _ _=>bU.empty) fun FT h7 x y hxy=>?_
    exact tail h7 hxy
   ·refine Sim.bind' (Sim.zeroValue T e) fun FT h7 v v' hv=>?_
    refine Sim.bind' (R:=aP) (Sim.pure' fun _ h=>aP.mono h hv.cells) fun Yi h8 x y hxy=>?_
    exact tail (Ren.le_trans h7 h8) hxy
 all_goals exact Sim.stuck
theorem Sim.lenOf{v v':Value}(h:ah ρ v v'):Sim (tw P F) P C ρ (fun _ a b=>a=b) (Abg v) (Abg v'):=by
 cases h<;>first|exact Sim.pure' fun _ _=>rfl|exact Sim.stuck
theorem Se(b:ByteArray):aP ρ (b.data.map fun b=>.int .u8 b.toNat) (b.data.map fun b=>.int .u8 b.toNat):=by
 refine bU.refl fun a ha=>?_
 obtain⟨b,_,rfl⟩:=Array.mem_map.1 ha;exact .int _ _
def Dn(v:Value)(n:Nat):Prop:=∀a,v=.slice (some a) 0 0->n=0
theorem Sim.OO{v v':Value}(h:ah ρ v v'):Sim (tw P F) P C ρ (fun _ a b=>a=b/\Dn v a) (Abg v) (Abg v'):=by
 cases h<;>first|exact Sim.pure' fun _ _=>⟨rfl,fun a e=>by cases e;rfl⟩ |exact Sim.pure' fun _ _=>⟨rfl,fun a e=>by cases e⟩ |exact Sim.stuck
theorem Sim.S8(size:Nat){v v':Value}(h:ah ρ v v'):Sim (tw P F) P C ρ (fun _ a b=>a=#[]/\b=#[]) (Abh size 0 v) (Abh size 0 v'):=by
 cases h;case slice len cap hab=>simp only[Abh,Ac4];exact Sim.pure' fun _ _=>⟨rfl,rfl⟩
 case sliceDead=>simp only[Abh,Ac4];exact Sim.pure' fun _ _=>⟨rfl,rfl⟩
 case sliceNone=>exact Sim.pure' fun _ _=>⟨rfl,rfl⟩
 case string s=>exact Sim.pure' fun _ _=>⟨by simp,by simp⟩
 all_goals exact Sim.stuck
theorem Sim.firstCells(size n:Nat){v v':Value}(h:ah ρ v v')(hd:Dn v n):Sim (tw P F) P C ρ aP (Abh size n v) (Abh size n v'):=by
 cases h;case slice len cap hab=>exact Sim.loadCells hab _
 case sliceNone=>exact Sim.pure' fun _ _=>.empty
 case sliceDead a b=>
  obtain rfl:=hd a rfl;simp only[Abh,Ac4];exact Sim.pure' fun _ _=>.empty
 case string s=>exact Sim.pure' fun _ _=>Se _
 all_goals exact Sim.stuck
theorem aP.zeroCells{x y:Array Value}(h:aP ρ x y)(n:Nat):aP ρ (Abi x n) (Abi y n):=by
 unfold Abi;rw[<-h.1];refine⟨by simp,fun i hi bu=>?_⟩
 simp only[Aap,Aaq];exact aP.get! h _
theorem Sim.len{v v':Value}(ts:Array Aa1)(t:Aa1)(h:ah ρ v v'):Sim (tw P F) P C ρ ah (Abj ts t #[v]) (Abj ts t #[v']):=by
 unfold Abj;cases ts[0]? with
 |none=>exact Sim.stuck
 |some u=>
  refine Sim.fu fun cw h1 d hd=>?_
  have h:=h.mono h1;cases d;case array n e=>exact Sim.pure' fun _ _=>.int _ _
  case string=>cases h<;>first|exact Sim.stuck|exact Sim.pure' fun _ _=>.int _ _
  case slice e=>cases h<;>first|exact Sim.stuck|exact Sim.pure' fun _ _=>.int _ _
  case pointer e=>
   refine Sim.fu fun bM h2 d hd=>?_
   cases d<;>first|exact Sim.stuck|exact Sim.pure' fun _ _=>.int _ _
  case map k e=>
   cases h;case mapNone=>exact Sim.pure' fun _ _=>.int _ _
   case map r=>
    refine Sim.bind' (Sim.getObj r) fun bM h2 o o' ro=>?_
    cases ro;case map clock hm=>simp only[hm.1];exact Sim.pure' fun _ _=>.int _ _
    all_goals exact Sim.stuck
   all_goals exact Sim.stuck
  case chan dd e=>
   cases h;case chanNone=>exact Sim.pure' fun _ _=>.int _ _
   case chan r=>
    refine Sim.bind' (Sim.getObj r) fun bM h2 o o' ro=>?_
    cases ro<;>exact Sim.stuck
   all_goals exact Sim.stuck
  all_goals (cases h<;>exact Sim.stuck)
theorem Sim.max2{a a' b b':Value}(ha:ah ρ a a')(hb:ah ρ b b'):Sim (tw P F) P C ρ ah (Builtin.max2 a b) (Builtin.max2 a' b'):=by
 cases ha<;>cases hb<;>first|exact Sim.stuck|exact Sim.unsupported|exact Sim.pure' fun _ _=>.int _ _|exact Sim.pure' fun _ _=>.string _
theorem Sim.min2{a a' b b':Value}(ha:ah ρ a a')(hb:ah ρ b b'):Sim (tw P F) P C ρ ah (Builtin.min2 a b) (Builtin.min2 a' b'):=by
 cases ha<;>cases hb<;>first|exact Sim.stuck|exact Sim.unsupported|exact Sim.pure' fun _ _=>.int _ _|exact Sim.pure' fun _ _=>.string _
theorem Sim.foldlM{f g:Value->Value->Sem Value}(hf:∀ {ax:Ren} {a a' b b'},ah ax a a'->ah ax b b'->Sim (tw P F) P C ax ah (f a b) (g a' b')){x y:List Value}(h:fT (ah ρ) x y):
 ∀ {ax:Ren},ρ.le ax->∀ {a b},ah ax a b->Sim (tw P F) P C ax ah (x.foldlM f a) (y.foldlM g b):=by
 induction h with
 |nil=>intro ax h' a b hab;exact Sim.pure' fun _ h=>hab.mono h
 |cons hp _ ih=>
  intro ax h' a b hab;simp only[List.foldlM_cons];exact Sim.bind' (hf hab (hp.mono h')) fun eY dR _ _ r=>ih (Ren.le_trans h' dR) r
theorem Sim.max(ts:Array Aa1)(t:Aa1){x y:Array Value}(h:aP ρ x y):Sim (tw P F) P C ρ ah (Abk ts t x) (Abk ts t y):=by
 unfold Abk;have:=h.oG;generalize x.toList=l at this |-
 generalize y.toList=l' at this |-
 cases this with
 |nil=>exact Sim.stuck
 |cons hp ht=>exact Sim.foldlM Sim.max2 ht ρ.le_refl hp
theorem Sim.min(ts:Array Aa1)(t:Aa1){x y:Array Value}(h:aP ρ x y):Sim (tw P F) P C ρ ah (Abl ts t x) (Abl ts t y):=by
 unfold Abl;have:=h.oG;generalize x.toList=l at this |-
 generalize y.toList=l' at this |-
 cases this with
 |nil=>exact Sim.stuck
 |cons hp ht=>exact Sim.foldlM Sim.min2 ht ρ.le_refl hp
theorem Sim.copy(ts:Array Aa1)(t:Aa1){a a' b b':Value}(ha:ah ρ a a')(hb:ah ρ b b'):Sim (tw P F) P C ρ ah (Abm ts t #[a,b]) (Abm ts t #[a',b']):=by
 unfold Abm;cases ts[0]? with
 |none=>exact Sim.stuck
 |some u=>
  refine Sim.fu fun cw h1 d hd=>?_
  cases d;case slice e=>
   have ha:=ha.mono h1;have hb:=hb.mono h1;cases ha;case sliceDead a1 a2=>
    refine Sim.cE (Sim.lenOf hb) fun bM h2 m=>?_
    refine Sim.cE (Sim.sizeOf e) fun ej h3 s=>?_
    simp only[show Nat.min m 0=0 from Nat.min_zero m]
    refine Sim.bind' (Sim.S8 s (hb.mono (Ren.le_trans h2 h3))) fun lB h4 x y hxy=>?_
    obtain⟨rfl,rfl⟩:=hxy;exact Sim.pure' fun _ _=>.int _ _
   case slice n c hab=>
    refine Sim.bind' (Sim.OO hb) fun bM h2 m m' hm=>?_
    obtain⟨rfl,dm⟩:=hm;refine Sim.cE (Sim.sizeOf e) fun ej h3 s=>?_
    refine Sim.bind' (Sim.firstCells s _ (hb.mono (Ren.le_trans h2 h3)) fun a e=>by have:=dm a e;subst this;exact Nat.zero_min _) fun lB h4 x y hxy=>?_
    exact Sim.bind' (Sim.storeCells (hab.mono (Ren.le_trans h2 (Ren.le_trans h3 h4))) hxy.oG 0) fun _ _ _ _ _=>Sim.pure' fun _ _=>.int _ _
   case sliceNone n c=>
    refine Sim.bind' (Sim.OO hb) fun bM h2 m m' hm=>?_
    obtain⟨rfl,dm⟩:=hm;refine Sim.cE (Sim.sizeOf e) fun ej h3 s=>?_
    refine Sim.bind' (Sim.firstCells s _ (hb.mono (Ren.le_trans h2 h3)) fun a e=>by have:=dm a e;subst this;exact Nat.zero_min _) fun lB h4 x y hxy=>?_
    exact Sim.pure' fun _ _=>.int _ _
   all_goals exact Sim.stuck
  all_goals exact Sim.stuck
theorem Sim.clear(T:oe P)(ts:Array Aa1)(t:Aa1){a a':Value}(ha:ah ρ a a'):Sim (tw P F) P C ρ ah (Abn ts t #[a]) (Abn ts t #[a']):=by
 unfold Abn;have e:∀ {ax:Ren},ah ax (.tuple #[]) (.tuple #[]):=ah.tuple' .empty
 cases ts[0]? with
 |none=>exact Sim.stuck
 |some u=>
  refine Sim.fu fun cw h1 d hd=>?_
  have ha:=ha.mono h1;cases ha;case slice n c hab=>
   cases n with
   |zero=>cases d<;>exact Sim.pure' fun _ _=>e
   |succ n=>
    cases d;case slice el=>
     refine Sim.bind' (Sim.zeroValue T el) fun bM h2 v v' hv=>?_
     exact Sim.bind' (Sim.storeCells (hab.mono h2) (aP.zeroCells hv.cells _).oG 0) fun _ _ _ _ _=>Sim.pure' fun _ _=>e
    all_goals exact Sim.stuck
  case sliceNone n c=>cases d<;>exact Sim.pure' fun _ _=>e
  case sliceDead a b=>cases d<;>exact Sim.pure' fun _ _=>e
  case mapNone=>cases d<;>exact Sim.pure' fun _ _=>e
  case map r=>
   cases d;all_goals
    refine Sim.bind' (Sim.getObj r) fun bM h2 o o' ro=>?_
    cases ro;case map clock hm=>exact Sim.bind' (Sim.setObj (h2 _ _ r) (.map clock .empty)) fun _ _ _ _ _=>Sim.pure' fun _ _=>e
    all_goals exact Sim.stuck
  all_goals (cases d<;>exact Sim.stuck)
def wV(elem:Aa1)(base:Option Aay)(eF gG:Nat)(s x:Value)(size n:Nat):Sem Value:=do
 let nK:=eF+n
 if nK<=gG then
  let new <-Abh size n x
  if let some a:=base then Go.storeCells (a.add (eF * size)) new.toList
  pure (.slice base nK gG)
 else
  if(nK:Int)>Ack.max/\(false\/(<-Go.typeInfo elem).bytes=0) then runtimePanic (.error "growslice: len out of range")
  if Abo nK gG * (<-Go.typeInfo elem).bytes>2 ^ 48 then(if false then runtimePanic (.error "growslice: len out of range") else do
   if !(<-Abp size eF n base x) then Go.mark .noRoom
   Go.unsupported (.resourceLimit "append: a slice or a string whose bytes no memory bears"))
  let jE <-Go.choose (.appendCap nK gG elem)
  Go.askRoom (jE * (<-Go.typeInfo elem).bytes)
  let old <-Abh size eF s
  let new <-Abh size n x
  let rest:=Abi (<-Go.zeroValue elem).cells (jE - nK)
  pure (.slice (some (<-Go.newRow elem (old++new++rest))) nK jE)
theorem Sim.grow(T:oe P)(elem:Aa1)(nK gG eF size n:Nat){s s' x x':Value}(hs:ah ρ s s')(hx:ah ρ x x')(ds:Dn s eF)(dx:Dn x n):Sim (tw P F) P C ρ ah
 (do
   let jE <-Go.choose (.appendCap nK gG elem)
   Go.askRoom (jE * (<-Go.typeInfo elem).bytes)
   let old <-Abh size eF s
   let new <-Abh size n x
   let rest:=Abi (<-Go.zeroValue elem).cells (jE - nK)
   Ac7 (.slice (some (<-Go.newRow elem (old++new++rest))) nK jE))
 (do
   let jE <-Go.choose (.appendCap nK gG elem)
   Go.askRoom (jE * (<-Go.typeInfo elem).bytes)
   let old <-Abh size eF s'
   let new <-Abh size n x'
   let rest:=Abi (<-Go.zeroValue elem).cells (jE - nK)
   Ac7 (.slice (some (<-Go.newRow elem (old++new++rest))) nK jE)):=by
 refine Sim.cE (Sim.choose _) fun cw h1 jE=>?_
 refine Sim.BH fun bM h2 i hi=>?_
 refine Sim.bind' (Sim.askRoom _) fun ej h3 _ _ _=>?_
 have l3:=Ren.le_trans h1 (Ren.le_trans h2 h3);refine Sim.bind' (Sim.firstCells _ _ (hs.mono l3) ds) fun lB h4 o o' ho=>?_
 refine Sim.bind' (Sim.firstCells _ _ (hx.mono (Ren.le_trans l3 h4)) dx) fun uq h5 w w' hw=>?_
 refine Sim.bind' (Sim.zeroValue T elem) fun QC h6 z z' hz=>?_
 refine Sim.bind' (Sim.newRow elem (((ho.mono (Ren.le_trans h5 h6)).append (hw.mono h6)).append (aP.zeroCells hz.cells _))) fun FT h7 a b hab=>Sim.pure' fun _ h8=>.slice _ _ (hab.mono h8)
theorem Sim.wV(T:oe P)(elem:Aa1){b b':Option Aay}(eF gG:Nat)(hb:fl (dU ρ) b b'\/(∃a a',b=some a/\b'=some a'/\eF=0/\gG=0)){s s' x x':Value}(hs:ah ρ s s')(hx:ah ρ x x')(size n:Nat)(ds:Dn s eF)(dx:Dn x n):
 Sim (tw P F) P C ρ ah (wV elem b eF gG s x size n) (wV elem b' eF gG s' x' size n):=by
 unfold Go.Sim.wV;simp only;split
 ·rename_i hle
  rcases hb with hb| ⟨a,a',rfl,rfl,rfl,rfl⟩
  rotate_left
  ·obtain rfl:n=0:=by omega
   refine Sim.bind' (Sim.S8 _ hx) fun cw h1 u u' hu=>?_
   obtain⟨rfl,rfl⟩:=hu;exact Sim.pure' fun _ _=>.sliceDead _ _
  refine Sim.bind' (Sim.firstCells _ _ hx dx) fun cw h1 u u' hu=>?_
  cases hb with
  |none=>exact Sim.pure' fun _ _=>.sliceNone _ _
  |some hb=>exact Sim.bind' (Sim.storeCells ((hb.mono h1).add _) hu.oG 0) fun _ h2 _ _ _=>Sim.pure' fun _ h3=>.slice _ _ (hb.mono (Ren.le_trans h1 (Ren.le_trans h2 h3)))
 ·refine Sim.BH fun cw h1 i hi=>?_
  have second:∀ {ax:Ren},ρ.le ax->Sim (tw P F) P C ax ah
   (do
     if Abo (eF+n) gG * (<-Go.typeInfo elem).bytes>2 ^ 48 then(if false then runtimePanic (.error "growslice: len out of range") else do
      if !(<-Abp size eF n b x) then Go.mark .noRoom
      Go.unsupported (.resourceLimit "append: a slice or a string whose bytes no memory bears"))
     let jE <-Go.choose (.appendCap (eF+n) gG elem)
     Go.askRoom (jE * (<-Go.typeInfo elem).bytes)
     let old <-Abh size eF s
     let new <-Abh size n x
     let rest:=Abi (<-Go.zeroValue elem).cells (jE - (eF+n))
     Ac7 (.slice (some (<-Go.newRow elem (old++new++rest))) (eF+n) jE))
   (do
     if Abo (eF+n) gG * (<-Go.typeInfo elem).bytes>2 ^ 48 then(if false then runtimePanic (.error "growslice: len out of range") else do
      if !(<-Abp size eF n b' x') then Go.mark .noRoom
      Go.unsupported (.resourceLimit "append: a slice or a string whose bytes no memory bears"))
     let jE <-Go.choose (.appendCap (eF+n) gG elem)
     Go.askRoom (jE * (<-Go.typeInfo elem).bytes)
     let old <-Abh size eF s'
     let new <-Abh size n x'
     let rest:=Abi (<-Go.zeroValue elem).cells (jE - (eF+n))
     Ac7 (.slice (some (<-Go.newRow elem (old++new++rest))) (eF+n) jE)):=by
   intro ax h';refine Sim.BH fun bM h2 i hi=>?_
   split
   ·refine Sim.never ?_
    simp only[Aaw,if_false];refine br.bind (br.kI fun _=>?_)
    split
    ·exact br.kI fun _=>br.halt
    ·exact br.halt
   ·exact Sim.grow T elem _ _ _ _ _ (hs.mono (Ren.le_trans h' h2)) (hx.mono (Ren.le_trans h' h2)) ds dx
  split
  ·exact Sim.never (br.bind (nL _))
  ·exact second h1
theorem Sim.append(T:oe P)(ts:Array Aa1)(t:Aa1)(hz:∀u,ts[1]?=some u->∀k,P.underlying u≠some (.int k)){s s' x x':Value}(hs:ah ρ s s')(hx:ah ρ x x'):
 Sim (tw P F) P C ρ ah (Abq ts t #[s,x]) (Abq ts t #[s',x']):=by
 unfold Abq;cases ts[0]? with
 |none=>exact Sim.stuck
 |some u=>
  refine Sim.fu fun cw h1 d hd=>?_
  have hs:=hs.mono h1;have hx:=hx.mono h1;cases d;case slice elem=>
   have tail:∀ {ax:Ren},cw.le ax->∀ {b b':Option Aay} (eF gG size:Nat) (_:fl (dU ax) b b'\/(∃a a',b=some a/\b'=some a'/\eF=0/\gG=0)),ah ax (.slice b eF gG) (.slice b' eF gG)->Sim (tw P F) P C ax ah
    (Abg x>>=fun n=>Go.Sim.wV elem b eF gG (.slice b eF gG) x size n)
    (Abg x'>>=fun n=>Go.Sim.wV elem b' eF gG (.slice b' eF gG) x' size n):=by
    intro ax h' b b' eF gG size hb hs;refine Sim.bind' (Sim.OO (hx.mono h')) fun ej h3 n n' hn=>?_
    obtain⟨rfl,dx⟩:=hn;exact Sim.wV T elem eF gG (hb.imp (fun hb=>hb.mono fun _ _ h=>dU.mono h3 h) id) (hs.mono h3) (hx.mono (Ren.le_trans h' h3)) size n (fun a e=>by cases e;rfl) dx
   cases hs;case slice n c hab=>
    refine Sim.cE (Sim.sizeOf elem) fun bM h2 size=>?_
    cases e:ts[1]? with
    |none=>exact tail h2 n c size (.inl (.some (hab.mono h2))) (.slice n c (hab.mono h2))
    |some u2=>
     refine Sim.fu fun ej h3 d2 fJ=>?_
     have l:=Ren.le_trans h2 h3;cases d2;case int k=>exact absurd fJ (hz u2 e k)
     all_goals exact tail l n c size (.inl (.some (hab.mono l))) (.slice n c (hab.mono l))
   case sliceNone n c=>
    refine Sim.cE (Sim.sizeOf elem) fun bM h2 size=>?_
    cases e:ts[1]? with
    |none=>exact tail h2 n c size (.inl .none) (.sliceNone n c)
    |some u2=>
     refine Sim.fu fun ej h3 d2 fJ=>?_
     have l:=Ren.le_trans h2 h3;cases d2;case int k=>exact absurd fJ (hz u2 e k)
     all_goals exact tail l n c size (.inl .none) (.sliceNone n c)
   case sliceDead a a'=>
    refine Sim.cE (Sim.sizeOf elem) fun bM h2 size=>?_
    cases e:ts[1]? with
    |none=>exact tail h2 0 0 size (.inr ⟨a,a',rfl,rfl,rfl,rfl⟩) (.sliceDead a a')
    |some u2=>
     refine Sim.fu fun ej h3 d2 fJ=>?_
     have l:=Ren.le_trans h2 h3;cases d2;case int k=>exact absurd fJ (hz u2 e k)
     all_goals exact tail l 0 0 size (.inr ⟨a,a',rfl,rfl,rfl,rfl⟩) (.sliceDead a a')
   all_goals exact Sim.stuck
  all_goals exact Sim.stuck
theorem Tr(w:Aa4)(c:Array Value)(e:Aa1):
 World.freeze {w with heap:=w.heap.push (.cells c e (0,0))} {block:=w.heap.size,off:=c.size} 1={w with heap:=w.heap.push (.cells c e (c.size,c.size+1))}:=by
 unfold World.freeze;simp only[Nat.one_ne_zero,if_false];congr 1;apply Aat
 ·simp
 ·intro i h1 h2
  simp only[Aau,Array.getElem_push];by_cases hi:w.heap.size=i
  ·subst hi;simp
  ·rw[if_neg hi]
   have:i<w.heap.size:=by simp at h2;omega
   simp[this]
def vL(e:Aa1)(c:Array Value):Sem Aay:=do
 let a <-Go.newRow e c
 Go.markStringish a
 pure a
theorem aiU(p:Aa6)(e:Aa1)(c:Array Value)(w:Aa4):(vL e c).run p w=.ok ⟨w.heap.size,0,none⟩ {w with heap:=w.heap.push (.cells c e (c.size,c.size+1))}:=by
 have hs:({w with heap:=w.heap.push (.cells c e (0,0))}:Aa4).shape? w.heap.size=some (e,c.size):=by simp[Ac1]
 show Acx p (Sem.new _ _) w=_;simp only[Acx];show Acx p (Sem.shape _ _) _=_;simp only[Acx,hs];show Acx p (Sem.freeze _ _ _) _=_;simp only[Acx,Tr];rfl
theorem aiV(p:Aa6)(e:Aa1)(c:Array Value)(w:Aa4)(es:Array Aa5):(vL e c).runT p w es=(.ok ⟨w.heap.size,0,none⟩ {w with heap:=w.heap.push (.cells c e (c.size,c.size+1))},es):=by
 have hs:({w with heap:=w.heap.push (.cells c e (0,0))}:Aa4).shape? w.heap.size=some (e,c.size):=by simp[Ac1]
 show Acy p (Sem.new _ _) w es=_;unfold Acy;show Acy p (Sem.shape _ _) _ es=_;unfold Acy;rw[hs];show Acy p (Sem.freeze _ _ _) _ es=_;unfold Acy;rw[Tr];rfl
theorem Sim.vL(e:Aa1){c c':Array Value}(h:aP ρ c c'):Sim (tw P F) P C ρ dU (vL e c) (vL e c'):=by
 intro aE h1 w w' es hw a aa hr;rw[aiU] at hr;simp only[Acw] at hr;obtain⟨rfl,rfl⟩:=hr;have ho:iE C ρ (.cells c e (c.size,c.size+1)) (.cells c' e (c'.size,c'.size+1)):=.cells e h (.inl (by rw[h.1]))
 obtain⟨bH,b,aA,eD,k1,k2,k3,k4,k5⟩:=Sim.newObj (P':=tw P F) (P:=P) ho aE h1 w w' es hw _ _ rfl;have e1:(Go.newObj (.cells c' e (c'.size,c'.size+1))).runT P w' es=(.ok w'.heap.size {w' with heap:=w'.heap.push (.cells c' e (c'.size,c'.size+1))},es):=by
  unfold Go.newObj;simp only[Acy]
 rw[e1] at k1;simp only[Prod.mk.injEq,Acw] at k1;obtain⟨⟨rfl,rfl⟩,k1⟩:=k1;refine⟨bH,⟨w'.heap.size,0,none⟩,_,eD,?_,⟨k2,rfl,rfl⟩,k3,k4,k5⟩
 rw[aiV,<-k1]
theorem ahZ(e:Aa1)(c:Array Value)(f:Aay->Sem Value):(Go.newRow e c>>=fun a=>Go.markStringish a>>=fun _=>f a)=vL e c>>=f:=by
 unfold vL;simp only[bind_assoc,pure_bind]
theorem Sim.stringToBytes(e:Aa1)(s:ByteArray):Sim (tw P F) P C ρ ah (Conv.stringToBytes e s) (Conv.stringToBytes e s):=by
 unfold Conv.stringToBytes;refine Sim.cE (Sim.choose _) fun cw h1 cap=>?_
 have hc:aP cw ((s.data.map fun b=>Value.int .u8 b.toNat)++Array.replicate (cap - s.size) (Value.int .u8 0)) ((s.data.map fun b=>Value.int .u8 b.toNat)++Array.replicate (cap - s.size) (Value.int .u8 0)):=
  (Se s).append (bU.refl fun a ha=>by
    rw[(Aav.1 ha).2];exact .int _ _)
 simp only[ahZ];exact Sim.bind' (Sim.vL e hc) fun bM h2 a b hab=>Sim.pure' fun _ h3=>.slice _ _ (hab.mono h3)
inductive QR(P:Aa6)(src dst:Aa1):Prop
 |ints (j k:Aa0) (h1:P.underlying src=some (.int j)) (h2:P.underlying dst=some (.int k))
 |bytes (e:Aa1) (h1:P.underlying src=some .string) (h2:P.underlying dst=some (.slice e)) (h3:P.underlying e=some (.int .u8))
theorem Sim.convert(src dst:Aa1)(hc:QR P src dst){v v':Value}(h:ah ρ v v'):Sim (tw P F) P C ρ ah (Go.convert src dst v) (Go.convert src dst v'):=by
 unfold Go.convert;refine Sim.fu fun cw h1 d1 jT=>?_
 refine Sim.fu fun bM h2 d2 fJ=>?_
 have h:=h.mono (Ren.le_trans h1 h2);cases hc with
 |ints j k e1 e2=>
  rw[jT] at e1;rw[fJ] at e2;obtain rfl:=Ac5 e1;obtain rfl:=Ac5 e2;cases h<;>first|exact Sim.unsupported|exact Sim.pure' fun _ _=>.int _ _
 |bytes e e1 e2 e3=>
  rw[jT] at e1;rw[fJ] at e2;obtain rfl:=Ac5 e1;obtain rfl:=Ac5 e2;cases h;case string s=>
   refine Sim.fu fun ej h3 d3 hd3=>?_
   rw[hd3] at e3;obtain rfl:=Ac5 e3;exact Sim.stringToBytes e s
  all_goals exact Sim.unsupported
theorem Sim.checkKey(empty:Bool):∀(d n:Nat) (t:Aa1) {x x':Value} {ρ:Ren},gK P n t=true->ah ρ x x'->Sim (tw P F) P C ρ (fun _ _ _=>True) (Ab3 empty d t x) (Ab3 empty d t x'):=by
 intro d;induction d with
 |zero=>intro n t x x' ρ _ _;exact Sim.halt
 |succ d ih=>
  intro n t x x' ρ h hx;have pt:∀ {ρ:Ren},Sim (tw P F) P C ρ (fun _ _ _=>True) (Ac7 ():Sem Unit) (Ac7 ()):=Sim.pure' fun _ _=>trivial
  cases n with
  |zero=>cases h
  |succ n=>
  unfold Ab3;refine Sim.fu fun cw h1 ds hd=>?_
  have hx:=hx.mono h1;unfold gK at h;cases hi: P.info? t with
  |none=>rw[hi] at h;cases h
  |some info=>
  rw[hi,hd] at h;simp only[Aax] at h;obtain⟨_,h⟩:=h;cases ds;case struct fs=>
   cases hx;case agg hxs hxs'=>
    simp only;refine Sim.cE (Sim.Tg fs (fun f hf s=>?_) _) fun _ _ _=>pt
    have Nl:gK P n f.type=true:=by
     simp only[Aal] at h;exact h f hf
    split
    ·refine Sim.bind' (Sim.part f.type ⟨hxs,hxs'⟩ _) fun ej h3 a a' ha=>?_
     exact Sim.bind' (ih n f.type Nl ha) fun _ _ _ _ _=>Sim.pure' fun _ _=>rfl
    ·exact Sim.pure' fun _ _=>rfl
   all_goals exact Sim.stuck
  case array len e=>
   cases hx;case agg hxs hxs'=>
    simp only[Ac8];refine Sim.cE (Sim.Mh _ (fun i hi s=>?_) _) fun _ _ _=>pt
    refine Sim.cE (Sim.sizeOf e) fun bM h2 m=>?_
    refine Sim.bind' (Sim.part e (aP.mono h2 ⟨hxs,hxs'⟩) _) fun ej h3 a a' ha=>?_
    exact Sim.bind' (ih n e h ha) fun _ _ _ _ _=>Sim.pure' fun _ _=>rfl
   all_goals exact Sim.stuck
  case bool=>cases hx<;>exact pt
  case int=>cases hx<;>exact pt
  case string=>cases hx<;>exact pt
  case slice=>cases hx<;>exact pt
  case map=>cases hx<;>exact pt
  case func=>cases hx<;>exact pt
  all_goals cases h
abbrev Kq(ρ:Ren):Nat×Value->Nat×Value->Prop:=fun p q=>p.1=q.1/\ah ρ p.2 q.2
theorem jm.key{a b:Aa2}(h:jm ρ a b):ah ρ a.key b.key:=by cases h;assumption
theorem jm.val{a b:Aa2}(h:jm ρ a b):ah ρ a.val b.val:=by cases h;assumption
theorem Sim.findAsking{n:Nat}{t:Aa1}(ht:gK P n t=true){k k':Value}{es es':List Aa2}(h:fT (jm ρ) es es'):
 ∀ {ax:Ren},ρ.le ax->ah ax k k'->∀i,Sim (tw P F) P C ax (fun ρ=>fl (Kq ρ)) (Ab4 t k es i) (Ab4 t k' es' i):=by
 induction h with
 |nil=>intro ax _ _ i;exact Sim.pure' fun _ _=>.none
 |cons he _ ih=>
  intro ax h' hk i;unfold Ab4;refine Sim.cE (Sim.equalIn _ n t ht hk (he.key.mono h')) fun eY dR b=>?_
  cases b with
  |true=>exact Sim.pure' fun _ h3=>.some ⟨rfl,he.val.mono (Ren.le_trans h' (Ren.le_trans dR h3))⟩
  |false=>exact ih (Ren.le_trans h' dR) (hk.mono dR) (i+1)
theorem amA{p:Aa6}{t:Aa1}{d:Aa9}(h:p.underlying t=some d)(f:Aa9->Sem α)(w:Aa4)(es:Array Aa5):(Go.underlying t>>=f).runT p w es=(f d).runT p w es:=by
 show((Go.underlying t).bind f).runT p w es=_;rw[pA];have:(Go.underlying t).runT p w es=(.ok d w,es):=by
  unfold Go.underlying;show(match p.underlying t with|some d=>Ac7 d|none=>Go.stuck "no such type" :Sem Aa9).runT p w es=_
  rw[h];rfl
 rw[this]
theorem SZ{p:Aa6}{t:Aa1}{d:Aa9}(h:p.underlying t=some d){x y:Value}{b:Bool}(hs:Ab5 d x y=some b)(w:Aa4)(es:Array Aa5):(Acp t x y).runT p w es=(.ok b w,es):=by
 show(Aco (9999+1) t x y).runT p w es=_;unfold Aco;rw[amA h];cases d;case bool=>cases x<;>cases y<;>first| (cases hs;done) | (simp only[Ab5,Ac6] at hs;subst hs;rfl)
 case string=>cases x<;>cases y<;>first| (cases hs;done) | (simp only[Ab5,Ac6] at hs;subst hs;rfl)
 case int k0=>
  cases x;case int k a=>
   cases y;case int k' a'=>
    have key:((if k=k' then Ac7 (a==a') else Go.stuck "==: kinds differ" :Sem Bool)).runT p w es=(.ok b w,es):=by
     simp only[Ab5] at hs;split at hs
     ·rename_i e
      rw[if_pos e];obtain rfl:=Ac5 hs;rfl
     ·cases hs
    cases a with
    |ofNat a=>cases a<;>(cases a' with|ofNat b=>cases b<;>exact key|negSucc b=>exact key)
    |negSucc a=>cases a' with|ofNat b=>cases b<;>exact key|negSucc b=>exact key
   all_goals cases hs
  all_goals (cases y<;>cases hs)
 all_goals (cases x<;>cases y<;>cases hs)
theorem S7{p:Aa6}{t:Aa1}{d:Aa9}(h:p.underlying t=some d){k:Value}:∀(es:List Aa2) (i:Nat) {r:Option (Nat×Value)},Ab6 d k es i=some r->∀(w:Aa4) (ev:Array Aa5),
 (Ab4 t k es i).runT p w ev=(.ok r w,ev)
 | [],i,r,hr,w,ev=>by
   simp only[Ab6,Ac6] at hr;subst hr;rfl
 |e::es,i,r,hr,w,ev=>by
  unfold Ab6 at hr;unfold Ab4;show((Acp t k e.key).bind _).runT p w ev=_;rw[pA];split at hr
  ·rename_i hs
   rw[SZ h hs];obtain rfl:=Ac5 hr;rfl
  ·rename_i hs
   rw[SZ h hs];exact S7 h es (i+1) hr w ev
  ·cases hr
theorem W7{d:Aa9}{x x' y y':Value}(hx:ah ρ x x')(hy:ah ρ y y'){b:Bool}(h:Ab5 d x y=some b):Ab5 d x' y'=some b:=by
 have no:∀d:Aa9,(∀k,d≠ .int k)->d≠ .string->d≠ .bool->Ab5 d x y≠some b:=by
  intro d h1 h2 h3 e;unfold Ab5 at e;split at e<;>simp_all
 cases d;case bool=>cases hx<;>first| (cases y<;>cases h;done) | (cases hy<;>first| (cases h;done) |exact h)
 case string=>cases hx<;>first| (cases y<;>cases h;done) | (cases hy<;>first| (cases h;done) |exact h)
 case int k=>cases hx<;>first| (cases y<;>cases h;done) | (cases hy<;>first| (cases h;done) |exact h)
 all_goals exact absurd h (no _ (fun _=>by simp) (by simp) (by simp))
theorem acF{d:Aa9}{k k':Value}(hk:ah ρ k k'){es es':List Aa2}(h:fT (jm ρ) es es'):∀(i:Nat) {r:Option (Nat×Value)},Ab6 d k es i=some r->
 ∃r',Ab6 d k' es' i=some r'/\fl (Kq ρ) r r':=by
 induction h with
 |nil=>intro i r hr;simp only[Ab6,Ac6] at hr;subst hr;exact⟨none,rfl,.none⟩
 |cons he _ ih=>
  intro i r hr;unfold Ab6 at hr |-
  split at hr
  ·rename_i hs
   rw[W7 hk he.key hs];obtain rfl:=Ac5 hr;exact⟨_,rfl,.some ⟨rfl,he.val⟩⟩
  ·rename_i hs
   rw[W7 hk he.key hs];exact ih _ hr
  ·cases hr
theorem Sim.aaV{P':Aa6}{s:Sem α}{s' WW:Sem β}(h:Sim P' P C ρ R s s')(e:∀w es,WW.runT P w es=s'.runT P w es):Sim P' P C ρ R s WW:=by
 intro aE h1 w w' es hw a aa hr;rw[e];exact h aE h1 w w' es hw a aa hr
theorem Sim.findKey{n:Nat}{t:Aa1}(ht:gK P n t=true){k k':Value}(hk:ah ρ k k'){es es':List Aa2}(h:fT (jm ρ) es es'):
 Sim (tw P F) P C ρ (fun ρ=>fl (Kq ρ)) (Ab7 t k es) (Ab7 t k' es'):=by
 unfold Ab7;refine Sim.fu fun cw h1 d hd=>?_
 have ask:=Sim.findAsking (F:=F) (C:=C) ht h h1 (hk.mono h1) 0;have h:fT (jm cw) es es':=by
  clear ask hd;induction h with
  |nil=>exact .nil
  |cons he _ ih=>exact .cons (he.mono h1) ih
 cases e:Ab6 d k es 0 with
 |some r=>
  obtain⟨r',e',hr⟩:=acF (hk.mono h1) h 0 e;rw[e'];exact Sim.pure' fun _ h3=>hr.mono fun _ _ x=>⟨x.1,x.2.mono h3⟩
 |none=>
  simp only;cases e':Ab6 d k' es' 0 with
  |none=>exact ask
  |some r'=>exact ask.aaV fun w ev=>by rw[S7 hd es' 0 e'];rfl
theorem fT.mono{R R':α->β->Prop}(h:∀a b,R a b->R' a b){x:List α}{y:List β}(k:fT R x y):fT R' x y:=by
 induction k with
 |nil=>exact .nil
 |cons he _ ih=>exact .cons (h _ _ he) ih
theorem Sim.lookup(T:oe P)(t:Aa1)(ht:∀k e,P.underlying t=some (.map k e)->∃n,gK P n k=true)(ok:Bool){m m' x x':Value}(hm:ah ρ m m')(hx:ah ρ x x'):
 Sim (tw P F) P C ρ ah (Ab8 t m x ok) (Ab8 t m' x' ok):=by
 unfold Ab8;refine Sim.fu fun cw h1 d hd=>?_
 cases d;case map key elem=>
  obtain⟨n,hn⟩:=ht key elem hd;have hm:=hm.mono h1;simp only;have tail:∀ {ax:Ren} {es es':Array Aa2},cw.le ax->bU (jm ax) es es'->Sim (tw P F) P C ax ah
   (do
     Ab3 es.isEmpty 10000 key x
     let (v,o) <-match <-Ab7 key x es.toList with
      |some (_,v)=>Ac7 (v,true)
      |none=>Ac7 (<-Go.zeroValue elem,false)
     Ac7 (if ok then .tuple #[v,.bool o] else v))
   (do
     Ab3 es'.isEmpty 10000 key x'
     let (v,o) <-match <-Ab7 key x' es'.toList with
      |some (_,v)=>Ac7 (v,true)
      |none=>Ac7 (<-Go.zeroValue elem,false)
     Ac7 (if ok then .tuple #[v,.bool o] else v)):=by
   intro ax es es' h' he;have hx:=hx.mono (Ren.le_trans h1 h');have e1:es.isEmpty=es'.isEmpty:=by simp[Array.isEmpty,he.1]
   rw[e1];refine Sim.bind' (Sim.checkKey _ _ n key hn hx) fun bM h2 _ _ _=>?_
   refine Sim.bind' (Sim.findKey hn (hx.mono h2) (he.oG.mono fun _ _ x=>jm.mono h2 x)) fun ej h3 r r' hr=>?_
   have fin:∀ {ax:Ren} {v v':Value} (o:Bool),ah ax v v'->Sim (tw P F) P C ax ah (Ac7 (if ok then .tuple #[v,.bool o] else v):Sem Value) (Ac7 (if ok then .tuple #[v',.bool o] else v')):=by
    intro ax v v' o hv;refine Sim.pure' fun eY dR=>?_
    split
    ·exact ah.tuple' ⟨rfl,fun i hi bu=>by
      have:i=0\/i=1:=by simp at hi;omega
      rcases this with rfl|rfl
      ·exact hv.mono dR
      ·exact .bool _⟩
    ·exact hv.mono dR
   cases hr with
   |some hr=>exact fin true hr.2
   |none=>exact Sim.bind' (Sim.zeroValue T elem) fun _ _ _ _ hv=>fin false hv
  cases hm;case mapNone=>exact tail cw.le_refl .empty
  case map r=>
   refine Sim.bind' (Sim.getObj r) fun bM h2 o o' ro=>?_
   cases ro;case map clock hmm=>exact tail h2 hmm
   all_goals exact Sim.stuck
  all_goals exact Sim.stuck
 all_goals exact Sim.stuck
end
end Go.Sim
namespace Go.Sim
open Go
structure bV(C:bQ)(ρ:Ren)(w w':Aa4):Prop where
 dA:∀a b,ρ a b->a<w.heap.size
 dc:∀a b,ρ a b->b<w'.heap.size
 fn:∀a b b',ρ a b->ρ a b'->b=b'
 inj:∀a a' b,ρ a b->ρ a' b->a=a'
 obj:∀a b o,ρ a b->w.heap[a]?=some o->∃o',w'.heap[b]?=some o'/\iE C ρ o o'
theorem gY.core{C:bQ}{ρ:Ren}{w w':Aa4}(h:gY C ρ w w'):bV C ρ w w':=⟨h.dA,h.dc,h.fn,h.inj,h.obj⟩
theorem bV.rel{C:bQ}{ρ:Ren}{w w':Aa4}(h:bV C ρ w w')(t:∀j q,w.tape (w.drawn+j) q=w'.tape (w'.drawn+j) q):gY C ρ w w':=⟨h.dA,h.dc,h.fn,h.inj,h.obj,t⟩
def ed(P' P:Aa6)(C:bQ)(ρ:Ren){α β:Type}(R:Ren->α->β->Prop)(s:Sem α)(s':Sem β):Prop:=
 ∀aE,ρ.le aE->∀(w w':Aa4) (es:Array Aa5),gY C aE w w'->∀a aa,s.run P' w=.ok a aa->
  ∃bH b aA eD,s'.runT P w' es=(.ok b aA,es++eD)/\R bH a b/\bV C bH aa aA/\Trans aE bH w w' aa aA/\∀e∈eD,pM bH w e
section
variable {P' P:Aa6}{F:Array Aa7}{C:bQ}{ρ:Ren}{α β γ δ:Type}
variable {R:Ren->α->β->Prop}{S:Ren->γ->δ->Prop}
theorem Sim.lx{s:Sem α}{s':Sem β}(h:Sim P' P C ρ R s s'):ed P' P C ρ R s s':=by
 intro aE h1 w w' es hw a aa hr;obtain⟨bH,b,aA,eD,h2,h3,h4,h5,h6⟩:=h aE h1 w w' es hw a aa hr;exact⟨bH,b,aA,eD,h2,h3,h4.core,h5,h6⟩
theorem Sim.Gs{s:Sem α}{s':Sem β}{f:α->Sem γ}{g:β->Sem δ}(h:Sim P' P C ρ R s s')(hf:∀ax,ρ.le ax->∀a b,R ax a b->ed P' P C ax S (f a) (g b)):
 ed P' P C ρ S (s>>=f) (s'>>=g):=by
 intro aE h1 w w' es hw c aq hr;have hr:(s.bind f).run P' w=.ok c aq:=hr;rw[run_bind] at hr;cases e:s.run P' w with
 |halt h w=>rw[e] at hr;cases hr
 |ok a aa=>
  rw[e] at hr;obtain⟨bH,b,aA,eD,h2,h3,h4,h5,h6⟩:=h aE h1 w w' es hw a aa e;obtain⟨BR,d,ep,O3,k2,k3,k4,k5,k6⟩:=hf bH (Ren.le_trans h1 h5.le) a b h3 bH bH.le_refl aa aA (es++eD) h4 c aq hr;refine⟨BR,d,ep,eD++O3,?_,k3,k4,h5.trans k5,fun x hx=>?_⟩
  ·show(s'.bind g).runT P w' es=_
   rw[pA,h2];simp only[k2,Aac]
  ·rcases Aad.1 hx with hx|hx
   ·exact(h6 x hx).mono k5.le
   ·exact(k6 x hx).back h5
theorem ed.ZG{s:Sem α}{s':Sem β}{f:α->γ}{g:β->δ}(h:ed P' P C ρ R s s')(hf:∀ax a b,R ax a b->S ax (f a) (g b)):ed P' P C ρ S (s>>=fun a=>Ac7 (f a)) (s'>>=fun b=>Ac7 (g b)):=by
 intro aE h1 w w' es hw c aq hr;have hr:(s.bind fun a=>Ac7 (f a)).run P' w=.ok c aq:=hr
 rw[run_bind] at hr;cases e:s.run P' w with
 |halt h w=>rw[e] at hr;cases hr
 |ok a aa=>
  rw[e] at hr;have hr:Result.ok (f a) aa=.ok c aq:=hr;simp only[Acw] at hr;obtain⟨rfl,rfl⟩:=hr;obtain⟨bH,b,aA,eD,h2,h3,h4,h5,h6⟩:=h aE h1 w w' es hw a aa e;refine⟨bH,g b,aA,eD,?_,hf _ _ _ h3,h4,h5,h6⟩
  show(s'.bind _).runT P w' es=_;rw[pA,h2];rfl
theorem ed.never{s:Sem α}{s':Sem β}(h:br P' s):ed P' P C ρ R s s':=(Sim.never h).lx
theorem bytes_beq{s t:ByteArray}(h:(s==t)=true):s=t:=by
 have h:ByteArray.beq s t=true:=h;unfold ByteArray.beq at h;simp at h;exact ByteArray.ext h
theorem QB{x y:Array Value}(hs:x.size=y.size){f:Value×Value->Bool}:(x.toList.zip y.toList).all f=true↔∀i (h:i<x.size) (h':i<y.size),f (x[i],y[i])=true:=by
 rw[List.all_eq_true];constructor
 ·intro h i h1 h2
  refine h _ ?_
  rw[List.mem_iff_getElem];exact⟨i,by simp;omega,by simp⟩
 ·intro h p hp
  rw[List.mem_iff_getElem] at hp;obtain⟨i,hi,rfl⟩:=hp;simp only[List.length_zip,Array.length_toList] at hi;simpa using h i (by omega) (by omega)
theorem W6:∀(n:Nat) {a b:Value},Ab9 n a b=true->a=b:=by
 intro n;induction n with
 |zero=>intro a b h;cases a<;>cases b<;>first| (simp_all [Ab9];done) | (rw[bytes_beq h])
 |succ n ih=>
  intro a b h;cases a<;>cases b<;>try first| (simp_all [Ab9];done) | (rw[bytes_beq h];done)
  case agg x y=>
   simp only[Ab9,Aax,beq_iff_eq] at h;obtain⟨hs,ha⟩:=h;congr 1;exact Aat hs fun i h1 h2=>ih ((QB hs).1 ha i h1 h2)
  case iface t v u w=>
   simp only[Ab9,Aax,beq_iff_eq] at h;rw[h.1,ih h.2]
theorem sameBits_self(hb:J4 ρ):∀(n:Nat) {a a' b':Value},Ab9 n a a=true->ah ρ a a'->ah ρ a b'->Ab9 n a' b'=true:=by
 have leaf:∀(n:Nat) {a a' b':Value},(∀x,a≠ .agg x)->(∀t x,a≠ .iface t x)->Ab9 n a a=true->ah ρ a a'->ah ρ a b'->Ab9 n a' b'=true:=by
  intro n a a' b' n1 n2 h ha eH;cases ha;case bool=>cases eH;exact h
  case int=>cases eH;exact h
  case string=>cases eH;exact h
  case ptrNone=>cases eH;exact h
  case ptr x y hxy=>
   cases eH;case ptr z hxz=>
    have e:y=z:=by
     obtain⟨y1,y2,y3⟩:=y;obtain⟨z1,z2,z3⟩:=z;obtain⟨p1,p2,p3⟩:=hxy;obtain⟨q1,q2,q3⟩:=hxz;simp only at p1 p2 p3 q1 q2 q3;rw[<-p2,<-p3,<-q2,<-q3,hb.1 _ _ _ p1 q1]
    subst e;cases n<;>simp[Ab9]
  case chanNone=>cases eH;exact h
  case chan x y hxy=>
   cases eH;case chan z hxz=>
    rw[hb.1 _ _ _ hxy hxz];cases n<;>simp[Ab9]
  case nilIface=>cases eH;exact h
  case iface t v v' hv=>exact absurd rfl (n2 t v)
  case agg x x' hx h1=>exact absurd rfl (n1 x)
  all_goals (cases n<;>simp[Ab9] at h)
 intro n;induction n with
 |zero=>
  intro a a' b' h ha eH;refine leaf 0 (fun x e=>?_) (fun t x e=>?_) h ha eH<;>(subst e;simp[Ab9] at h)
 |succ n ih=>
  intro a a' b' h ha eH;cases ha;case agg x x' hx h1=>
   cases eH;case agg y' hy h2=>
    simp only[Ab9,Aax,beq_iff_eq] at h |-
    have hs:x'.size=y'.size:=hx.symm.trans hy;refine⟨hs,(QB hs).2 fun i i1 i2=>?_⟩
    exact ih ((QB rfl).1 h.2 i (by omega) (by omega)) (h1 i (by omega) i1) (h2 i (by omega) i2)
  case iface t v v' hv=>
   cases eH;case iface w hw=>
    simp only[Ab9,Aax,beq_iff_eq] at h |-
    exact⟨trivial,ih h.2 hv hw⟩
  all_goals exact leaf _ (fun _=>by simp) (fun _ _=>by simp) h (by first|exact ah.fjunk _ _ _|exact ah.sliceDead _ _| (constructor<;>assumption)) eH
theorem ed.ZI{s:Sem α}{s':Sem β}(h:∀ax,ρ.le ax->J4 ax->ed P' P C ax R s s'):ed P' P C ρ R s s':=
 fun aE h1 w w' es hw a aa hr=>h aE h1 ⟨hw.fn,hw.inj⟩ aE aE.le_refl w w' es hw a aa hr
theorem ed.abj(q:Question)(hq:q.forced=false){a b:Nat}(h:ρ a b){f:Nat->Obj}{o':Obj}(ho:∀n,iE C ρ (f n) o'):
 ed P' P C ρ (fun _ _ _=>True) (Go.choose q>>=fun n=>Go.setObj a (f n)) (Go.setObj b o'):=by
 intro aE h1 w w' es hw u aa hr;have hr:(Sem.choose q fun n=>Go.setObj a (f n)).run P' w=.ok u aa:=hr
 unfold Acx at hr;simp only[hq,Aaw,if_false] at hr;have ht:∀(x:Nat) (aq:Aa4),(Go.setObj a (f x)).run P' {w with drawn:=w.drawn+1}=.ok () aq->∃ky,(Go.setObj a (f x)).run P' w=.ok () ky/\aq={ky with drawn:=w.drawn+1}:=by
  intro x aq h2;unfold Go.setObj Acx at h2 |-
  cases ho:w.heap[a]? with
  |none=>simp only[ho] at h2;cases h2
  |some o=>
   simp only[ho] at h2 |-
   cases o<;>simp only[Acx] at h2 |- <;>first| (cases h2;exact⟨_,rfl,rfl⟩) |cases h2
 obtain⟨ky,e3,rfl⟩:=ht _ _ hr;obtain⟨bH,b',aA,eD,k1,k2,k3,k4,k5⟩:=(Sim.setObj (P':=P') (P:=P) h (ho _)) aE h1 w w' es hw _ _ e3;exact⟨bH,b',aA,eD,k1,trivial,⟨k3.dA,k3.dc,k3.fn,k3.inj,k3.obj⟩,⟨k4.le,k4.new,k4.mP,k4.fQ,k4.kE,k4.im,k4.Gl,k4.Jg,k4.wv,k4.vR,k4.vS⟩,k5⟩
theorem bU.modify{R:α->α->Prop}{x y:Array α}(h:bU R x y)(i:Nat){f g:α->α}(hf:∀a b,R a b->R (f a) (g b)):bU R (x.modify i f) (y.modify i g):=by
 refine⟨by simp[h.1],fun j hj qq=>?_⟩
 simp only[Aau];split
 ·exact hf _ _ (h.2 _ _ _)
 ·exact h.2 _ _ _
theorem ed.agw(hb:J4 ρ){r r':Nat}(hr:ρ r r'){old O8 new cG:Value}(ho:ah ρ old O8)(hn:ah ρ new cG){f g:Value->Obj}(hf:∀ {bM k k'},ρ.le bM->ah bM k k'->iE C bM (f k) (g k')):
 ed P' P C ρ (fun _ _ _=>True) (Aca old new>>=fun k=>Go.setObj r (f k)) (Aca O8 cG>>=fun k=>Go.setObj r' (g k)):=by
 unfold Aca;by_cases e:Ab9 10000 old new=true
 ·have e0:=W6 10000 e
  subst e0;rw[if_pos e,if_pos (sameBits_self hb 10000 e ho hn)];exact(Sim.setObj hr (hf ρ.le_refl hn)).lx
 ·rw[if_neg e]
  by_cases e':Ab9 10000 O8 cG=true
  ·have e0:=W6 10000 e'
   subst e0;rw[if_pos e'];exact ed.abj _ rfl hr fun n=>by
     by_cases hz:n=0
     ·rw[if_pos hz];exact hf ρ.le_refl hn
     ·rw[if_neg hz];exact hf ρ.le_refl ho
  ·rw[if_neg e']
   refine Sim.lx ?_
   refine Sim.bind (R:=ah) (Sim.cE (Sim.choose _) fun cw h1 n=>Sim.pure ?_) fun cw h1 k k' hk=>?_
   ·split
    ·exact fun _ h2=>hn.mono (Ren.le_trans h1 h2)
    ·exact fun _ h2=>ho.mono (Ren.le_trans h1 h2)
   ·exact Sim.setObj (h1 _ _ hr) (hf h1 hk)
theorem ed.mapUpdate(t:Aa1)(ht:∀k e,P.underlying t=some (.map k e)->∃n,gK P n k=true){m m' k k' v v':Value}(hm:ah ρ m m')(hk:ah ρ k k')(hv:ah ρ v v'):
 ed (tw P F) P C ρ (fun _ _ _=>True) (Acb t m k v) (Acb t m' k' v'):=by
 unfold Acb;refine Sim.Gs (Sim.underlying t) fun cw h1 d d' hd=>?_
 obtain⟨rfl,hd⟩:=hd;cases d;case map key elem=>
  obtain⟨n,hn⟩:=ht key elem hd;have hm:=hm.mono h1;cases hm;case mapNone=>exact ed.never (nL _)
  case map r=>
   refine Sim.Gs (Sim.getObj r) fun bM h2 o o' ro=>?_
   cases ro;case map es es' clock he=>
    have hk:=hk.mono (Ren.le_trans h1 h2);have hv:=hv.mono (Ren.le_trans h1 h2);refine Sim.Gs (Sim.checkKey _ _ n key hn hk) fun ej h3 _ _ _=>?_
    refine Sim.Gs (Sim.findKey hn (hk.mono h3) (he.oG.mono fun _ _ x=>jm.mono h3 x)) fun lB h4 f f' hff=>?_
    refine ed.ZI fun uq h5 hb=>?_
    have l5:=Ren.le_trans h3 (Ren.le_trans h4 h5);have Nd:bU (jm uq) es es':=he.mono fun _ _ x=>jm.mono l5 x
    have U9:=Ren.le_trans h2 l5 _ _ r;cases hff with
    |none=>exact(Sim.setObj U9 (.map _ (Nd.push (.mk _ (hk.mono l5) (hv.mono l5))))).lx
    | @some p q hpq=>
      obtain⟨i,x⟩:=p;obtain⟨j,y⟩:=q;obtain⟨e,_⟩:=hpq;simp only at e;subst e;refine ed.agw hb U9 ?_ (hk.mono l5) fun h6 rI=>.map _ ((Nd.mono fun _ _ x=>jm.mono h6 x).modify _ fun a b hab=>?_)
      ·rcases Nd.get? i with⟨e1,e2⟩ | ⟨a,b,e1,e2,hab⟩
       ·rw[e1,e2];exact hk.mono l5
       ·rw[e1,e2];exact hab.key
      ·cases hab with
       |mk born _ _=>exact .mk born rI (hv.mono (Ren.le_trans l5 h6))
   all_goals exact ed.never br.halt
  all_goals exact ed.never br.halt
 all_goals exact ed.never br.halt
end
end Go.Sim
namespace Go.Sim
open Go
def kF:Nat->Value->Bool
 |0,_=>false
 |n+1,v=>match v with
  | .bool _| .int .. | .string _| .pointer none| .slice none _ _| .map none| .chan none| .nilFunc| .nilIface=>true
  | .func (.func _) x y=>x.isEmpty && y.isEmpty
  | .iface _ v=>kF n v
  | .agg x=>x.all (kF n)
  | .tuple x=>x.all (kF n)
  |_=>false
def oH(G:Nat->Bool):Abc->Bool
 | .tmp _=>true
 | .const v=>kF 10 v
 | .global g=>G g
 | .func _=>true
def VJ:BinOp->Bool
 | .eql| .neq=>true
 |_=>false
def CR(P:Aa6)(t:Aa1):Bool:=gK P 20 t && !P.eqGuardType P.depth t
def zK(P:Aa6)(e:Aa1):Bool:=match P.underlying e with
 |some (.int .u8)=>true
 |_=>false
def zO(P:Aa6)(s d:Aa1):Bool:=match P.underlying s,P.underlying d with
 |some (.int _),some (.int _)=>true
 |some .string,some (.slice e)=>zK P e
 |_,_=>false
def CV(P:Aa6)(s:Aa1)(i:Nat):Bool:=match P.underlying s with
 |some (.struct fs)=>(match fs[i]? with
  |some f=>(P.info? f.type).any (·.size !=0)
  |none=>false)
 |_=>false
def yG(P:Aa6)(t:Aa1):Bool:=match P.underlying t with
 |some (.map k _)=>gK P 20 k
 |_=>false
def EH(P:Aa6)(t:Option Aa1):Bool:=match t with
 |none=>true
 |some u=>(match P.underlying u with
  |some (.int _)=>false
  |_=>true)
def uL(P:Aa6)(ts:Array Aa1)(n:Nat):Builtin->Bool
 | .len=>n==1
 | .max| .min=>true
 | .copy=>n==2
 | .clear=>n==1
 | .append=>n==2 && EH P ts[1]?
 |_=>false
def iO(P:Aa6)(o:Op):Bool:=match o with
 | .move _| .assign _| .pick .. | .alloc _| .box .. | .build .. | .buildSlice .. | .load .. | .store .. | .makeSlice .. | .slice .. | .field .. | .indexAddr .. | .index .. | .extract .. =>true
 | .unOp .not _ _| .nilCheck _=>true
 | .binOp op t _ _ _=> !VJ op||CR P t
 | .convert s d _=>zO P s d
 | .makeFunc (.func _) _ _=>true
 | .makeMap _ none=>true
 | .fieldAddr s _ i=>CV P s i
 | .lookup t _ _ _=>yG P t
 | .mapUpdate t _ _ _=>yG P t
 | .call ⟨.value _,_,_⟩=>true
 | .call ⟨.builtin b,args,ts⟩=>uL P ts args.size b
 |_=>false
def j7(P:Aa6)(G:Nat->Bool)(o:Oper):Bool:=o.op.operands.all (oH G) && iO P o.op
def cr(P:Aa6)(G:Nat->Bool):Code->Bool
 | .skip| .label _| .ret| .exit _=>true
 | .region _ ops _=>ops.all (j7 P G)
 | .seq a b=>cr P G a && cr P G b
 | .cond c a b=>oH G c && cr P G a && cr P G b
 | .block _ b=>cr P G b
 | .loop b=>cr P G b
 | .scope b=>cr P G b
 | .rangeFunc f _ a b=>oH G f && cr P G a && cr P G b
 |_=>false
end Go.Sim
namespace Go.Sim
open Go
inductive kR(C:bQ)(ρ:Ren):Next->Next->Prop
 |value {v v':Value} (h:ah ρ v v'):kR C ρ (.value v) (.value v')
 |skip:kR C ρ .skip .skip
 |enter (f:Aaz) {x x':Array Value} (hf:C.ok f=true) (h:aP ρ x x'):kR C ρ (.enter f x) (.enter f x')
 |hole (f:Aaz) {x x':Array Value} (hf:C.hole f=true) (h:aP ρ x x'):kR C ρ (.enter f x) (.enter f x')
 |round {l l':Nat} (hl:ρ l l') (f:Aaz) {x x':Array Value} (h:aP ρ x x') {a b:Code} (ha:C.clean a) (hb:C.clean b):kR C ρ (.round l f x a b) (.round l' f x' a b)
structure QS(fn:Aa7):Prop where
 name:(fn.name== "runtime.NumGoroutine")=false
 body:fn.body=none
 next:Extern.findNext fn=none
 row:Extern.find fn=none
 init:fn.name.endsWith ".init" =false
structure Env(P:Aa6)(F:Array Aa7)(C:bQ)(G:Nat->Bool):Prop where
 sG:oe P
 clean:∀c,C.clean c↔cr P G c=true
 get:∀f,C.ok f=true->∃fn c,F[f]?=some fn/\P.funcs[f]?=some fn/\fn.body=some c/\cr P G c=true/\(fn.name== "runtime.NumGoroutine")=false
 dead:∀f,C.ok f=false->C.hole f=false->F[f]?=none\/∃fn,F[f]?=some fn/\QS fn
 DT:∀f,C.hole f=true->∃fn fn' c c',F[f]?=some fn/\P.funcs[f]?=some fn'/\fn.body=some c/\fn'.body=some c'/\(fn.name== "runtime.NumGoroutine")=false/\(fn'.name== "runtime.NumGoroutine")=false
 ahead:(tw P F).follows .staticDataAhead=true
 steps:∀g,(tw P F).stepOf g=none
theorem Env.never{P:Aa6}{F:Array Aa7}{C:bQ}{G:Nat->Bool}(E:Env P F C G)(f:Aaz)(args:Array Value)(h:C.ok f=false)(h':C.hole f=false):br (tw P F) (Go.callFunc f args):=by
 intro w a aa hr;rcases E.dead f h h' with e| ⟨fn,e,D⟩
 ·have e1:(tw P F).funcs[f]?=none:=e
  simp[Go.callFunc,Go.program,bind,Acz,Acx,e1,Go.stuck] at hr
 ·have e1:(tw P F).funcs[f]?=some fn:=e
  have nm:¬fn.name= "runtime.NumGoroutine" :=fun q=>by have:=D.name;rw[q] at this;simp at this
  simp[Go.callFunc,Go.program,Go.mark,bind,Acz,Acx,e1,D.body,D.next,D.row,D.init,Go.unsupported,nm] at hr
theorem Tb:∀(n:Nat) {v:Value},kF n v=true->Flat v:=by
 intro n;induction n with
 |zero=>intro v h;simp[kF] at h
 |succ n ih=>
  intro v h;have arr:∀x:Array Value,x.all (kF n)=true->aP (fun _ _=>False) x x:=fun x hx=>bU.refl fun a ha=>ih (by simpa using Aal.1 hx a ha)
  cases v<;>try(simp[kF] at h;done)
  case bool=>exact .bool _
  case int=>exact .int _ _
  case string=>exact .string _
  case pointer p=>cases p with
   |none=>exact .ptrNone
   |some=>simp[kF] at h
  case slice p n c=>cases p with
   |none=>exact .sliceNone _ _
   |some=>simp[kF] at h
  case map p=>cases p with
   |none=>exact .mapNone
   |some=>simp[kF] at h
  case chan p=>cases p with
   |none=>exact .chanNone
   |some=>simp[kF] at h
  case func fn x y=>
   cases fn<;>try(simp[kF] at h;done)
   simp[kF] at h;obtain⟨rfl,rfl⟩:=h;exact .func (.func _) rfl (by simp) rfl (by simp)
  case nilFunc=>exact .nilFunc
  case iface t v=>exact .iface t (ih (by simpa [kF] using h))
  case nilIface=>exact .nilIface
  case agg x=>exact ah.uF (arr x (by simpa [kF] using h))
  case tuple x=>exact ah.tuple' (arr x (by simpa [kF] using h))
def pL(G:Nat->Bool)(ρ:Ren)(e e':Abc->Value):Prop:=∀x,oH G x=true->ah ρ (e x) (e' x)
section
variable {P:Aa6}{F:Array Aa7}{C:bQ}{G:Nat->Bool}{ρ:Ren}
theorem Sim.val{s s':Sem Value}(h:Sim (tw P F) P C ρ ah s s'):Sim (tw P F) P C ρ (kR C) (do Ac7 (Acm (<-s))) (do Ac7 (Acm (<-s'))):=
 Sim.bind' h fun _ _ _ _ r=>Sim.pure' fun _ h2=>.value (r.mono h2)
theorem Sim.kL{s s':Sem Value}(h:Sim (tw P F) P C ρ ah s s'):ed (tw P F) P C ρ (kR C) (do Ac7 (Acm (<-s))) (do Ac7 (Acm (<-s'))):=(Sim.val h).lx
theorem Sim.Ql{s s':Sem Unit}(h:Sim (tw P F) P C ρ (fun _ _ _=>True) s s'):ed (tw P F) P C ρ (kR C) (do s;Ac7 Acn) (do s';Ac7 Acn):=
 (Sim.bind' h fun _ _ _ _ _=>Sim.pure' fun _ _=>.skip).lx
theorem Sim.callFunc(E:Env P F C G)(f:Aaz){x x':Array Value}(h:aP ρ x x'):Sim (tw P F) P C ρ (kR C) (Go.callFunc f x) (Go.callFunc f x'):=by
 by_cases hf:C.ok f=true
 ·obtain⟨fn,c,h1,h2,h3,h4,h5⟩:=E.get f hf
  unfold Go.callFunc;refine Sim.bind' Sim.program fun cw l1 a b ⟨ha,hb⟩=>?_
  have e1:a.funcs[f]?=some fn:=by rw[ha];exact h1
  have e2:b.funcs[f]?=some fn:=by rw[hb];exact h2
  simp only[e1,e2,h5,h3,Option.isNone_some,Aaw,if_false];exact Sim.pure' fun _ l2=>.enter f hf (h.mono (Ren.le_trans l1 l2))
 ·by_cases hh:C.hole f=true
  ·obtain⟨fn,fn',c,c',h1,h2,h3,h4,h5,h6⟩:=E.DT f hh
   unfold Go.callFunc;refine Sim.bind' Sim.program fun cw l1 a b ⟨ha,hb⟩=>?_
   have e1:a.funcs[f]?=some fn:=by rw[ha];exact h1
   have e2:b.funcs[f]?=some fn':=by rw[hb];exact h2
   simp only[e1,e2,h5,h6,h3,h4,Option.isNone_some,Aaw,if_false];exact Sim.pure' fun _ l2=>.hole f hh (h.mono (Ren.le_trans l1 l2))
  ·exact Sim.never (E.never f x (by simpa using hf) (by simpa using hh))
theorem Sim.getLoop{l l':Nat}(h:ρ l l'):Sim (tw P F) P C ρ (zu C) (Acd l) (Acd l'):=by
 unfold Acd;refine Sim.bind' (Sim.getObj h) fun cw l1 o o' r=>?_
 cases r;case loop hl=>exact Sim.pure' fun _ l2=>hl.mono l2
 all_goals exact Sim.stuck
theorem foldl_rel{l:List (Tmp×Value)}{l':List (Tmp×Value)}(h:fT (fun a b=>a.1=b.1/\ah ρ a.2 b.2) l l'):∀ {t t':Array Value},aP ρ t t'->
 aP ρ (l.foldl (fun tmps (x:Tmp×Value)=>tmps.setIfInBounds x.1 x.2) t) (l'.foldl (fun tmps (x:Tmp×Value)=>tmps.setIfInBounds x.1 x.2) t'):=by
 induction h with
 |nil=>exact fun h=>h
 |cons hab _ ih=>
  intro t t' ht;simp only[List.foldl_cons];refine ih ?_
  rw[hab.1];exact bU.set ht _ hab.2
theorem Sim.yield{l l':Nat}(h:ρ l l'){x x':Array Value}(hx:aP ρ x x'):Sim (tw P F) P C ρ (kR C) (Ace l x) (Ace l' x'):=by
 unfold Ace;refine Sim.bind' (Sim.getLoop h) fun cw l1 o o' r=>?_
 cases r with
 |mk st px fn ps oU body ht hd ha hb hp=>
  simp only;rw[hx.1];split
  ·exact Sim.y8
  ·refine Sim.pure' fun bM l2=>.round (l2 _ _ (l1 _ _ h)) fn ?_ ha hb
   simp only[<-Aar];refine foldl_rel ?_ (ht.mono l2)
   have:∀(ps:List Tmp) {x x':List Value},fT (ah bM) x x'->fT (fun a b:Tmp×Value=>a.1=b.1/\ah bM a.2 b.2) (ps.zip x) (ps.zip x'):=by
    intro ps;induction ps with
    |nil=>intro x x' h;simp only[List.zip_nil_left];exact .nil
    |cons p ps ih=>
     intro x x' h;cases h with
     |nil=>simp only[List.zip_nil_right];exact .nil
     |cons hab t=>simp only[List.zip_cons_cons];exact .cons ⟨rfl,hab⟩ (ih t)
   simpa using this ps.toList (hx.mono (Ren.le_trans l1 l2)).oG
end
end Go.Sim
namespace Go.Sim
open Go
section
variable {P:Aa6}{F:Array Aa7}{C:bQ}{G:Nat->Bool}{ρ:Ren}{e e':Abc->Value}
theorem Sim.AT(E:Env P F C G){v v':Value}(hv:ah ρ v v'){x x':Array Value}(hx:aP ρ x x'):
 Sim (tw P F) P C ρ (kR C) (do let d <-Deferred.ofValue v x;Go.invoke d.target d.args) (do let d <-Deferred.ofValue v' x';Go.invoke d.target d.args):=by
 cases hv;case func fn fn' a a' b b' h ha h1 hb h2=>
  cases h with
  |func f=>exact Sim.callFunc E f ((bU.append ⟨ha,h1⟩ hx).append ⟨hb,h2⟩)
  |yield hl=>exact Sim.yield hl (bU.append ⟨ha,h1⟩ hx)
 case nilFunc=>exact Sim.never fun w a aa hr=>nL (P':=tw P F) (α:=Next) .nilDeref w a aa hr
 case fjunk=>
  have e:(do let d <-Deferred.ofValue (.func (.method "") #[.nilIface] #[]) x;Go.invoke d.target d.args:Sem Next)=runtimePanic .nilDeref:=by
   show Go.invoke (.fn (.method "") #[]) (#[.nilIface]++x)=_;have h0:(#[Value.nilIface]++x)[0]?=some .nilIface:=by rw[Array.getElem?_append_left (by simp)];rfl
   unfold Go.invoke;simp only[h0,Go.callMethod]
  rw[e];exact Sim.never fun w a aa hr=>nL (P':=tw P F) (α:=Next) .nilDeref w a aa hr
 all_goals exact Sim.y8
theorem Wr{α:Type}{x:Array α}(h:x.size=1):∃a,x=#[a]:=⟨x[0],by
 apply Aat<;>simp[h]
 intro i h1;have:i=0:=by omega
 subst this;rfl⟩
theorem XS{α:Type}{x:Array α}(h:x.size=2):∃a b,x=#[a,b]:=⟨x[0],x[1],by
 apply Aat<;>simp[h]
 intro i h1;have:i=0\/i=1:=by omega
 rcases this with rfl|rfl<;>exact fun _=>rfl⟩
theorem bU.inv1{α β:Type}{R:α->β->Prop}{a:α}{b:β}(h:bU R #[a] #[b]):R a b:=h.2 0 (by simp) (by simp)
theorem bU.inv2{α β:Type}{R:α->β->Prop}{a c:α}{b d:β}(h:bU R #[a,c] #[b,d]):R a b/\R c d:=⟨h.2 0 (by simp) (by simp),h.2 1 (by simp) (by simp)⟩
theorem Sim.builtin(E:Env P F C G)(b:Builtin)(ts:Array Aa1)(t:Aa1)(cs:Array Bool){x x':Array Value}(hx:aP ρ x x')(hb:uL P ts x.size b=true):
 Sim (tw P F) P C ρ (kR C) (Go.builtin b ts t cs x) (Go.builtin b ts t cs x'):=by
 have h1:x.size=1->∃a a',x=#[a]/\x'=#[a']/\ah ρ a a':=fun h=>by
  obtain⟨a,rfl⟩:=Wr h;obtain⟨a',rfl⟩:=Wr (hx.1.symm.trans h);exact⟨a,a',rfl,rfl,hx.inv1⟩
 have h2:x.size=2->∃a b a' b',x=#[a,b]/\x'=#[a',b']/\ah ρ a a'/\ah ρ b b':=fun h=>by
  obtain⟨a,b,rfl⟩:=XS h;obtain⟨a',b',rfl⟩:=XS (hx.1.symm.trans h);exact⟨a,b,a',b',rfl,rfl,hx.inv2⟩
 cases b<;>simp only[uL,Aax,beq_iff_eq,reduceCtorEq] at hb
 case len=>
  obtain⟨a,a',rfl,rfl,ha⟩:=h1 hb;exact Sim.val (Sim.len ts t ha)
 case max=>exact Sim.val (Sim.max ts t hx)
 case min=>exact Sim.val (Sim.min ts t hx)
 case copy=>
  obtain⟨a,b,a',b',rfl,rfl,ha,hb⟩:=h2 hb;exact Sim.val (Sim.copy ts t ha hb)
 case clear=>
  obtain⟨a,a',rfl,rfl,ha⟩:=h1 hb;exact Sim.val (Sim.clear E.sG ts t ha)
 case append=>
  obtain⟨a,b,a',b',rfl,rfl,ha,hc⟩:=h2 hb.1;refine Sim.val (Sim.append E.sG ts t (fun u hu k hk=>?_) ha hc)
  have:=hb.2;simp[EH,hu,hk] at this
theorem Gm{x:Array Abc}(h:x.all (oH G)=true){o:Abc}(ho:o∈x):oH G o=true:=by simpa using Aal.1 h o ho
theorem Ip(h:pL G ρ e e'){x:Array Abc}(hx:x.all (oH G)=true):aP ρ (x.map e) (x.map e'):=by
 refine⟨by simp,fun i h1 h2=>?_⟩
 simp only[Aap];exact h _ (Gm hx (Aab _))
theorem V7(h:pL G ρ e e'){x:Array (Nat×Abc)}(hx:∀p∈x,oH G p.2=true):bU (zw ρ) (x.map fun(i,o)=>(i,e o)) (x.map fun(i,o)=>(i,e' o)):=by
 refine⟨by simp,fun i h1 h2=>?_⟩
 simp only[Aap];exact⟨rfl,h _ (hx _ (Aab _))⟩
theorem OT(h:pL G ρ e e'){x:Option Abc}(hx:∀o,x=some o->oH G o=true):fl (ah ρ) (x.map e) (x.map e'):=by
 cases x with
 |none=>exact .none
 |some o=>exact .some (h _ (hx o rfl))
theorem ed.execOp(E:Env P F C G)(o:Oper)(ho:j7 P G o=true)(h:pL G ρ e e'):ed (tw P F) P C ρ (kR C) (Go.execOp e o) (Go.execOp e' o):=by
 unfold j7 at ho;rw[Aax] at ho;obtain⟨eA,ab⟩:=ho;unfold Go.execOp;have T:=E.sG;have mem:∀x,x∈o.op.operands->ah ρ (e x) (e' x):=fun x hx=>h x (Gm eA hx)
 have vK:∀x,x∈o.op.operands->oH G x=true:=fun x hx=>Gm eA hx
 generalize o.op=op at *;cases op<;>try(simp[iO] at ab;done)
 case move x=>exact Sim.lx (Sim.pure' fun _ l=>.value ((mem x (by simp[Acv])).mono l))
 case assign x=>exact Sim.lx (Sim.pure' fun _ l=>.value ((mem x (by simp[Acv])).mono l))
 case pick c a b=>
  refine Sim.lx (Sim.cE (Sim.asBool (mem c (by simp[Acv]))) fun cw l1 x=>Sim.pure' fun bM l2=>.value ?_)
  cases x
  ·exact(mem b (by simp[Acv])).mono (Ren.le_trans l1 l2)
  ·exact(mem a (by simp[Acv])).mono (Ren.le_trans l1 l2)
 case alloc t=>exact Sim.kL (Sim.alloc T t)
 case box t x=>exact Sim.kL (Sim.box t (mem x (by simp[Acv])))
 case build t ps=>exact Sim.kL (Sim.build T t (V7 h fun p hp=>vK p.2 (by simp[Acv];exact⟨p.1,hp⟩)))
 case buildSlice t n ps=>exact Sim.kL (Sim.buildSlice T t n (V7 h fun p hp=>vK p.2 (by simp[Acv];exact⟨p.1,hp⟩)))
 case load t a=>exact Sim.kL (Sim.loadAt t (mem a (by simp[Acv])))
 case store t a x=>exact Sim.Ql (Sim.storeAt t (mem a (by simp[Acv])) (mem x (by simp[Acv])))
 case binOp bop t x y yt=>
  refine Sim.kL (Sim.ajj (n:=20) bop t (fun hq=>?_) x y (mem x (by simp[Acv])) (mem y (by simp[Acv])))
  simp only[iO,CR,Bool.or_eq_true,Aax,Bool.not_eq_true'] at ab;rcases ab with ab|ab
  ·rcases hq with rfl|rfl<;>simp[VJ] at ab
  ·exact ab
 case unOp u t x=>
  cases u<;>try(simp[iO] at ab;done)
  exact Sim.kL (Sim.not (mem x (by simp[Acv])))
 case nilCheck x=>
  have hx:=mem x (by simp[Acv])
  simp only;generalize e x=v at hx |-
  generalize e' x=v' at hx |-
  have vF:=hx;have np:∀ {s':Sem Next},ed (tw P F) P C ρ (kR C) (Go.runtimePanic .nilDeref:Sem Next) s':=Sim.lx (Sim.never fun w a aa hr=>nL (P':=tw P F) (α:=Next) .nilDeref w a aa hr)
  cases hx;case func fn fn' _ _ _ _ hf _ _ _ _=>cases hf<;>exact Sim.lx (Sim.pure' fun _ l=>.value (ah.mono l vF))
  case ptrNone=>exact np
  case nilIface=>exact np
  case nilFunc=>exact np
  case fjunk=>exact np
  case junk h hb hc=>
   have hv:ah ρ (.tuple #[]) v':=.junk h hb hc;have ok:ed (tw P F) P C ρ (kR C) (Ac7 (Acm (.tuple #[])):Sem Next) (Ac7 (Acm v')):=Sim.lx (Sim.pure' fun _ l=>.value (ah.mono l hv))
   cases v';case pointer x=>
    cases x
    ·exact absurd rfl hc.1
    ·exact ok
   case nilIface=>exact absurd rfl hc.2.1
   case nilFunc=>exact absurd rfl hc.2.2.1
   case func f x y=>exact absurd rfl (hc.2.2.2 f x y)
   all_goals exact ok
  all_goals exact Sim.lx (Sim.pure' fun _ l=>.value (ah.mono l vF))
 case convert s d x=>
  refine Sim.kL (Sim.convert s d ?_ (mem x (by simp[Acv])))
  simp only[iO,zO] at ab;split at ab
  ·exact .ints _ _ (by assumption) (by assumption)
  ·unfold zK at ab
   split at ab
   ·exact .bytes _ (by assumption) (by assumption) (by assumption)
   ·cases ab
  ·cases ab
 case makeFunc fn a b=>
  cases fn<;>try(simp[iO] at ab;done)
  have ha:a.all (oH G)=true:=Aal.2 fun x hx=>by simpa using vK x (by simp[Acv,hx])
  have hb:b.all (oH G)=true:=Aal.2 fun x hx=>by simpa using vK x (by simp[Acv,hx])
  exact Sim.kL (Sim.makeFunc _ (Ip h ha) (Ip h hb))
 case makeMap t r=>
  cases r with
  |some=>simp[iO] at ab
  |none=>exact Sim.kL (Sim.ahW t)
 case makeSlice t l c=>exact Sim.kL (Sim.makeSlice T t (mem l (by simp[Acv])) (mem c (by simp[Acv])))
 case slice t x lo hi mx=>
  exact Sim.kL (Sim.sliceAt t (mem x (by simp[Acv])) (OT h fun o hx=>vK o (by subst hx;simp[Acv])) (OT h fun o hx=>vK o (by subst hx;simp[Acv])) (OT h fun o hx=>vK o (by subst hx;simp[Acv])))
 case fieldAddr s x i=>
  refine Sim.kL (Sim.fieldAt s (mem x (by simp[Acv])) i fun fs f h1 h2=>?_)
  simp only[iO,CV,h1,h2] at ab;cases hi: P.info? f.type with
  |none=>rw[hi] at ab;cases ab
  |some info=>exact⟨info,rfl,by rw[hi] at ab;simpa using ab⟩
 case field t x i=>exact Sim.kL (Sim.field t (mem x (by simp[Acv])) i)
 case indexAddr t x i=>exact Sim.kL (Sim.indexAt t (mem x (by simp[Acv])) (mem i (by simp[Acv])))
 case index t x i=>exact Sim.kL (Sim.index t (mem x (by simp[Acv])) (mem i (by simp[Acv])))
 case lookup t x i ok=>
  refine Sim.kL (Sim.lookup T t (fun k el hk=>⟨20,?_⟩) ok (mem x (by simp[Acv])) (mem i (by simp[Acv])))
  simpa [iO,yG,hk] using ab
 case mapUpdate t m k x=>
  refine ed.ZG (f:=fun _=>Acn) (g:=fun _=>Acn) (ed.mapUpdate t (fun k el hk=>⟨20,?_⟩) (mem m (by simp[Acv])) (mem k (by simp[Acv])) (mem x (by simp[Acv]))) fun _ _ _ _=>.skip
  simpa [iO,yG,hk] using ab
 case extract x i=>exact Sim.kL (Sim.extract (mem x (by simp[Acv])) i)
 case call c=>
  obtain⟨callee,args,ts⟩:=c;have ha:args.all (oH G)=true:=Aal.2 fun x hx=>by simpa using vK x (by simp[Acv,Call.operands,hx])
  cases callee with
  |invoke=>simp[iO] at ab
  |value f=>exact(Sim.AT E (mem f (by simp[Acv,Call.operands])) (Ip h ha)).lx
  |builtin b=>exact(Sim.builtin E b ts _ _ (Ip h ha) (by simpa [iO] using ab)).lx
end
end Go.Sim
namespace Go.Sim
open Go
section
variable {P:Aa6}{F:Array Aa7}{C:bQ}{G:Nat->Bool}{ρ:Ren}
theorem Sim.enterLoop(fn:Aaz){t t':Array Value}(ht:aP ρ t t')(ps:Array Tmp){a b:Code}(ha:C.clean a)(hb:C.clean b){r r':Option Nat}(hr:fl ρ r r'):
 Sim (tw P F) P C ρ (fun ρ x y=>ρ x.1 y.1/\fT (sM ρ) x.2 y.2) (Acf fn t ps a b r) (Acf fn t' ps a b r'):=by
 have last:∀ {cw:Ren},ρ.le cw->∀ {d d':Nat},cw d d'->∀ {m m':List Aa3},fT (sM cw) m m'->Sim (tw P F) P C cw (fun ρ x y=>ρ x.1 y.1/\fT (sM ρ) x.2 y.2)
  (do Ac7 (<-Go.newObj (.loop {state:=.ready,pending:=none,fn,tmps:=t,params:=ps,assign:=a,body:=b,defers:=d}),m))
  (do Ac7 (<-Go.newObj (.loop {state:=.ready,pending:=none,fn,tmps:=t',params:=ps,assign:=a,body:=b,defers:=d'}),m')):=by
  intro cw l1 d d' hd m m' hm;refine Sim.bind' (Sim.newObj (.loop (.mk _ _ _ _ _ _ (ht.mono l1) hd ha hb (by simp)))) fun bM l2 x y hxy=>Sim.pure' fun ej l3=>⟨l3 _ _ hxy,?_⟩
  exact hm.mono fun _ _ h=>by cases h with|collected h=>exact .collected (l3 _ _ (l2 _ _ h))
 unfold Acf;cases hr with
 |none=>
  simp only[pure_bind];exact Sim.bind' (Sim.newObj .calls) fun cw l1 x y hxy=>last l1 hxy (.cons (.collected hxy) .nil)
 |some h=>
  simp only[pure_bind];refine Sim.bind' (Sim.getLoop h) fun cw l1 o o' hl=>?_
  cases hl with
  |mk st px fn ps oU body ht hd ha hb hp=>exact last l1 hd .nil
theorem Sim.beginRound{l l':Nat}(h:ρ l l'):Sim (tw P F) P C ρ (fun _ _ _=>True) (Acg l) (Acg l'):=by
 unfold Acg;refine Sim.bind' (Sim.getLoop h) fun cw l1 o o' hl=>?_
 cases hl with
 |mk st px fn ps oU body ht hd ha hb hp=>
  refine Sim.bind' (Sim.setObj (l1 _ _ h) (.loop (.mk _ _ _ _ _ _ ht hd ha hb hp))) fun bM l2 _ _ _=>?_
  cases st
  ·exact Sim.pure' fun _ _=>trivial
  all_goals exact Sim.never (nL _)
theorem Sim.endRound{l l':Nat}(h:ρ l l')(j:Option Code)(hj:∀c,j=some c->C.clean c):Sim (tw P F) P C ρ ah (Ach l j) (Ach l' j):=by
 unfold Ach;refine Sim.bind' (Sim.getLoop h) fun cw l1 o o' hl=>?_
 cases hl with
 |mk st px fn ps oU body ht hd ha hb hp=>
  exact Sim.bind' (Sim.setObj (l1 _ _ h) (.loop (.mk _ _ _ _ _ _ ht hd ha hb hj))) fun bM l2 _ _ _=>Sim.pure' fun _ _=>.bool _
theorem Sim.endLoop{l l':Nat}(h:ρ l l'):Sim (tw P F) P C ρ (fun _ a b=>a=b/\∀c,a=some c->C.clean c) (Aci l) (Aci l'):=by
 unfold Aci;refine Sim.bind' (Sim.getLoop h) fun cw l1 o o' hl=>?_
 cases hl with
 |mk st px fn ps oU body ht hd ha hb hp=>
  simp only;split
  ·exact Sim.never (br.bind (nL _))
  ·exact Sim.bind' (Sim.setObj (l1 _ _ h) (.loop (.mk _ _ _ _ _ _ ht hd ha hb hp))) fun bM l2 _ _ _=>Sim.pure' fun _ _=>⟨rfl,hp⟩
theorem Sim.takeDeferred{l l':Nat}(h:ρ l l'):Sim (tw P F) P C ρ (fun _ a b=>a=[]/\b=[]) (Acj l) (Acj l'):=by
 unfold Acj;refine Sim.bind' (Sim.getObj h) fun cw l1 o o' ro=>?_
 cases ro;case calls=>exact Sim.bind' (Sim.setObj (l1 _ _ h) .EF) fun bM l2 _ _ _=>Sim.pure' fun _ _=>⟨rfl,rfl⟩
 all_goals exact Sim.stuck
theorem Sim.results(fn:Aa7){t t':Array Value}(ht:aP ρ t t'):Sim (tw P F) P C ρ ah (Go.results fn t) (Go.results fn t'):=by
 unfold Go.results;have:∀(l:List ResultVar) {cw:Ren},ρ.le cw->Sim (tw P F) P C cw (fun ρ=>fT (ah ρ)) (l.mapM fun
  | .tmp x=>Ac7 (t.getD x undef)
  | .cell a ty=>do Go.loadVar ty (<-Go.asAddr (t.getD a undef)))
  (l.mapM fun
    | .tmp x=>Ac7 (t'.getD x undef)
    | .cell a ty=>do Go.loadVar ty (<-Go.asAddr (t'.getD a undef))):=by
  intro l;induction l with
  |nil=>intro cw l1;simp only[List.mapM_nil];exact Sim.pure' fun _ _=>.nil
  |cons r l ih=>
   intro cw l1;simp only[List.mapM_cons];refine Sim.bind' (R:=ah) ?_ fun bM l2 v v' hv=>Sim.bind' (ih (Ren.le_trans l1 l2)) fun ej l3 x x' hx=>Sim.pure' fun lB l4=>.cons (hv.mono (Ren.le_trans l3 l4)) (hx.mono fun _ _ h=>h.mono l4)
   cases r with
   |tmp x=>exact Sim.pure' fun bM l2=>bU.getD (ht.mono (Ren.le_trans l1 l2)) x .undef
   |cell a ty=>exact Sim.bind' (Sim.asAddr (bU.getD (ht.mono l1) a .undef)) fun bM l2 _ _ hab=>Sim.loadVar ty hab
 rw[Aak,Aak,map_eq_pure_bind,map_eq_pure_bind,bind_assoc,bind_assoc];refine Sim.bind' (this fn.results.toList ρ.le_refl) fun cw l1 x x' hx=>?_
 simp only[pure_bind];refine Sim.pure' fun bM l2=>?_
 have hx:=hx.mono fun _ _ h=>ah.mono l2 h
 cases hx with
 |nil=>exact ah.tuple' .empty
 |cons hab t=>
  cases t with
  |nil=>exact hab
  |cons hcd t=>exact ah.tuple' (bU.ai9 (.cons hab (.cons hcd t)))
end
end Go.Sim
namespace Go.Sim
open Go
structure Tl where
 code:Code
 items:List Item
 defers:List Aa3
 callers:List Abd
 kind:CallKind
def di:Code:=.refuse ""
def cQ:Aa3:={target:=.fn (.method "") #[],args:=#[]}
inductive Cut(C:bQ)(S:Tl):Code->Code->Prop
 |stop:Cut C S di S.code
 |seq {a b b':Code} (ha:C.clean a) (hb:Cut C S b b'):Cut C S (.seq a b) (.seq a b')
inductive lG(C:bQ)(S:Tl)(ρ:Ren):Item->Item->Prop
 |code (c:Code) (h:C.clean c):lG C S ρ (.code c) (.code c)
 |cut {c c':Code} (h:Cut C S c c'):lG C S ρ (.code c) (.code c')
 |inBlock (id:Nat):lG C S ρ (.inBlock id) (.inBlock id)
 |inLoop (c:Code) (h:C.clean c):lG C S ρ (.inLoop c) (.inLoop c)
 |inScope (c:Code) (h:C.clean c):lG C S ρ (.inScope c) (.inScope c)
 |inRegion (id:Nat) (d:Bool) (ops:Array Oper) (todo:List Nat) (h:C.clean (.region id ops d)):lG C S ρ (.inRegion ops todo) (.inRegion ops todo)
 |inRangeFunc {l l':Nat} (h:ρ l l'):lG C S ρ (.inRangeFunc l) (.inRangeFunc l')
 |endRangeFunc {l l':Nat} (h:ρ l l'):lG C S ρ (.endRangeFunc l) (.endRangeFunc l')
 |beginRound:lG C S ρ .beginRound .beginRound
theorem lG.mono{C:bQ}{S:Tl}{ρ ax:Ren}(h:ρ.le ax){a b:Item}(x:lG C S ρ a b):lG C S ax a b:=by
 cases x with
 |code c hc=>exact .code c hc
 |cut hc=>exact .cut hc
 |inBlock id=>exact .inBlock id
 |inLoop c hc=>exact .inLoop c hc
 |inScope c hc=>exact .inScope c hc
 |inRegion id d ops todo hc=>exact .inRegion id d ops todo hc
 |inRangeFunc hl=>exact .inRangeFunc (h _ _ hl)
 |endRangeFunc hl=>exact .endRangeFunc (h _ _ hl)
 |beginRound=>exact .beginRound
theorem sM.mono{ρ ax:Ren}(h:ρ.le ax){a b:Aa3}(x:sM ρ a b):sM ax a b:=by
 cases x with|collected hr=>exact .collected (h _ _ hr)
inductive oc(C:bQ)(S:Tl)(ρ:Ren):Bool->List Item->List Item->Prop
 |nil:oc C S ρ false [] []
 |stop:oc C S ρ true [.code di] S.items
 |cons {b:Bool} {i i':Item} {k k':List Item} (h:lG C S ρ i i') (t:oc C S ρ b k k'):oc C S ρ b (i::k) (i'::k')
inductive jJ(S:Tl)(ρ:Ren):Bool->List Aa3->List Aa3->Prop
 |nil:jJ S ρ false [] []
 |stop:jJ S ρ true [cQ] S.defers
 |cons {b:Bool} {d d':Aa3} {k k':List Aa3} (h:sM ρ d d') (t:jJ S ρ b k k'):jJ S ρ b (d::k) (d'::k')
theorem oc.mono{C:bQ}{S:Tl}{ρ ax:Ren}(h:ρ.le ax){b:Bool}{k k':List Item}(x:oc C S ρ b k k'):oc C S ax b k k':=by
 induction x with
 |nil=>exact .nil
 |stop=>exact .stop
 |cons hi _ ih=>exact .cons (hi.mono h) ih
theorem jJ.mono{S:Tl}{ρ ax:Ren}(h:ρ.le ax){b:Bool}{k k':List Aa3}(x:jJ S ρ b k k'):jJ S ax b k k':=by
 induction x with
 |nil=>exact .nil
 |stop=>exact .stop
 |cons hi _ ih=>exact .cons (hi.mono h) ih
theorem jJ.app{S:Tl}{ρ:Ren}{b:Bool}{m m' k k':List Aa3}(h:fT (sM ρ) m m')(x:jJ S ρ b k k'):jJ S ρ b (m++k) (m'++k'):=by
 induction h with
 |nil=>exact x
 |cons hd _ ih=>exact .cons hd ih
inductive Ld:FrameMode->Prop
 |run:Ld .run
 |returning:Ld .returning
structure Fit(C:bQ)(K:CallKind)(b:Bool)(f:Aaz)(r:Option Nat)(m:FrameMode)(eT:CallKind):Prop where
 ok:b=false->r=none->C.ok f=true
 base:b=true->r=none
 round:r≠none->m=.run
 kind:b=false->eT=.normal
 early:(eT==.early)=false
 Cv:b=true->eT=K
inductive ea(C:bQ)(S:Tl)(ρ:Ren)(b:Bool):Abd->Abd->Prop
 |mk (f:Aaz) {t t':Array Value} (ht:aP ρ t t') {k k':List Item} (hk:oc C S ρ b k k') {d d':List Aa3} (hd:jJ S ρ b d d')
   {m:FrameMode} (hm:Ld m) {r r':Option Nat} (hr:fl ρ r r') {eT:CallKind} (hf:Fit C S.kind b f r m eT):ea C S ρ b ⟨f,t,k,d,m,.normal,r⟩ ⟨f,t',k',d',m,eT,r'⟩
theorem ea.mono{C:bQ}{S:Tl}{ρ ax:Ren}(h:ρ.le ax){q:Bool}{a b:Abd}(x:ea C S ρ q a b):ea C S ax q a b:=by
 cases x with
 |mk f ht hk hd hm hr hf=>
  refine .mk f (ht.mono h) (hk.mono h) (hd.mono h) hm ?_ hf
  cases hr with
  |none=>exact .none
  |some hr=>exact .some (h _ _ hr)
inductive Below(C:bQ)(S:Tl)(ρ:Ren):Bool->List Abd->List Abd->Prop
 |base:Below C S ρ true [] S.callers
 |call {b:Bool} {fr aV:Abd} {cs bh:List Abd} (h:ea C S ρ b fr aV) (aw:fr.todo≠ [.code di]) (t:Below C S ρ b cs bh):Below C S ρ false (fr::cs) (aV::bh)
theorem Below.mono{C:bQ}{S:Tl}{ρ ax:Ren}(h:ρ.le ax){q:Bool}{a b:List Abd}(x:Below C S ρ q a b):Below C S ax q a b:=by
 induction x with
 |base=>exact .base
 |call hf aw _ ih=>exact .call (hf.mono h) aw ih
abbrev aO(fr:Abd)(cs:List Abd):Abe:={frame:=fr,callers:=cs,status:=.running,dying:=none}
inductive sP(P P':Aa6)(C:bQ)(S:Tl)(ρ:Ren):Abe->Abe->Prop
 |inside {b:Bool} {fr aV:Abd} {cs bh:List Abd} (h:ea C S ρ b fr aV) (hL:Below C S ρ b cs bh):sP P P' C S ρ (aO fr cs) (aO aV bh)
 |hole {b:Bool} (f:Aaz) (hf:C.hole f=true) {x x':Array Value} (hx:aP ρ x x') {fr aV:Abd} {cs bh:List Abd} (h:ea C S ρ b fr aV) (aw:fr.todo≠ [.code di]) (hL:Below C S ρ b cs bh):
   sP P P' C S ρ (aO (Frame.enter P' f x .normal) (fr::cs)) (aO (Frame.enter P f x' .normal) (aV::bh))
section
variable {P:Aa6}{F:Array Aa7}{C:bQ}{S:Tl}{G:Nat->Bool}{ρ:Ren}
theorem lG.SG{c c':Code}(h:Cut C S c c'):c=di\/∃a b b',c=.seq a b/\c'=.seq a b'/\C.clean a/\Cut C S b b':=by
 cases h with
 |stop=>exact .inl rfl
 |seq ha hb=>exact .inr ⟨_,_,_,rfl,rfl,ha,hb⟩
theorem CX{q:Bool}{fr aV:Abd}(h:ea C S ρ q fr aV){v v':Value}(hv:ah ρ v v')(aw:fr.todo≠ [.code di]):ea C S ρ q (fr.finish v) (aV.finish v'):=by
 cases h with
 |mk f ht hk hd hm hr hf=>
  cases hk with
  |nil=>exact .mk f ht .nil hd hm hr hf
  |stop=>exact absurd rfl aw
  |cons hi hk=>
   cases hi with
   |inRegion id d ops todo hc=>
    cases todo with
    |nil=>exact .mk f ht (.cons (.inRegion id d _ _ hc) hk) hd hm hr hf
    |cons i rest=>
     unfold Frame.finish;simp only;cases(ops[i]?).bind (·.dst) with
     |none=>exact .mk f ht (.cons (.inRegion id d _ _ hc) hk) hd hm hr hf
     |some x=>exact .mk f (bU.set ht _ hv) (.cons (.inRegion id d _ _ hc) hk) hd hm hr hf
   |inRangeFunc hl=>exact .mk f ht (.cons (.endRangeFunc hl) hk) hd hm hr hf
   |beginRound=>exact .mk f ht hk hd hm hr hf
   |code c hc=>exact .mk f ht (.cons (.code c hc) hk) hd hm hr hf
   |cut hc=>exact .mk f ht (.cons (.cut hc) hk) hd hm hr hf
   |inBlock id=>exact .mk f ht (.cons (.inBlock id) hk) hd hm hr hf
   |inLoop c hc=>exact .mk f ht (.cons (.inLoop c hc) hk) hd hm hr hf
   |inScope c hc=>exact .mk f ht (.cons (.inScope c hc) hk) hd hm hr hf
   |endRangeFunc hl=>exact .mk f ht (.cons (.endRangeFunc hl) hk) hd hm hr hf
theorem abM(E:Env P F C G)(f:Aaz)(hf:C.ok f=true){x x':Array Value}(hx:aP ρ x x'):ea C S ρ false (Frame.enter (tw P F) f x .normal) (Frame.enter P f x' .normal):=by
 obtain⟨fn,c,h1,h2,h3,h4,h5⟩:=E.get f hf;have e1:(tw P F).funcs[f]?=some fn:=h1;unfold Frame.enter;simp only[e1,h2,h3,Option.map_some,Option.bind_some,Option.getD_some];rw[<-hx.1];exact .mk f (hx.append (bU.refl fun a ha=>by rw[(Aav.1 ha).2];exact .undef)) (.cons (.code c ((E.clean c).2 h4)) .nil) .nil .run .none ⟨fun _ _=>hf,by simp,by simp,fun _=>rfl,rfl,fun h=>by simp at h⟩
theorem C5{t t':Array Value}{f:Aaz}{k k':List Item}{d d':List Aa3}{m:FrameMode}{r r':Option Nat}{kd eT:CallKind}(hG:∀g,G g=true->ρ g g)(ht:aP ρ t t'):
 pL G ρ (Frame.eval ⟨f,t,k,d,m,kd,r⟩) (Frame.eval ⟨f,t',k',d',m,eT,r'⟩):=by
 intro x hx;cases x with
 |tmp t=>exact bU.getD ht _ .undef
 |const v=>exact(Tb 10 hx).rel ρ
 |global g=>exact .ptr ⟨hG g hx,rfl,rfl⟩
 |func f=>exact .func (.func f) rfl (by simp) rfl (by simp)
def Plain(g:Abe):Prop:=(∃fr cs,g=aO fr cs)/\∀ch,g.frame.mode≠ .panicking ch
def dE(P:Aa6)(F:Array Aa7)(C:bQ)(S:Tl)(ρ:Ren)(w w':Aa4)(s s':GStep):Prop:=
 ∀dG aa es,s=.go dG aa es->Plain dG->∃bH en aA es',s'=.go en aA es'/\sP P (tw P F) C S bH dG en/\bV C bH aa aA/\Trans ρ bH w w' aa aA/\∀e∈es',pM bH w e
theorem dE.pure{w w':Aa4}(hw:gY C ρ w w'){g g':Abe}(h:sP P (tw P F) C S ρ g g'){es:Array Aa5}:dE P F C S ρ w w' (.go g w es) (.go g' w' #[]):=by
 intro dG aa es e _;cases e;exact⟨ρ,_,_,_,rfl,h,hw.core,Trans.refl ..,by simp⟩
theorem dE.ended{w w' aq:Aa4}{o:Outcome}{es:Array Aa5}{s':GStep}:dE P F C S ρ w w' (.ended o aq es) s':=by
 intro dG aa es e;cases e
theorem mem_seen{p:Aa6}{fn:Aaz}{es:Array Aa5}{e:Aa5}(h:e∈seen p fn es):e∈es:=by
 unfold seen at h;simp only at h;rw[<-Aar] at h;have:∀(l:List Aa5) (q:Bool) (kept:Array Aa5),e∈(l.foldl (init:=(q,kept)) fun(x:Bool×Array Aa5) e=>
  match x with
  | (q,kept)=>match e.loc with
    | .mark (.extern f)=>((p.funcs[f]?).any (·.norace),kept)
    |_=>(q,if q && !e.sync then kept else kept.push e)).2->e∈l\/e∈kept:=by
  intro l;induction l with
  |nil=>intro q kept h;exact .inr h
  |cons a l ih=>
   intro q kept h;simp only[List.foldl_cons] at h;split at h
   ·rcases ih _ _ h with h|h
    ·exact .inl (by simp[h])
    ·exact .inr h
   ·rcases ih _ _ h with h|h
    ·exact .inl (by simp[h])
    ·split at h
     ·exact .inr h
     ·rcases Array.mem_push.1 h with h|h
      ·exact .inr h
      ·exact .inl (by simp[h])
 rcases this _ _ _ h with h|h
 ·simpa using h
 ·simp at h
end
end Go.Sim
namespace Go.Sim
open Go
theorem raise_mode(fr:Abd)(vs:List PanicEntry):∃ch,(fr.raise vs).mode=.panicking ch:=by
 unfold Frame.raise;split<;>exact⟨_,rfl⟩
theorem Ll{es es':Array Aa5}{s:GStep}{g:Abe}{w:Aa4}(h:Abr es s=.go g w es'):∃e,s=.go g w e:=by
 cases s<;>simp only[Abr,reduceCtorEq,Abs] at h
 obtain⟨rfl,rfl,_⟩:=h;exact⟨_,rfl⟩
section
variable {P:Aa6}{F:Array Aa7}{C:bQ}{S:Tl}{G:Nat->Bool}{ρ:Ren}
theorem abF(E:Env P F C G)(fr:Abd)(cs:List Abd)(d:Option Dying)(g:Nat)(w:Aa4):∃o w' es,early (tw P F) fr cs d g w=.ended o w' es:=by
 unfold early;simp only[E.ahead,E.steps g,Bool.not_true,Aaw,if_false];exact⟨_,_,_,rfl⟩
theorem abK{p:Aa6}{fr:Abd}{cs:List Abd}{d:Option Dying}{m:String}{w:Aa4}{g:Abe}{aa:Aa4}{es:Array Aa5}(h:endFatal p fr cs d m w=.go g aa es):∀fr cs,g≠aO fr cs:=by
 unfold endFatal at h;simp only at h;split at h
 ·unfold dieOf at h
  simp only[Abs] at h;obtain⟨rfl,_⟩:=h;intro fr cs e;simp at e
 ·cases h
 ·cases h
theorem abL{fr:Abd}{m:String}{w:Aa4}{g:Abe}{aa:Aa4}{es:Array Aa5}(h:endThrow fr m w=.go g aa es):∀fr cs,g≠aO fr cs:=by
 unfold endThrow dieOf at h;simp only[Abs] at h;obtain⟨rfl,_⟩:=h;intro fr cs e;simp at e
theorem Lr(E:Env P F C G){w w':Aa4}(hw:gY C ρ w w'){q:Bool}{fr aV:Abd}(b7:ea C S ρ q fr aV)(aw:fr.todo≠ [.code di]){cs bh:List Abd}(hL:Below C S ρ q cs bh)
 {s s':Sem Next}(hs:ed (tw P F) P C ρ (kR C) s s')(b:Bool):
 dE P F C S ρ w w' (stepG.apply (tw P F) b fr cs none s w) (stepG.apply P true aV bh none s' w'):=by
 intro dG aa es h hg;obtain⟨⟨jR,lM,rfl⟩,hm⟩:=hg;have key:∃pr:Result Next×Array Aa5,pr.1=s.run (tw P F) w/\(if b=true then s.runT (tw P F) w #[] else(s.run (tw P F) w,#[]))=pr:=⟨_,by cases b<;>simp,rfl⟩
 obtain⟨⟨r,es0⟩,e1,e2⟩:=key;unfold stepG.apply at h;simp only[e2] at h;obtain⟨es1,h⟩:=Ll h;simp only at e1;cases hr:s.run (tw P F) w with
 |halt x aq=>
  rw[hr] at e1;subst e1;exfalso;cases x with
  |panic v=>
   simp only[Abs,aO,Goroutine.mk.injEq] at h;obtain⟨⟨rfl,_⟩,_⟩:=h;obtain⟨ch,e⟩:=raise_mode fr [{v,recovered:=false}];exact hm ch e
  |goexit=>
   simp only[Abs,aO,Goroutine.mk.injEq] at h;obtain⟨⟨rfl,_⟩,_⟩:=h;obtain⟨ch,e⟩:=raise_mode fr [goexitEntry];exact hm ch e
  |blocked=>simp[aO] at h
  |waiting=>simp[aO] at h
  |exit=>simp at h
  |fatal m=>exact abK h _ _ rfl
  |throw m=>exact abL h _ _ rfl
  |unsupported u=>
   by_cases hu:∃g,u=.initOrder g
   ·obtain⟨g,rfl⟩:=hu
    obtain⟨o,w',es,e⟩:=abF E fr cs none g aq;simp only[e] at h;cases h
   ·cases u<;>first| (exact hu ⟨_,rfl⟩) | (simp at h)
  |stuck=>simp at h
 |ok n aq=>
  rw[hr] at e1;subst e1;obtain⟨bH,n',ep,eD,k1,k2,k3,k4,k5⟩:=hs ρ ρ.le_refl w w' #[] hw n aq hr;have my:=b7.mono k4.le;have nB:=hL.mono k4.le;have sub:∀e∈seen P aV.fn (if(aV.kind==CallKind.early)=true then #[] else eD),pM bH w e:=fun e he=>by
   have:=mem_seen he;split at this
   ·simp at this
   ·exact k5 e this
  unfold stepG.apply;simp only[if_true,k1,Array.empty_append];cases k2 with
  |value hv=>
   simp only[Abs] at h;obtain⟨e,rfl,_⟩:=h;rw[<-e];exact⟨bH,_,_,_,rfl,.inside (CX my hv aw) nB,k3,k4,by simpa using sub⟩
  |skip=>
   simp only[Abs] at h;obtain⟨e,rfl,_⟩:=h;rw[<-e];exact⟨bH,_,_,_,rfl,.inside (CX my .undef aw) nB,k3,k4,by simpa using sub⟩
  |enter f hf hx=>
   simp only[Abs] at h;obtain⟨e,rfl,_⟩:=h;rw[<-e];have fin:=sP.inside (P:=P) (P':=tw P F) (abM (S:=S) E f hf hx) (.call my aw nB);cases b7 with
   |mk f0 ht hk hd hm' DX Hg=>
    cases hk with
    |nil=>exact⟨bH,_,_,_,rfl,fin,k3,k4,by simpa using sub⟩
    |stop=>exact absurd rfl aw
    |cons hi hk=>cases hi<;>exact⟨bH,_,_,_,rfl,fin,k3,k4,by simpa using sub⟩
  |hole f hf hx=>
   simp only[Abs] at h;obtain⟨e,rfl,_⟩:=h;rw[<-e];have fin:=sP.hole (P:=P) (P':=tw P F) f hf hx my aw nB;cases b7 with
   |mk f0 ht hk hd hm' DX Hg=>
    cases hk with
    |nil=>exact⟨bH,_,_,_,rfl,fin,k3,k4,by simpa using sub⟩
    |stop=>exact absurd rfl aw
    |cons hi hk=>cases hi<;>exact⟨bH,_,_,_,rfl,fin,k3,k4,by simpa using sub⟩
  |round hl f hx ha hb=>
   simp only[Abs] at h;obtain⟨e,rfl,_⟩:=h;rw[<-e];exact⟨bH,_,_,_,rfl,.inside (.mk f hx (.cons (.code _ ha) (.cons .beginRound (.cons (.code _ hb) .nil))) .nil .run (.some hl) ⟨by simp,by simp,by simp,fun _=>rfl,rfl,fun h=>by simp at h⟩) (.call my aw nB),k3,k4,by simpa using sub⟩
end
end Go.Sim
namespace Go.Sim
open Go
section
variable {P:Aa6}{F:Array Aa7}{C:bQ}{S:Tl}{G:Nat->Bool}{ρ:Ren}
theorem dE.step{w w' aq ep:Aa4}{bH:Ren}(ht:Trans ρ bH w w' aq ep){eD es:Array Aa5}(hn:∀e∈eD,pM bH w e){s s':GStep}(h:dE P F C S bH aq ep s s'):
 dE P F C S ρ w w' (Abr es s) (Abr eD s'):=by
 intro dG aa es1 e hp;obtain⟨e2,e⟩:=Ll e;obtain⟨BR,en,aA,es',h1,h2,h3,h4,h5⟩:=h dG aa e2 e hp;refine⟨BR,en,aA,eD++es',by rw[h1];rfl,h2,h3,ht.trans h4,fun x hx=>?_⟩
 rcases Aad.1 hx with hx|hx
 ·exact(hn x hx).mono h4.le
 ·exact(h5 x hx).back ht
theorem dE.ue{α β:Type}{w w':Aa4}(hw:gY C ρ w w'){R:Ren->α->β->Prop}{s:Sem α}{s':Sem β}(hs:Sim (tw P F) P C ρ R s s'){fn:Aaz}
 {k:Result α->GStep}{k':Result β->GStep}(hh:∀h aq g aa es,k (.halt h aq)=.go g aa es->¬Plain g)
 (hk:∀bH aq ep a b,ρ.le bH->gY C bH aq ep->R bH a b->dE P F C S bH aq ep (k (.ok a aq)) (k' (.ok b ep))):
 dE P F C S ρ w w' (Abr (seen (tw P F) fn (s.runT (tw P F) w #[]).2) (k (s.runT (tw P F) w #[]).1)) (Abr (seen P fn (s'.runT P w' #[]).2) (k' (s'.runT P w' #[]).1)):=by
 rw[Sem.runT_fst];cases hr:s.run (tw P F) w with
 |halt x aq=>
  intro dG aa es e hp;obtain⟨e2,e⟩:=Ll e;exact(hh _ _ _ _ _ e hp).elim
 |ok a aq=>
  obtain⟨bH,b,ep,eD,k1,k2,k3,k4,k5⟩:=hs ρ ρ.le_refl w w' #[] hw a aq hr;rw[k1];exact dE.step k4 (fun e he=>k5 e (by simpa using mem_seen he)) (hk bH aq ep a b k4.le k3 k2)
theorem SO{w w':Aa4}(hw:gY C ρ w w'){fr aV:Abd}(b7:ea C S ρ false fr aV){cs bh:List Abd}(hL:Below C S ρ false cs bh){v v':Value}(hv:ah ρ v v')(m m':Bool):
 dE P F C S ρ w w' (doReturn (tw P F) m fr cs none v w) (doReturn P m' aV bh none v' w'):=by
 cases b7 with
 |mk f ht hk hd hm hr hf=>
  cases hL with
  |call hq aw hL=>
   have:=hf.kind rfl;subst this;exact dE.pure hw (.inside (CX hq hv aw) hL)
theorem acu(id:Nat){b:Bool}{k k':List Item}(h:oc C S ρ b k k'):(exitTo id k=none/\(b=false->exitTo id k'=none))\/∃k₁ AV,exitTo id k=some k₁/\exitTo id k'=some AV/\oc C S ρ b k₁ AV:=by
 induction h with
 |nil=>exact .inl ⟨rfl,fun _=>rfl⟩
 |stop=>exact .inl ⟨rfl,fun h=>by cases h⟩
 |cons hi hk ih=>
  cases hi<;>try exact ih
  case inBlock id'=>
   unfold exitTo;split
   ·exact .inr ⟨_,_,rfl,rfl,hk⟩
   ·exact ih
theorem anm(ops:Array Oper){t t':Array Value}(ht:aP ρ t t'):yielded ops t=yielded ops t':=by
 funext j;unfold yielded;cases(ops[j]?).bind (·.dst) with
 |none=>rfl
 |some x=>
  simp only[Option.bind_some];rcases ht.get? x with⟨e1,e2⟩ | ⟨a,b,e1,e2,hab⟩
  ·rw[e1,e2]
  ·rw[e1,e2]
   cases hab<;>try rfl
   case junk h hb _=>
    cases b<;>first|rfl|exact absurd rfl (hb _)
theorem aiY(p:Aa6)(fr:Abd)(cs:List Abd)(dy:Option Dying)(w:Aa4):∃o aa es,callDeferred p fr cs dy cQ w=.ended o aa es:=by
 unfold callDeferred cQ;simp[Go.invoke,Go.stuck,Acy,bind,Acz,Abr]
theorem amC(E:Env P F C G){w w':Aa4}(hw:gY C ρ w w'){b:Bool}{fr aV:Abd}(b7:ea C S ρ b fr aV)(qw:fr.mode=.returning){cs bh:List Abd}(hL:Below C S ρ b cs bh)(m m':Bool):
 dE P F C S ρ w w' (unwind (tw P F) m fr cs none w) (unwind P m' aV bh none w'):=by
 cases b7 with
 | @mk f t t' ht k k' hk d d' hd md hm ro iS hr eT hf=>
   simp only at qw;subst qw;have DY:ro=none:=by
    rcases Option.eq_none_or_eq_some ro with e| ⟨x,e⟩
    ·exact e
    ·exact absurd (hf.round (by simp[e])) (by simp)
   subst DY;cases hd with
   |nil=>
    obtain⟨fn,cd,h1,h2,h3,h4,h5⟩:=E.get f (hf.ok rfl rfl);have e1:(tw P F).funcs[f]?=some fn:=h1;unfold unwind;simp only[e1,h2];refine dE.ue hw (Sim.results fn ht) (k:=fun r=>match r with
     | .ok v w=>doReturn (tw P F) m _ cs none v w
     | .halt (.stuck s) w=>.ended (.stuck s _) w
     | .halt _ w=>.ended (.stuck "return: the result variables cannot be read" _) w) (k':=fun r=>match r with
     | .ok v w=>doReturn P m' _ bh none v w
     | .halt (.stuck s) w=>.ended (.stuck s _) w
     | .halt _ w=>.ended (.stuck "return: the result variables cannot be read" _) w) (fun h aq g aa es e=>?_) fun bH aq ep a b l2 eC hab=>?_
    ·cases h<;>simp at e
    ·exact SO eC ((ea.mk f ht hk .nil hm hr hf).mono l2) (hL.mono l2) hab m m'
   |stop=>
    intro dG aa es e hp;obtain⟨o,aq,anS,h⟩:=aiY (tw P F) (⟨f,t,k,[],.returning,.normal,none⟩) cs none w;have e':callDeferred (tw P F) (⟨f,t,k,[],.returning,.normal,none⟩) cs none cQ w=.go dG aa es:=e;rw[h] at e';cases e'
   |cons hi hd=>
    cases hi with
    |collected hb=>
     refine dE.ue hw (Sim.takeDeferred hb) (k:=fun r=>match r with
      | .ok calls w=>.go {frame:={ (⟨f,t,k,_,.returning,.normal,none⟩:Abd) with defers:=calls++_},callers:=cs,status:=.running,dying:=none} w
      | .halt _ w=>.ended (.stuck "the deferred calls of a range-over-func loop have been taken" _) w) (k':=fun r=>match r with
      | .ok calls w=>.go {frame:={ (⟨f,t',k',_,.returning,eT,iS⟩:Abd) with defers:=calls++_},callers:=bh,status:=.running,dying:=none} w
      | .halt _ w=>.ended (.stuck "the deferred calls of a range-over-func loop have been taken" _) w) (fun h aq g aa es e=>?_) fun bH aq ep a b l2 eC hab=>?_
     ·simp at e
     ·obtain⟨rfl,rfl⟩:=hab
      exact dE.pure eC (.inside ((ea.mk f ht hk hd hm hr hf).mono l2) (hL.mono l2))
end
end Go.Sim
