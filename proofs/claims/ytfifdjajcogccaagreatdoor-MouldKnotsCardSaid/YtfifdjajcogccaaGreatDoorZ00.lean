import Derived.Conc.Beside
set_option linter.all false
set_option maxHeartbeats 64000000
set_option maxRecDepth 100000
open Array renaming getD_eq_getD_getElem? -> Ò, getElem_mem -> Aab, append_assoc -> Aac, mem_append -> Aad, push_eq_append -> ŋ, getElem?_eq_some_iff -> Ϝ, append_empty -> á, getElem?_push -> ŝ, getElem?_setIfInBounds -> Ó, forIn_toList -> Aaj, mapM_eq_mapM_toList -> ĺ, all_eq_true_iff_forall_mem -> Ě, getElem!_eq_getD -> Aam, getElem?_eq_none -> Ô, range -> Ō, getElem_map -> Aap, getElem_range -> Aaq, foldl_toList -> Aar, toList_zipIdx -> Aas, ext -> Aat, getElem_modify -> Aau, mem_replicate -> Aav, getElem?_append_left -> Aaw, mem_of_getElem? -> Ļ, mem_iff_getElem -> Aay, getElem?_eq_getElem -> â, getElem?_setIfInBounds_ne -> ċ, getElem?_map -> Ć
open Bool renaming false_eq_true -> Ì, and_eq_true -> Ϫ, not_true -> Aa4
open Classical renaming byContradiction -> Ø, choose -> ã, choose_spec -> É, propDecidable -> Aa8
open Go renaming Addr -> ϖ, FuncId -> Å, IntKind -> ä, TypeId -> ό, Code -> ϑ, MapEntry -> đ, Deferred -> Æ, Event -> Í, Program -> Ϙ, Func -> Á, BoundsCode -> Abj, boundsPanic -> Abk, TypeDesc -> ō, byteOfCell -> Ŭ, cellOfByte -> Abn, BinOp -> Ù, Operand -> Ç, Frame -> ϝ, Goroutine -> ϐ, GStep -> ô, PanicEntry -> Abt, Result -> Č, doReturn -> ĭ, callDeferred -> ě, unwind -> Î, stepG -> Ϛ, FloatKind -> Į, lone -> å, step_lone_ended -> Ab1, step_lone_go -> Ab2
open Go.Builtin renaming unsafeAdd_ -> ļ, lenOf -> ŭ, firstCells -> õ, zeroCells -> Ŏ, len_ -> Ab7, max_ -> Ab8, min_ -> Ab9, copy_ -> Aca, clear_ -> Acb, nextslicecap -> Acd, mayShare -> Ace, append_ -> Acf
open Go.Deferred renaming ofValue -> Acg
open Go.Frame renaming enter -> í, finish -> Ē, eval -> Ü, raise -> Ack
open Go.GStep renaming after -> Þ, bare_after -> Ľ
open Go.GStep.go renaming injEq -> ĥ
open Go.Goroutine.mk renaming injEq -> Aco
open Go.Instr renaming sliceBound -> Ş, sliceBounds -> Ů, slice -> Acs, sliceAt -> Acu, extract -> Acv, makeMap -> Acw, makeSlice -> Acx, fill -> Ħ, build -> Acz, buildSlice -> Ac0, checkKey -> Ac1, findAsking -> Ac2, sameNow -> ŏ, findNow -> ľ, findKey -> Ac5, lookup -> Ő, sameBits -> û, keyThatStays -> Ac8, mapUpdate -> ő, getLoop -> Ada, yield -> Adb, enterLoop -> Adc, beginRound -> Ade, endRound -> Adf, endLoop -> Adg, takeDeferred -> Œ
open Go.IntKind renaming i64 -> ϗ
open Go.Made renaming infoAt -> ů
open Go.MemAct renaming ofEvent -> ē
open Go.Mode renaming atomic -> Ű
open Go.Next renaming value -> ş, skip -> Adn
open Go.Op renaming equalIn -> Ł, equal -> ű, addrMod -> Adq, eqGuardIn -> Ų, maxDepth -> ų, operands -> ϻ
open Go.Result.ok renaming injEq -> č
open Go.Sem renaming run -> Ϣ, runT -> Ϧ, bind -> ϫ, runT_fst -> Ady, store -> ł
open Go.World renaming noCell -> Ad0, setCell -> î, farStore -> Ad2, shape? -> Ad3, freeze -> Ad4, viewStore -> Ad5
open Go.stepG renaming apply -> Õ, exec -> Θ
open Nat renaming le_refl -> ϊ, le_trans -> ϣ, lt_of_lt_of_le -> ϟ, zero_mul -> Aeb
open Option renaming isNone_some -> Aec, eq_none_or_eq_some -> Aed, map_eq_some_iff -> Ă
open Option.some renaming inj -> Ϟ, injEq -> ï
open Pure renaming pure -> ϧ
open Std.Legacy.Range renaming forIn_eq_forIn_range' -> Aei
open Bool renaming true -> θ, false -> χ
open Go renaming Value -> υ, undef -> ω, World -> Ψ
open Go.Value renaming slice -> ζ, pointer -> π, tuple -> μ
open Option renaming some -> φ, none -> ν
variable{α σ β ι:Type}{es:Array Go.Event}{gs:Array Go.Goroutine}{c t':Array υ}{b q main:Bool}{a:Go.Addr}{e:Go.Event}{fr ba:Go.Frame}{fn:Go.FuncId}{g g':Go.Goroutine}{h:Go.Halt}{o:Go.Obj}{p P' P:Go.Program}{s:Go.Sem Go.Next}{t:Go.Trace}{d:Go.TypeDesc}{cs bp:List Go.Frame}{n i:Nat}{l l':Option υ}{m:String}{w w' aa aC:Ψ}{v x x' y y' v' a' b' s':υ}
namespace Go.Sim
open Go
abbrev Ren:=Nat->Nat->Prop
def Ren.le(ρ ax:Ren):Prop:=∀a b,ρ a b->ax a b
def Ren.le_refl(ρ:Ren):ρ.le ρ:=λ_ _ h=>h
def Ren.le_trans{ρ ax kQ:Ren}(h:ρ.le ax)(h':ax.le kQ):ρ.le kQ:=λa b x=>h' a b (h a b x)
def fQ(ρ:Ren)(a b:ϖ):Prop:=ρ a.block b.block/\a.off=b.off/\a.spot=b.spot
def fQ.mono{ρ ax:Ren}(h:ρ.le ax){b:ϖ}(x:fQ ρ a b):fQ ax a b:=⟨h _ _ x.1,x.2⟩
def fQ.add{ρ:Ren}{a b:ϖ}(h:fQ ρ a b)(n:Nat):fQ ρ (a.add n) (b.add n):=by
 obtain⟨h1,h2,h3⟩:=h;unfold Addr.add;split
 ·exact⟨h1,h2,h3⟩
 ·exact⟨h1,by simp[h2],rfl⟩
inductive E6(ρ:Ren):Fn->Fn->Prop
 |func (f:Å):E6 ρ (.func f) (.func f)
 |yield {l l':Nat} (h:ρ l l'):E6 ρ (.yield l) (.yield l')
inductive ah(ρ:Ren):υ->υ->Prop
 |bool (b:Bool):ah ρ (.bool b) (.bool b)
 |int (k:ä) (n:Int):ah ρ (.int k n) (.int k n)
 |string (s:ByteArray):ah ρ (.string s) (.string s)
 |ptrNone:ah ρ (π ν) (π ν)
 |ptr {a b:ϖ} (h:fQ ρ a b):ah ρ (π (φ a)) (π (φ b))
 |sliceNone (n c:Nat):ah ρ (ζ ν n c) (ζ ν n c)
 |slice {a b:ϖ} (n c:Nat) (h:fQ ρ a b):ah ρ (ζ (φ a) n c) (ζ (φ b) n c)
 |sliceDead (a b:ϖ):ah ρ (ζ (φ a) 0 0) (ζ (φ b) 0 0)
 |mapNone:ah ρ (.map ν) (.map ν)
 |map {r r':Nat} (h:ρ r r'):ah ρ (.map (φ r)) (.map (φ r'))
 |chanNone:ah ρ (.chan ν) (.chan ν)
 |chan {r r':Nat} (h:ρ r r'):ah ρ (.chan (φ r)) (.chan (φ r'))
 |func {fn fn':Fn} {x x' y y':Array υ} (h:E6 ρ fn fn') (hx:x.size=x'.size) (h1:∀i (h:i<x.size) (h':i<x'.size),ah ρ x[i] x'[i])
   (hy:y.size=y'.size) (h2:∀i (h:i<y.size) (h':i<y'.size),ah ρ y[i] y'[i]):ah ρ (.func fn x y) (.func fn' x' y')
 |nilFunc:ah ρ .nilFunc .nilFunc
 |iface (t:ό) {v v':υ} (h:ah ρ v v'):ah ρ (.iface t v) (.iface t v')
 |nilIface:ah ρ .nilIface .nilIface
 |agg {x x':Array υ} (hx:x.size=x'.size) (h1:∀i (h:i<x.size) (h':i<x'.size),ah ρ x[i] x'[i]):ah ρ (.agg x) (.agg x')
 |tuple {x x':Array υ} (hx:x.size=x'.size) (h1:∀i (h:i<x.size) (h':i<x'.size),ah ρ x[i] x'[i]):ah ρ (.tuple x) (.tuple x')
 |junk {v':υ} (h:v'.cells=#[v']) (hb:∀b,v'≠ .bool b) (hc:v'≠ π ν/\v'≠ .nilIface/\v'≠ .nilFunc/\∀f x y,v'≠ .func f x y):ah ρ (μ #[]) v'
 |fjunk (fn':Fn) (x' y':Array υ):ah ρ (.func (.method "") #[.nilIface] #[]) (.func fn' x' y')
def bU(R:α->β->Prop)(x:Array α)(y:Array β):Prop:=x.size=y.size/\∀i (h:i<x.size) (h':i<y.size),R x[i] y[i]
abbrev aV(ρ:Ren):Array υ->Array υ->Prop:=bU (ah ρ)
def E6.mono{ρ ax:Ren}(h:ρ.le ax){f g:Fn}(x:E6 ρ f g):E6 ax f g:=by
 cases x with
 |func f=>exact .func f
 |yield hl=>exact .yield (h _ _ hl)
def ah.mono{ρ ax:Ren}(h:ρ.le ax){v v':υ}(x:ah ρ v v'):ah ax v v':=by
 induction x with
 |bool b=>exact .bool b
 |int k n=>exact .int k n
 |string s=>exact .string s
 |ptrNone=>exact .ptrNone
 |ptr ha=>exact .ptr (ha.mono h)
 |sliceNone n c=>exact .sliceNone n c
 |slice n c ha=>exact .slice n c (ha.mono h)
 |sliceDead a b=>exact .sliceDead a b
 |mapNone=>exact .mapNone
 |map hr=>exact .map (h _ _ hr)
 |chanNone=>exact .chanNone
 |chan hr=>exact .chan (h _ _ hr)
 |func hf hx _ hy _ i1 i2=>exact .func (hf.mono h) hx i1 hy i2
 |nilFunc=>exact .nilFunc
 |iface t _ ih=>exact .iface t ih
 |nilIface=>exact .nilIface
 |agg hx _ ih=>exact .agg hx ih
 |tuple hx _ ih=>exact .tuple hx ih
 |junk h hb hc=>exact .junk h hb hc
 |fjunk f x y=>exact .fjunk f x y
inductive nj{α β:Type}(R:α->β->Prop):List α->List β->Prop
 |nil:nj R [] []
 |cons {a:α} {b:β} {x:List α} {y:List β} (h:R a b) (t:nj R x y):nj R (a::x) (b::y)
section arr
variable {α β:Type}{R:α->β->Prop}
def bU.mono{R':α->β->Prop}(h:∀a b,R a b->R' a b){x:Array α}{y:Array β}(hx:bU R x y):bU R' x y:=⟨hx.1,λi a b=>h _ _ (hx.2 i a b)⟩
def bU.empty:bU R #[] #[]:=⟨rfl,λi h=>by simp at h⟩
def bU.push{x:Array α}{y:Array β}(h:bU R x y){a:α}{b:β}(hab:R a b):bU R (x.push a) (y.push b):=by
 refine⟨by simp[h.1],λi hi bG=>?_⟩
 simp only[Array.getElem_push];have hs:=h.1;by_cases aj:i<x.size
 ·rw[dif_pos aj,dif_pos (hs▸aj)];exact h.2 i _ _
 ·rw[dif_neg aj,dif_neg (hs▸aj)];exact hab
def bU.append{x x':Array α}{y y':Array β}(h:bU R x y)(h':bU R x' y'):bU R (x++x') (y++y'):=by
 refine⟨by simp[h.1,h'.1],λi hi bG=>?_⟩
 have hs:=h.1;simp only[Array.getElem_append];by_cases aj:i<x.size
 ·rw[dif_pos aj,dif_pos (hs▸aj)];exact h.2 i _ _
 ·rw[dif_neg aj,dif_neg (hs▸aj)]
  have:=h'.2 (i - x.size) (by simp at hi;omega) (by simp at bG;omega)
  simpa [hs] using this
def bU.set{x:Array α}{y:Array β}(h:bU R x y)(i:Nat){a:α}{b:β}(hab:R a b):bU R (x.setIfInBounds i a) (y.setIfInBounds i b):=by
 refine⟨by simp[h.1],λj hj xd=>?_⟩
 rw[Array.getElem_setIfInBounds (by simpa using hj),Array.getElem_setIfInBounds (by simpa using xd)]
 split
 ·exact hab
 ·exact h.2 j _ _
def bU.get? {x:Array α}{y:Array β}(h:bU R x y)(i:Nat):(x[i]?=ν/\y[i]?=ν)\/∃a b,x[i]?=φ a/\y[i]?=φ b/\R a b:=by
 by_cases aj:i<x.size
 ·exact .inr ⟨x[i],y[i]'(h.1▸aj),by simp[aj],by simp[h.1▸aj],h.2 i _ _⟩
 ·refine .inl ⟨by simp;omega,?_⟩
  have:=h.1;simp;omega
def bU.getD{x:Array α}{y:Array β}(h:bU R x y)(i:Nat){a:α}{b:β}(hab:R a b):R (x.getD i a) (y.getD i b):=by
 rcases h.get? i with⟨h1,h2⟩ | ⟨u,v,h1,h2,h3⟩
 ·simpa [Ò,h1,h2] using hab
 ·simpa [Ò,h1,h2] using h3
def bU.extract{x:Array α}{y:Array β}(h:bU R x y)(i j:Nat):bU R (x.extract i j) (y.extract i j):=by
 refine⟨by simp[h.1],λk hk vH=>?_⟩
 simp only[Array.getElem_extract];exact h.2 _ _ _
def bU.refl{R:α->α->Prop}{x:Array α}(h:∀a∈x,R a a):bU R x x:=⟨rfl,λ_ hi _=>h _ (Aab hi)⟩
def bU.one{a:α}{b:β}(h:R a b):bU R #[a] #[b]:=⟨rfl,λi hi _=>by
 have:i=0:=by simp at hi;omega
 subst this;exact h⟩
def bU.vb{x:Array α}{y:Array β}(h:bU R x y):nj R x.toList y.toList:=by
 obtain⟨x⟩:=x;obtain⟨y⟩:=y;obtain⟨h1,h2⟩:=h;simp only[List.size_toArray,List.getElem_toArray] at h1 h2;simp only;induction x generalizing y with
 |nil=>cases y with
  |nil=>exact .nil
  |cons=>simp at h1
 |cons a x ih=>cases y with
  |nil=>simp at h1
  |cons b y=>
   refine .cons (h2 0 (by simp) (by simp)) (ih y (by simpa using h1) λi hi bG=>?_)
   have:=h2 (i+1) (by simpa using hi) (by simpa using bG)
   simpa using this
def bU.apb{x:List α}{y:List β}(h:nj R x y):bU R x.toArray y.toArray:=by
 induction h with
 |nil=>exact .empty
 |cons hab _ ih=>
  refine⟨by have:=ih.1;simp at this;simp[this],λi hi bG=>?_⟩
  cases i with
  |zero=>simpa using hab
  |succ i=>
   have:=ih.2 i (by simpa using hi) (by simpa using bG)
   simpa using this
end arr
def ah.Ba{ρ:Ren}{x y:Array υ}(h:aV ρ x y):ah ρ (.agg x) (.agg y):=.agg h.1 h.2
def ah.tuple'{ρ:Ren}{x y:Array υ}(h:aV ρ x y):ah ρ (.tuple x) (.tuple y):=.tuple h.1 h.2
def ah.undef{ρ:Ren}:ah ρ ω ω:=.tuple' .empty
def aV.mono{ρ ax:Ren}(h:ρ.le ax){x y:Array υ}(hx:aV ρ x y):aV ax x y:=bU.mono (λ_ _=>ah.mono h) hx
def ah.cells{ρ:Ren}{v v':υ}(h:ah ρ v v'):aV ρ v.cells v'.cells:=by
 have h0:=h;cases h;case agg hx h1=>exact⟨hx,h1⟩
 case junk h hb _=>rw[h];exact bU.one h0
 all_goals exact bU.one h0
structure bS where
 ok:Å->Bool
 hole:Å->Bool
 clean:ϑ->Prop
def Full(c:Array υ)(fr:Nat×Nat):Prop:=fr.1=0/\c.size<=fr.2
inductive pH(ρ:Ren):đ->đ->Prop
 |mk {k k' v v':υ} (b:Nat) (hk:ah ρ k k') (hv:ah ρ v v'):pH ρ ⟨k,v,b⟩ ⟨k',v',b⟩
inductive zo(ρ:Ren):Æ->Æ->Prop
 |collected {r r':Nat} (h:ρ r r'):zo ρ ⟨.collected r,#[]⟩ ⟨.collected r',#[]⟩
inductive Ff(C:bS)(ρ:Ren):Loop->Loop->Prop
 |mk (st:LoopState) (vW:Option ϑ) (fn:Å) {tm tm':Array υ} (ps:Array Tmp) (vw body:ϑ) {d d':Nat} (ht:aV ρ tm tm') (hd:ρ d d')
   (ha:C.clean vw) (hb:C.clean body) (hp:∀c,vW=φ c->C.clean c):Ff C ρ ⟨st,vW,fn,tm,ps,vw,body,d⟩ ⟨st,vW,fn,tm',ps,vw,body,d'⟩
inductive oS(C:bS)(ρ:Ren):Obj->Obj->Prop
 |cells {c c':Array υ} (e:ό) {fr ba:Nat×Nat} (h:aV ρ c c') (hf:ba=fr\/Full c fr):oS C ρ (.cells c e fr) (.cells c' e ba)
 |map {es es':Array đ} (clock:Nat) (h:bU (pH ρ) es es'):oS C ρ (.map es clock) (.map es' clock)
 |loop {l l':Loop} (h:Ff C ρ l l'):oS C ρ (.loop l) (.loop l')
 |Kt:oS C ρ (.deferred ν) (.deferred ν)
 |calls:oS C ρ (.deferred (φ [])) (.deferred (φ []))
 |stringIter (s:ByteArray) (p:Nat):oS C ρ (.stringIter s p) (.stringIter s p)
 |number {a b:ϖ} (lost:Bool) (h:fQ ρ a b):oS C ρ (.number a lost) (.number b lost)
def pH.mono{ρ ax:Ren}(h:ρ.le ax){a b:đ}(x:pH ρ a b):pH ax a b:=by
 cases x with|mk b hk hv=>exact .mk b (hk.mono h) (hv.mono h)
def Ff.mono{C:bS}{ρ ax:Ren}(h:ρ.le ax){a b:Loop}(x:Ff C ρ a b):Ff C ax a b:=by
 cases x with|mk st vW fn ps vw body ht hd ha hb hp=>exact .mk st vW fn ps vw body (ht.mono h) (h _ _ hd) ha hb hp
def oS.mono{C:bS}{ρ ax:Ren}(h:ρ.le ax){a b:Obj}(x:oS C ρ a b):oS C ax a b:=by
 cases x with
 |cells e hc hf=>exact .cells e (hc.mono h) hf
 |map clock hm=>exact .map clock (bU.mono (λ_ _=>pH.mono h) hm)
 |loop hl=>exact .loop (hl.mono h)
 |Kt=>exact .Kt
 |calls=>exact .calls
 |stringIter s p=>exact .stringIter s p
 |number l ha=>exact .number l (ha.mono h)
def rM:Obj->Prop
 | .cells c _ fr=>Full c fr
 |_=>False
structure ot(C:bS)(ρ:Ren)(w w':Ψ):Prop where
 fx:∀a b,ρ a b->a<w.heap.size
 du:∀a b,ρ a b->b<w'.heap.size
 fn:∀a b b',ρ a b->ρ a b'->b=b'
 inj:∀a a' b,ρ a b->ρ a' b->a=a'
 obj:∀a b o,ρ a b->w.heap[a]?=φ o->∃o',w'.heap[b]?=φ o'/\oS C ρ o o'
 tape:∀j q,w.tape (w.drawn+j) q=w'.tape (w'.drawn+j) q
structure Trans(ρ ax:Ren)(w w' aa aC:Ψ):Prop where
 le:ρ.le ax
 new:∀a b,ax a b->ρ a b\/(w.heap.size<=a/\w'.heap.size<=b)
 ta:w.heap.size<=aa.heap.size
 ng:w'.heap.size<=aC.heap.size
 qR:∀(a:Nat) (o:Obj),w.heap[a]?=φ o->rM o->aa.heap[a]?=φ o
 oJ:∀b:Nat,b<w'.heap.size->(∀a,ρ a b->∃o,w.heap[a]?=φ o/\rM o)->aC.heap[b]?=w'.heap[b]?
 LG:∀b:Nat,w'.heap.size<=b->b<aC.heap.size->∃a,ax a b
 Oo:aa.tape=w.tape
 CO:aC.tape=w'.tape
 Cs:aC.os=w'.os
 Ct:aC.output=w'.output
def Trans.refl(ρ:Ren)(w w':Ψ):Trans ρ ρ w w' w w':=
 ⟨ρ.le_refl,λ_ _ h=>.inl h,ϊ _,ϊ _,λ_ _ h _=>h,λ_ _ _=>rfl,λb h h'=>by omega,rfl,rfl,rfl,rfl⟩
def Trans.trans{ρ ax kQ:Ren}{w w' aa aC ao ij:Ψ}(h:Trans ρ ax w w' aa aC)(k:Trans ax kQ aa aC ao ij):Trans ρ kQ w w' ao ij where
 le:=Ren.le_trans h.le k.le
 new a b x:=by
  rcases k.new a b x with x| ⟨x,y⟩
  ·exact h.new a b x
  ·exact .inr ⟨ϣ h.ta x,ϣ h.ng y⟩
 ta:=ϣ h.ta k.ta
 ng:=ϣ h.ng k.ng
 qR a o x f:=k.qR a o (h.qR a o x f) f
 oJ b hb hf:=by
  have e:=h.oJ b hb hf;rw[<-e];refine k.oJ b (ϟ hb h.ng) λa ha=>?_
  rcases h.new a b ha with x| ⟨_,y⟩
  ·obtain⟨o,ho,fo⟩:=hf a x
   exact⟨o,h.qR a o ho fo,fo⟩
  ·omega
 LG b hb iE:=by
  by_cases aj:b<aC.heap.size
  ·obtain⟨a,ha⟩:=h.LG b hb aj
   exact⟨a,k.le _ _ ha⟩
  ·exact k.LG b (by omega) iE
 Oo:=k.Oo.trans h.Oo
 CO:=k.CO.trans h.CO
 Cs:=k.Cs.trans h.Cs
 Ct:=k.Ct.trans h.Ct
def wE(ρ:Ren)(w:Ψ)(e:Í):Prop:=
 (∃(b a:Nat),(e.loc=.obj b\/∃c:ϖ,e.loc=.cell c/\c.block=b)/\e.sync=χ/\ρ a b/\(w.heap.size<=a\/∃o,w.heap[a]?=φ o/\(e.write=θ->¬rM o)))
 \/e.loc=.mark .noRoom\/∃f,e.loc=.mark (.extern f)
def wE.mono{ρ ax:Ren}(h:ρ.le ax)(x:wE ρ w e):wE ax w e:=by
 rcases x with⟨b,a,h1,h2,h3,h4⟩ |x
 ·exact .inl ⟨b,a,h1,h2,h _ _ h3,h4⟩
 ·exact .inr x
def wE.back{ρ ax kQ:Ren}(h:Trans ρ ax w w' aa aC)(x:wE kQ aa e):wE kQ w e:=by
 rcases x with⟨b,a,h1,h2,h3,h4⟩ |x
 ·refine .inl ⟨b,a,h1,h2,h3,?_⟩
  by_cases aj:w.heap.size<=a
  ·exact .inl aj
  ·right
   rcases h4 with h4| ⟨o,ho,hf⟩
   ·have:=h.ta;omega
   ·obtain⟨NL,ZG⟩:∃NL,w.heap[a]?=φ NL:=⟨w.heap[a]'(by omega),by simp⟩
    refine⟨NL,ZG,λhw r8=>?_⟩
    have:=h.qR a NL ZG r8;rw[ho] at this;obtain rfl:=Ϟ this;exact hf hw r8
 ·exact .inr x
def Sim(P' P:Ϙ)(C:bS)(ρ:Ren)(R:Ren->α->β->Prop)(s:Sem α)(s':Sem β):Prop:=
 ∀aI,ρ.le aI->∀(w w':Ψ) (es:Array Í),ot C aI w w'->∀a aa,s.run P' w=.ok a aa->
  ∃bK b aC iy,s'.runT P w' es=(.ok b aC,es++iy)/\R bK a b/\ot C bK aa aC/\Trans aI bK w w' aa aC/\∀e∈iy,wE bK w e
section
variable {P' P:Ϙ}{C:bS}{ρ:Ren}{α β γ δ:Type}{R:Ren->α->β->Prop}{S:Ren->γ->δ->Prop}
def Sim.mono{ax:Ren}(h:ρ.le ax){s:Sem α}{s':Sem β}(x:Sim P' P C ρ R s s'):Sim P' P C ax R s s':=λaI h1=>x aI (Ren.le_trans h h1)
def Sim.Xk{R':Ren->α->β->Prop}{s:Sem α}{s':Sem β}(x:Sim P' P C ρ R s s')(h:∀ax a b,ρ.le ax->R ax a b->R' ax a b):Sim P' P C ρ R' s s':=by
 intro aI h1 w w' es hw a aa hr;obtain⟨bK,b,aC,iy,h2,h3,h4,h5,h6⟩:=x aI h1 w w' es hw a aa hr;exact⟨bK,b,aC,iy,h2,h _ _ _ (Ren.le_trans h1 h5.le) h3,h4,h5,h6⟩
def Sim.pure{a:α}{b:β}(h:∀ax,ρ.le ax->R ax a b):Sim P' P C ρ R (.pure a) (.pure b):=by
 intro aI h1 w w' es hw a' aa hr;simp only[Ϣ,č] at hr;obtain⟨rfl,rfl⟩:=hr;exact⟨aI,b,w',#[],by simp[Ϧ],h _ h1,hw,Trans.refl ..,by simp⟩
def Sim.halt{h:Halt}{s':Sem β}:Sim P' P C ρ R (.halt h) s':=by
 intro aI h1 w w' es hw a aa hr;simp[Ϣ] at hr
def run_bind{s:Sem α}{f:α->Sem γ}:(s.bind f).run p w=match s.run p w with| .ok a w=>(f a).run p w| .halt h w=>.halt h w:=by
 induction s generalizing w with
 |pure a=>rfl
 |load m a k ih=>
  simp only[ϫ,Ϣ]
  (repeat' split)<;>simp_all
 |store m a v k ih=>
  cases v<;>simp only[ϫ,Ϣ]<;>(repeat' split)<;>simp_all
 |new o k ih=>simp only[ϫ,Ϣ,ih]
 |shape r k ih=>simp only[ϫ,Ϣ,ih]
 |freeze a n k ih=>simp only[ϫ,Ϣ,ih]
 |frozen a k ih=>simp only[ϫ,Ϣ,ih]
 |getObj r k ih=>
  simp only[ϫ,Ϣ]
  (repeat' split)<;>simp_all
 |setObj r o k ih=>
  simp only[ϫ,Ϣ]
  (repeat' split)<;>simp_all
 |choose q k ih=>
  simp only[ϫ,Ϣ]
  (repeat' split)<;>simp_all
 |sys c k ih=>simp only[ϫ,Ϣ,ih]
 |program k ih=>simp only[ϫ,Ϣ,ih]
 |mark m k ih=>simp only[ϫ,Ϣ,ih]
 |halt h=>rfl
def vY{s:Sem α}{f:α->Sem γ}:
 (s.bind f).runT p w es=match s.runT p w es with| (.ok a w,es)=>(f a).runT p w es| (.halt h w,es)=>(.halt h w,es):=by
 induction s generalizing w es with
 |pure a=>rfl
 |load m a k ih=>
  simp only[ϫ,Ϧ]
  (repeat' split)<;>simp_all
 |store m a v k ih=>
  cases v<;>simp only[ϫ,Ϧ]<;>(repeat' split)<;>simp_all
 |new o k ih=>simp only[ϫ,Ϧ,ih]
 |shape r k ih=>simp only[ϫ,Ϧ,ih]
 |freeze a n k ih=>simp only[ϫ,Ϧ,ih]
 |frozen a k ih=>simp only[ϫ,Ϧ,ih]
 |getObj r k ih=>
  simp only[ϫ,Ϧ]
  (repeat' split)<;>simp_all
 |setObj r o k ih=>
  simp only[ϫ,Ϧ]
  (repeat' split)<;>simp_all
 |choose q k ih=>
  simp only[ϫ,Ϧ]
  (repeat' split)<;>simp_all
 |sys c k ih=>simp only[ϫ,Ϧ,ih]
 |program k ih=>simp only[ϫ,Ϧ,ih]
 |mark m k ih=>simp only[ϫ,Ϧ,ih]
 |halt h=>rfl
def Sim.bind{s:Sem α}{s':Sem β}{f:α->Sem γ}{g:β->Sem δ}(h:Sim P' P C ρ R s s')(hf:∀ax,ρ.le ax->∀a b,R ax a b->Sim P' P C ax S (f a) (g b)):
 Sim P' P C ρ S (s.bind f) (s'.bind g):=by
 intro aI h1 w w' es hw c ao hr;rw[run_bind] at hr;cases e:s.run P' w with
 |halt h w=>rw[e] at hr;cases hr
 |ok a aa=>
  rw[e] at hr;obtain⟨bK,b,aC,iy,h2,h3,h4,h5,h6⟩:=h aI h1 w w' es hw a aa e;obtain⟨Ig,d,ij,TP,k2,k3,k4,k5,k6⟩:=hf bK (Ren.le_trans h1 h5.le) a b h3 bK bK.le_refl aa aC (es++iy) h4 c ao hr;refine⟨Ig,d,ij,iy++TP,?_,k3,k4,h5.trans k5,λx hx=>?_⟩
  ·rw[vY,h2]
   simp only[k2,Aac]
  ·rcases Aad.1 hx with hx|hx
   ·exact(h6 x hx).mono k5.le
   ·exact(k6 x hx).back h5
end
end Go.Sim
namespace Go.Sim
open Go
section
variable {P' P:Ϙ}{C:bS}{ρ:Ren}
def Kw:υ->Bool
 | .agg _| .tuple _=>χ
 |_=>θ
def ot.RO(h:ot C ρ w w'){a b:Nat}(hab:ρ a b):∃o,w.heap[a]?=φ o/\∃o',w'.heap[b]?=φ o'/\oS C ρ o o':=by
 have:=h.fx a b hab;have e:w.heap[a]?=φ w.heap[a]:=by simp[this]
 exact⟨_,e,h.obj a b _ hab e⟩
def WY(h: w.cell? a=φ v):∃c e fr,w.heap[a.block]?=φ (.cells c e fr)/\a.spot=ν/\c[a.off]?=φ v:=by
 unfold World.cell? at h;split at h
 ·rename_i c e fr hh
  split at h
  ·cases h
  ·rename_i hs
   exact⟨c,e,_,hh,by cases uW:a.spot<;>simp_all,h⟩
 ·cases h
def rV{e:ό}{fr:Nat×Nat}(h:w.heap[a.block]?=φ (.cells c e fr))(hs:a.spot=ν)(hc:c[a.off]?=φ v): w.cell? a=φ v:=by
 unfold World.cell?;simp[h,hs,hc]
def ot.cell{w w':Ψ}(h:ot C ρ w w'){a b:ϖ}(hab:fQ ρ a b){v:υ}(hv: w.cell? a=φ v):
 ∃c c' e fr ba v',w.heap[a.block]?=φ (.cells c e fr)/\w'.heap[b.block]?=φ (.cells c' e ba)/\aV ρ c c'/\(ba=fr\/Full c fr)/\c[a.off]?=φ v/\c'[b.off]?=φ v'/\ah ρ v v'/\ w'.cell? b=φ v':=by
 obtain⟨c,e,fr,hh,hs,hc⟩:=WY hv;obtain⟨aju,Yt,ajv⟩:=hab;obtain⟨o',uU,hr⟩:=h.obj _ _ _ aju hh
 ·cases hr with
  | @cells _ c' _ _ ba dh hf=>
    rcases dh.get? a.off with⟨x,_⟩ | ⟨u,u',x,y,z⟩
    ·rw[hc] at x;cases x
    ·rw[hc] at x
     obtain rfl:=Ϟ x;exact⟨c,c',e,fr,ba,u',hh,uU,dh,hf,hc,by rw[<-Yt];exact y,z,rV uU (ajv▸hs) (by rw[<-Yt];exact y)⟩
def Sim.load{a b:ϖ}(h:fQ ρ a b):Sim P' P C ρ ah (Go.load a) (Go.load b):=by
 intro aI h1 w w' es hw v aa hr;have h:=h.mono h1;unfold Go.load at hr |-
 simp only[Ϣ] at hr;split at hr
 ·rename_i v' hv
  simp only[č] at hr;obtain⟨rfl,rfl⟩:=hr;obtain⟨c,c',e,fr,ba,v2,q1,q2,q3,q4,q5,q6,q7,q8⟩:=hw.cell h hv;refine⟨aI,v2,w',#[⟨.cell b,χ,χ⟩],?_,q7,hw,Trans.refl ..,λx hx=>?_⟩
  ·simp only[Ϧ,q8,ŋ];rfl
  ·simp at hx
   subst hx;exact .inl ⟨b.block,a.block,.inr ⟨b,rfl,rfl⟩,rfl,h.1,.inr ⟨_,q1,λx=>by cases x⟩⟩
 ·rename_i hn
  unfold World.farLoad at hr;obtain⟨o,ho,BC⟩:=hw.RO h.1;rw[ho] at hr;cases o<;>simp_all [Ad0]<;>(obtain⟨o',_,x⟩:=BC;cases x)
def Ds{e:ό}{fr:Nat×Nat}(h:w.heap[a.block]?=φ (.cells c e fr)): w.frozen? a=(decide (fr.1<=a.off) && decide (a.off<fr.2)):=by
 unfold World.frozen?;rw[h]
def GQ{e:ό}{fr:Nat×Nat}(h:w.heap[a.block]?=φ (.cells c e fr))(hs:a.spot=ν)(i:Nat):
 (w.setCell a v).heap[i]?=if i=a.block then φ (.cells (c.setIfInBounds a.off v) e fr) else w.heap[i]?:=by
 unfold î;simp only[Array.getElem?_modify,hs]
 by_cases hi:i=a.block
 ·subst hi;simp[h]
 ·rw[if_neg (λe=>hi e.symm),if_neg hi]
def Sim.store{a b:ϖ}{v v':υ}(h:fQ ρ a b)(hv:ah ρ v v'):Sim P' P C ρ (λ_ _ _=>True) (Go.store a v) (Go.store b v'):=by
 intro aI h1 w w' es hw u aa hr;have h:=h.mono h1;have hv:=hv.mono h1;have Gi:∀(p:Ϙ) (w:Ψ),Kw v=θ->(Go.store a v).run p w=match w.cell? a with
  |some _=>if w.frozen? a then .halt (.unsupported (.unsafePointer "a write to bytes that a string shares")) w else .ok () (w.setCell a v)
  |none=>match w.farStore p a v χ with| .ok (w,_)=>.ok () w| .error h=>.halt h w:=by
  intro p w ho;cases v<;>first|rfl|cases ho
 have akR:∀(p:Ϙ) (w:Ψ) (es:Array Í),Kw v'=θ-> w.frozen? b=χ->(w.cell? b).isSome->(Go.store b v').runT p w es=(.ok () (w.setCell b v'),es.push ⟨.cell b,θ,χ⟩):=by
  intro p w es ho hf hc;obtain⟨x,hx⟩:=Option.isSome_iff_exists.1 hc;cases v'<;>first| (unfold Go.store;simp only[Ϧ,hx,hf,Ì,if_false];rfl) |cases ho
 have B6:Kw v=θ:=by
  cases v<;>first|rfl| (unfold Go.store at hr;simp[Ϣ] at hr)
 have akT:Kw v'=θ:=by cases hv<;>first|rfl|cases B6
 rw[Gi _ _ B6] at hr;split at hr
 ·rename_i x hx
  split at hr
  ·cases hr
  ·rename_i YO
   simp only[č] at hr;obtain⟨_,rfl⟩:=hr;obtain⟨c,c',e,fr,ba,v2,q1,q2,q3,q4,q5,q6,q7,q8⟩:=hw.cell h hx;obtain⟨_,_,_,hh,uW,_⟩:=WY hx;have aj:=(Ϝ.1 q5).1
   have RV: w.frozen? a=χ:=by simpa using YO
   rw[Ds q1] at RV;have B1:¬Full c fr:=λ⟨x,y⟩=>by
    have:decide (a.off<fr.2)=θ:=by simp;omega
    simp[x,this] at RV
   have bY:ba=fr:=q4.resolve_right B1;subst bY;have ZU:b.spot=ν:=h.2.2▸uW;have hfb: w'.frozen? b=χ:=by rw[Ds q2,<-h.2.1];exact RV
   refine⟨aI,(),w'.setCell b v',#[⟨.cell b,θ,χ⟩],?_,trivial,?_,?_,λy hy=>?_⟩
   ·rw[akR _ _ _ akT hfb (by rw[q8];rfl)];simp
   ·refine⟨λi j x=>by simpa [î] using hw.fx i j x,λi j x=>by simpa [î] using hw.du i j x,hw.fn,hw.inj,λi j o BO ho=>?_,hw.tape⟩
    rw[GQ q1 uW] at ho;rw[GQ q2 ZU];by_cases hi:i=a.block
    ·subst hi
     rw[if_pos rfl] at ho;obtain rfl:=Ϟ ho;have:j=b.block:=hw.fn _ _ _ BO h.1;subst this;exact⟨_,if_pos rfl,.cells e (by rw[h.2.1];exact q3.set _ hv) (.inl rfl)⟩
    ·rw[if_neg hi] at ho
     have:j≠b.block:=λe=>hi (hw.inj _ _ _ BO (e▸h.1))
     rw[if_neg this];exact hw.obj i j o BO ho
   ·refine⟨aI.le_refl,λ_ _ x=>.inl x,by simp[î],by simp[î],λi o ho hf=>?_,λj hj hk=>?_,λj hj xd=>by simp[î] at xd;omega,rfl,rfl,rfl,rfl⟩
    ·rw[GQ q1 uW]
     by_cases hi:i=a.block
     ·subst hi
      rw[q1] at ho;obtain rfl:=Ϟ ho;exact absurd hf B1
     ·rw[if_neg hi];exact ho
    ·rw[GQ q2 ZU]
     by_cases hi:j=b.block
     ·subst hi
      obtain⟨o,ho,hf⟩:=hk _ h.1;rw[q1] at ho;obtain rfl:=Ϟ ho;exact absurd hf B1
     ·rw[if_neg hi]
   ·simp at hy
    subst hy;exact .inl ⟨b.block,a.block,.inr ⟨b,rfl,rfl⟩,rfl,h.1,.inr ⟨_,q1,λ_=>B1⟩⟩
 ·rename_i hn
  unfold Ad2 at hr;obtain⟨o,ho,BC⟩:=hw.RO h.1;rw[ho] at hr;cases o<;>simp_all [Ad0]<;>(obtain⟨o',_,x⟩:=BC;cases x)
def Ren.add(ρ:Ren)(a b:Nat):Ren:=λx y=>ρ x y\/(x=a/\y=b)
def Ren.Tn(ρ:Ren)(a b:Nat):ρ.le (ρ.add a b):=λ_ _ h=>.inl h
def Sim.newObj{o o':Obj}(h:oS C ρ o o'):Sim P' P C ρ (λax a b=>ax a b) (Go.newObj o) (Go.newObj o'):=by
 intro aI h1 w w' es hw u aa hr;have h:=h.mono h1;unfold Go.newObj at hr |-
 simp only[Ϣ,č] at hr;obtain⟨rfl,rfl⟩:=hr;refine⟨aI.add w.heap.size w'.heap.size,w'.heap.size,{w' with heap:=w'.heap.push o'},#[],by simp only[Ϧ,á],.inr ⟨rfl,rfl⟩,?_,?_,by simp⟩
 ·refine⟨λa b x=>?_,λa b x=>?_,λa b b' x y=>?_,λa a' b x y=>?_,λa b q x hq=>?_,hw.tape⟩
  ·rcases x with x| ⟨x,_⟩
   ·have:=hw.fx _ _ x;simp;omega
   ·simp;omega
  ·rcases x with x| ⟨_,x⟩
   ·have:=hw.du _ _ x;simp;omega
   ·simp;omega
  ·rcases x with x| ⟨x,x'⟩<;>rcases y with y| ⟨y,y'⟩
   ·exact hw.fn _ _ _ x y
   ·have:=hw.fx _ _ x;omega
   ·have:=hw.fx _ _ y;omega
   ·omega
  ·rcases x with x| ⟨x,x'⟩<;>rcases y with y| ⟨y,y'⟩
   ·exact hw.inj _ _ _ x y
   ·have:=hw.du _ _ x;omega
   ·have:=hw.du _ _ y;omega
   ·omega
  ·rcases x with x| ⟨rfl,rfl⟩
   ·have aj:=hw.fx _ _ x
    have D2:=hw.du _ _ x;simp only[ŝ] at hq |-
    rw[if_neg (by omega)] at hq
    rw[if_neg (by omega)]
    obtain⟨q',e,r⟩:=hw.obj _ _ _ x hq;exact⟨q',e,r.mono (aI.Tn _ _)⟩
   ·simp only[ŝ] at hq |-
    simp only[if_true] at hq;obtain rfl:=Ϟ hq;exact⟨o',by simp,h.mono (aI.Tn _ _)⟩
 ·refine⟨aI.Tn _ _,λa b x=>?_,by simp,by simp,λa q hq hf=>?_,λb hb _=>?_,λb hb iE=>?_,rfl,rfl,rfl,rfl⟩
  ·rcases x with x| ⟨rfl,rfl⟩
   ·exact .inl x
   ·exact .inr ⟨ϊ _,ϊ _⟩
  ·have:=(Ϝ.1 hq).1
   simp only[ŝ]
   rw[if_neg (by omega)]
   exact hq
  ·simp only[ŝ]
   rw[if_neg (by omega)]
  ·simp at iE
   exact⟨w.heap.size,.inr ⟨rfl,by omega⟩⟩
def Sim.getObj{a b:Nat}(h:ρ a b):Sim P' P C ρ (oS C) (Go.getObj a) (Go.getObj b):=by
 intro aI h1 w w' es hw u aa hr;have h:=h1 _ _ h;unfold Go.getObj at hr |-
 simp only[Ϣ] at hr;split at hr
 ·cases hr
 ·rename_i o br ho
  simp only[č] at hr;obtain⟨rfl,rfl⟩:=hr;obtain⟨o',e,r⟩:=hw.obj _ _ _ h ho
  ·refine⟨aI,o',w',#[⟨.obj b,χ,χ⟩],?_,r,hw,Trans.refl ..,λx hx=>?_⟩
   ·cases r<;>first|exact(br _ _ _ rfl).elim| (simp only[Ϧ,e,ŋ];rfl)
   ·simp at hx
    subst hx;exact .inl ⟨b,a,.inl rfl,rfl,h,.inr ⟨o,ho,λx=>by cases x⟩⟩
 ·cases hr
def Sim.setObj{a b:Nat}{o o':Obj}(h:ρ a b)(MU:oS C ρ o o'):Sim P' P C ρ (λ_ _ _=>True) (Go.setObj a o) (Go.setObj b o'):=by
 intro aI h1 w w' es hw u aa hr;have h:=h1 _ _ h;have MU:=MU.mono h1;unfold Go.setObj at hr |-
 simp only[Ϣ] at hr;split at hr
 ·cases hr
 ·rename_i q JJ hq
  simp only[č] at hr;obtain⟨_,rfl⟩:=hr;have B1:¬rM q:=by
   intro hf;cases q<;>first|exact hf.elim|exact(JJ _ _ _ rfl).elim
  have aj:=hw.fx _ _ h;have D2:=hw.du _ _ h;obtain⟨q',e,r⟩:=hw.obj _ _ _ h hq;refine⟨aI,(),{w' with heap:=w'.heap.setIfInBounds b o'},#[⟨.obj b,θ,χ⟩],?_,trivial,?_,?_,λx hx=>?_⟩
  ·cases r<;>first|exact(JJ _ _ _ rfl).elim| (cases MU<;>(simp only[Ϧ,e,ŋ];rfl))
  ·refine⟨λi j x=>by simpa using hw.fx i j x,λi j x=>by simpa using hw.du i j x,hw.fn,hw.inj,λi j x BO hx=>?_,hw.tape⟩
   simp only[Ó] at hx |-
   by_cases hi:a=i
   ·subst hi
    rw[if_pos rfl,if_pos aj] at hx;obtain rfl:=Ϟ hx;obtain rfl:b=j:=hw.fn _ _ _ h BO;exact⟨o',by simp[D2],MU⟩
   ·rw[if_neg hi] at hx
    have:b≠j:=λe=>hi (hw.inj _ _ _ h (e▸BO))
    rw[if_neg this];exact hw.obj i j x BO hx
  ·refine⟨aI.le_refl,λ_ _ x=>.inl x,by simp,by simp,λi x hx hf=>?_,λj hj hk=>?_,λj hj xd=>by simp at xd;omega,rfl,rfl,rfl,rfl⟩
   ·simp only[Ó]
    by_cases hi:a=i
    ·subst hi
     rw[hq] at hx;obtain rfl:=Ϟ hx;exact absurd hf B1
    ·rw[if_neg hi];exact hx
   ·simp only[Ó]
    by_cases hi:b=j
    ·subst hi
     obtain⟨x,hx,hf⟩:=hk _ h;rw[hq] at hx;obtain rfl:=Ϟ hx;exact absurd hf B1
    ·rw[if_neg hi]
  ·simp at hx
   subst hx;exact .inl ⟨b,a,.inl rfl,rfl,h,.inr ⟨q,hq,λ_=>B1⟩⟩
 ·cases hr
def Sim.choose(q:Question):Sim P' P C ρ (λ_ a b=>a=b) (Go.choose q) (Go.choose q):=by
 intro aI h1 w w' es hw u aa hr;unfold Go.choose at hr |-
 simp only[Ϣ] at hr;split at hr
 ·rename_i hf
  simp only[č] at hr;obtain⟨rfl,rfl⟩:=hr;exact⟨aI,0,w',#[],by simp only[Ϧ,hf,if_true,á],rfl,hw,Trans.refl ..,by simp⟩
 ·rename_i hf
  simp only[č] at hr;obtain⟨rfl,rfl⟩:=hr;have ht:=hw.tape 0 q;simp only[Nat.add_zero] at ht;refine⟨aI,q.cut (w'.tape w'.drawn q),{w' with drawn:=w'.drawn+1},#[],by simp only[Ϧ,hf,Ì,if_false,á],by rw[ht],⟨hw.fx,hw.du,hw.fn,hw.inj,hw.obj,λj r=>?_⟩,⟨aI.le_refl,λ_ _ x=>.inl x,ϊ _,ϊ _,λ_ _ x _=>x,λ_ _ _=>rfl,λb hb iE=>by simp at iE;omega,rfl,rfl,rfl,rfl⟩,by simp⟩
  have:=hw.tape (1+j) r;simpa [Nat.add_assoc] using this
def Sim.program:Sim P' P C ρ (λ_ a b=>a=P'/\b=P) Go.program Go.program:=by
 intro aI h1 w w' es hw u aa hr;unfold Go.program at hr |-
 simp only[Ϣ,č] at hr;obtain⟨rfl,rfl⟩:=hr;exact⟨aI,P,w',#[],by simp only[Ϧ,á],⟨rfl,rfl⟩,hw,Trans.refl ..,by simp⟩
def Sim.shape{a b:Nat}(h:ρ a b):Sim P' P C ρ (λ_ a b=>a=b) (Go.shape a) (Go.shape b):=by
 intro aI h1 w w' es hw u aa hr;have h:=h1 _ _ h;unfold Go.shape at hr |-
 simp only[Ϣ,č] at hr;obtain⟨rfl,rfl⟩:=hr;refine⟨aI,w'.shape? b,w',#[],by simp only[Ϧ,á],?_,hw,Trans.refl ..,by simp⟩
 obtain⟨o,ho,o',uU,r⟩:=hw.RO h;unfold Ad3;rw[ho,uU];cases r with
 |cells e hc hf=>simp[hc.1]
 |_=>rfl
def Sim.noRoom:Sim P' P C ρ (λ_ _ _=>True) (Go.mark .noRoom) (Go.mark .noRoom):=by
 intro aI h1 w w' es hw u aa hr;unfold Go.mark at hr |-
 simp only[Ϣ,č] at hr;obtain⟨_,rfl⟩:=hr;exact⟨aI,(),w',#[⟨.mark .noRoom,χ,θ⟩],by simp only[Ϧ,ŋ],trivial,hw,Trans.refl ..,λx hx=>by simp at hx;subst hx;exact .inr (.inl rfl)⟩
end
end Go.Sim
namespace Go.Sim
open Go
def Flat(v:υ):Prop:=ah (λ_ _=>False) v v
def Flat.rel(h:Flat v)(ρ:Ren):ah ρ v v:=ah.mono (λ_ _ x=>x.elim) h
def tw(P:Ϙ)(F:Array Á):Ϙ:={P with funcs:=F,globals:=#[]}
def acF(P:Ϙ)(F:Array Á):∀(f:Nat) (t:ό),ů (tw P F).toTables f t=ů P.toTables f t
 |0,t=>rfl
 |f+1,t=>by
  have e:ů (tw P F).toTables f=ů P.toTables f:=funext λt=>acF P F f t
  show(if t<P.types.size then P.types[t]? else(Made.decode (t - P.types.size)).bind (Made.reckon (ů (tw P F).toTables f)))=_
  rw[e];rfl
def rI(P:Ϙ)(F:Array Á)(t:ό):(tw P F).info? t= P.info? t:=by
 show(if t<P.types.size then P.types[t]? else ů (tw P F).toTables Made.depth t)=_
 rw[acF];rfl
def pT(P:Ϙ)(F:Array Á)(t:ό):(tw P F).underlying t=P.underlying t:=by
 unfold Program.underlying;rw[rI];cases h: P.info? t with
 |none=>rfl
 |some i=>
  obtain⟨d,_⟩:=i;cases d;case named n u=>exact congrArg (Option.map _) (rI P F u)
  all_goals rfl
structure uE(P:Ϙ):Prop where
 zero:∀t i v,P.info? t=φ i->i.zero=φ v->Flat v
section
variable {P:Ϙ}{F:Array Á}{C:bS}{ρ:Ren}{α β γ δ:Type}
variable {R:Ren->α->β->Prop}{S:Ren->γ->δ->Prop}
def Sim.bind'{s:Sem α}{s':Sem β}{f:α->Sem γ}{g:β->Sem δ}(h:Sim P' P C ρ R s s')(hf:∀ax,ρ.le ax->∀a b,R ax a b->Sim P' P C ax S (f a) (g b)):
 Sim P' P C ρ S (s>>=f) (s'>>=g):=Sim.bind h hf
def Sim.pure'{a:α}{b:β}(h:∀ax,ρ.le ax->R ax a b):Sim P' P C ρ R (ϧ a) (ϧ b):=Sim.pure h
def Sim.stuck{P':Ϙ}{why:String}{s':Sem β}:Sim P' P C ρ R (Go.stuck why:Sem α) s':=Sim.halt
def Sim.EU{why:String}{f:α->Sem γ}{s':Sem δ}:Sim P' P C ρ S ((Go.stuck why:Sem α)>>=f) s':=Sim.halt
def Sim.unsupported{P':Ϙ}{u:Unsupported}{s':Sem β}:Sim P' P C ρ R (Go.unsupported u:Sem α) s':=Sim.halt
def Sim.G1{u:Unsupported}{f:α->Sem γ}{s':Sem δ}:Sim P' P C ρ S ((Go.unsupported u:Sem α)>>=f) s':=Sim.halt
def bD(P':Ϙ)(s:Sem α):Prop:=∀w a aa,s.run P' w≠ .ok a aa
def Sim.never{s:Sem α}{s':Sem β}(h:bD P' s):Sim P' P C ρ R s s':=λ_ _ w _ _ _ a aa hr=>absurd hr (h w a aa)
def bD.bind{P':Ϙ}{s:Sem α}{f:α->Sem γ}(h:bD P' s):bD P' (s>>=f):=by
 intro w a aa hr;have hr:(s.bind f).run P' w=.ok a aa:=hr;rw[run_bind] at hr;cases e:s.run P' w with
 |ok b ao=>exact h _ _ _ e
 |halt h' ao=>rw[e] at hr;cases hr
def bD.qU{s:Sem α}{f:α->Sem γ}(h:∀a,bD P' (f a)):bD P' (s>>=f):=by
 intro w a aa hr;have hr:(s.bind f).run P' w=.ok a aa:=hr;rw[run_bind] at hr;cases e:s.run P' w with
 |ok b ao=>rw[e] at hr;exact h b _ _ _ hr
 |halt h' ao=>rw[e] at hr;cases hr
def bD.halt{P':Ϙ}{h:Halt}:bD P' (.halt h:Sem α):=λw a aa hr=>by simp[Ϣ] at hr
def tT(e:RuntimeError):bD P' (runtimePanic e:Sem α):=by
 unfold runtimePanic;refine bD.qU λp=>?_
 cases e<;>simp only<;>first|exact bD.halt|exact bD.qU λ_=>bD.qU λ_=>bD.halt|exact bD.qU λ_=>bD.halt
def As(k:ä)(x y:Int)(c:Abj):bD P' (Abk k x y c:Sem α):=by
 unfold Abk;simp only;split<;>exact bD.qU λ_=>tT _
def Sim.typeInfo(t:ό):Sim (tw P F) P C ρ (λ_ a b=>a=b/\ P.info? t=φ b) (typeInfo t) (typeInfo t):=by
 unfold Go.typeInfo;refine Sim.bind' Sim.program λax _ a b h=>?_
 obtain⟨rfl,rfl⟩:=h;rw[rI];cases h: b.info? t with
 |none=>exact Sim.stuck
 |some i=>exact Sim.pure' λ_ _=>⟨rfl,rfl⟩
def Sim.underlying(t:ό):Sim (tw P F) P C ρ (λ_ a b=>a=b/\P.underlying t=φ b) (underlying t) (underlying t):=by
 unfold Go.underlying;refine Sim.bind' Sim.program λax _ a b h=>?_
 obtain⟨rfl,rfl⟩:=h;rw[pT];cases h:b.underlying t with
 |none=>exact Sim.stuck
 |some i=>exact Sim.pure' λ_ _=>⟨rfl,rfl⟩
def Sim.zeroValue(T:uE P)(t:ό):Sim (tw P F) P C ρ ah (zeroValue t) (zeroValue t):=by
 unfold Go.zeroValue;refine Sim.bind' (Sim.typeInfo t) λax _ a b h=>?_
 obtain⟨rfl,hi⟩:=h;cases hz:a.zero with
 |none=>exact Sim.unsupported
 |some v=>exact Sim.pure' λ_ _=>(T.zero t a v hi hz).rel _
def Sim.sizeOf(t:ό):Sim (tw P F) P C ρ (λ_ a b=>a=b) (sizeOf t) (sizeOf t):=by
 unfold Go.sizeOf;refine Sim.bind' (Sim.typeInfo t) λax _ a b h=>?_
 obtain⟨rfl,_⟩:=h;exact Sim.pure' λ_ _=>rfl
def Sim.isAgg(t:ό):Sim (tw P F) P C ρ (λ_ a b=>a=b) (isAgg t) (isAgg t):=by
 unfold Go.isAgg;refine Sim.bind' (Sim.underlying t) λax _ a b h=>?_
 obtain⟨rfl,_⟩:=h;cases a<;>exact Sim.pure' λ_ _=>rfl
def Sim.loadCellsFrom{a b:ϖ}(h:fQ ρ a b)(n:Nat):∀(i:Nat) {acc LC:Array υ} {ax:Ren},ρ.le ax->aV ax acc LC->Sim (tw P F) P C ax aV (loadCellsFrom a i n acc) (loadCellsFrom b i n LC):=by
 induction n with
 |zero=>intro i acc LC ax hl Jh;exact Sim.pure' λkQ fN=>Jh.mono fN
 |succ n ih=>
  intro i acc LC ax hl Jh;unfold Go.loadCellsFrom;exact Sim.bind' (Sim.load ((h.mono hl).add i)) λkQ fN v v' hv=>ih (i+1) (Ren.le_trans hl fN) ((Jh.mono fN).push hv)
def Sim.loadCells{a b:ϖ}(h:fQ ρ a b)(n:Nat):Sim (tw P F) P C ρ aV (loadCells a n) (loadCells b n):=
 Sim.loadCellsFrom h n 0 ρ.le_refl .empty
def Sim.storeCells{a b:ϖ}{vs vs':List υ}(h:fQ ρ a b)(hv:nj (ah ρ) vs vs'):∀(i:Nat),Sim (tw P F) P C ρ (λ_ _ _=>True) (storeCells a vs i) (storeCells b vs' i):=by
 induction hv with
 |nil=>intro i;exact Sim.pure' λ_ _=>trivial
 |cons hv _ ih=>
  intro i;unfold Go.storeCells;exact Sim.bind' (Sim.store (h.add i) hv) λax h' _ _ _=>(ih (i+1)).mono h'
def Sim.loadVar(t:ό){a b:ϖ}(h:fQ ρ a b):Sim (tw P F) P C ρ ah (loadVar t a) (loadVar t b):=by
 unfold Go.loadVar;refine Sim.bind' (Sim.isAgg t) λax h' x y e=>?_
 subst e;have h:=h.mono h';cases x with
 |true=>
  simp only[if_true];refine Sim.bind' (Sim.sizeOf t) λkQ fN x y e=>?_
  subst e;exact Sim.bind' (Sim.loadCells (h.mono fN) x) λgZ _ c c' hc=>Sim.pure' λ_ h4=>ah.Ba (hc.mono h4)
 |false=>exact Sim.load h
def Sim.storeVar(t:ό){a b:ϖ}{v v':υ}(h:fQ ρ a b)(hv:ah ρ v v'):Sim (tw P F) P C ρ (λ_ _ _=>True) (storeVar t a v) (storeVar t b v'):=by
 unfold Go.storeVar;refine Sim.bind' (Sim.sizeOf t) λax h' x y e=>?_
 subst e;have hc:=(hv.mono h').cells;rw[<-hc.1];split
 ·exact Sim.stuck
 ·exact Sim.storeCells (h.mono h') hc.vb 0
def Sim.newRow(e:ό){c c':Array υ}(h:aV ρ c c'):Sim (tw P F) P C ρ fQ (newRow e c) (newRow e c'):=by
 unfold Go.newRow;exact Sim.bind' (Sim.newObj (.cells e h (.inl rfl))) λax _ a b hab=>Sim.pure' λ_ h2=>⟨h2 _ _ hab,rfl,rfl⟩
def Sim.newVar(t:ό){v v':υ}(h:ah ρ v v'):Sim (tw P F) P C ρ fQ (newVar t v) (newVar t v'):=Sim.newRow t h.cells
def Sim.part(t:ό){c c':Array υ}(h:aV ρ c c')(off:Nat):Sim (tw P F) P C ρ ah (part t c off) (part t c' off):=by
 unfold Go.part;refine Sim.bind' (Sim.isAgg t) λax h' x y e=>?_
 subst e;have h:=h.mono h';cases x with
 |true=>
  simp only[if_true];refine Sim.bind' (Sim.sizeOf t) λkQ fN x y e=>?_
  subst e;exact Sim.pure' λ_ h4=>ah.Ba ((h.mono (Ren.le_trans fN h4)).extract _ _)
 |false=>
  simp only[Ì,if_false];rcases h.get? off with⟨e1,_⟩ | ⟨u,v,e1,e2,huv⟩
  ·rw[e1];exact Sim.stuck
  ·rw[e1,e2];exact Sim.pure' λ_ h4=>huv.mono h4
def Sim.asIntOf{v v':υ}(h:ah ρ v v'):Sim (tw P F) P C ρ (λ_ a b=>a=b) (asIntOf v) (asIntOf v'):=by
 cases h<;>first|exact Sim.pure' λ_ _=>rfl|exact Sim.halt
def Sim.asInt{v v':υ}(h:ah ρ v v'):Sim (tw P F) P C ρ (λ_ a b=>a=b) (asInt v) (asInt v'):=
 Sim.bind' (Sim.asIntOf h) λ_ _ a b e=>by subst e;exact Sim.pure' λ_ _=>rfl
def Sim.asBool{v v':υ}(h:ah ρ v v'):Sim (tw P F) P C ρ (λ_ a b=>a=b) (asBool v) (asBool v'):=by
 cases h<;>first|exact Sim.pure' λ_ _=>rfl|exact Sim.halt
def Sim.asAgg{v v':υ}(h:ah ρ v v'):Sim (tw P F) P C ρ aV (asAgg v) (asAgg v'):=by
 cases h;case agg hx h1=>exact Sim.pure' λ_ h'=>aV.mono h' ⟨hx,h1⟩
 all_goals exact Sim.halt
def Sim.asAddr{v v':υ}(h:ah ρ v v'):Sim (tw P F) P C ρ fQ (asAddr v) (asAddr v'):=by
 cases h;case ptr hx=>exact Sim.pure' λ_ h'=>fQ.mono h' hx
 case ptrNone=>exact Sim.never (show bD (tw P F) (Go.asAddr (π ν)) from tT .nilDeref)
 all_goals exact Sim.halt
def Sim.sureAddr{v v':υ}(h:ah ρ v v'):Sim (tw P F) P C ρ fQ (Instr.sureAddr v) (Instr.sureAddr v'):=by
 cases h;case ptr hx=>exact Sim.pure' λ_ h'=>fQ.mono h' hx
 all_goals exact Sim.halt
end
end Go.Sim
namespace Go.Sim
open Go
section
variable {P:Ϙ}{F:Array Á}{C:bS}{ρ:Ren}{α β γ δ:Type}
variable {R:Ren->α->β->Prop}{S:Ren->γ->δ->Prop}
def OX(ρ:Ren):Prop:=(∀a b b',ρ a b->ρ a b'->b=b')/\(∀a a' b,ρ a b->ρ a' b->a=a')
def Sim.cF{s:Sem σ}{s':Sem σ}{f:σ->Sem γ}{g:σ->Sem δ}(h:Sim P' P C ρ (λ_ a b=>a=b) s s')(hf:∀ax,ρ.le ax->∀a,Sim P' P C ax S (f a) (g a)):
 Sim P' P C ρ S (s>>=f) (s'>>=g):=Sim.bind' h λax h' a b e=>by subst e;exact hf ax h' a
def Sim.map{s:Sem α}{s':Sem β}{f:α->γ}{g:β->δ}(h:Sim P' P C ρ R s s')(hf:∀ax,ρ.le ax->∀a b,R ax a b->∀kQ,ax.le kQ->S kQ (f a) (g b)):
 Sim P' P C ρ S (f<$>s) (g<$>s'):=by
 rw[map_eq_pure_bind,map_eq_pure_bind];exact Sim.bind' h λax h' a b r=>Sim.pure' λkQ fN=>hf ax h' a b r kQ fN
def Sim.lr{t:ό}{f:ō->Sem γ}{g:ō->Sem δ}(hf:∀ax,ρ.le ax->∀a,P.underlying t=φ a->Sim (tw P F) P C ax S (f a) (g a)):
 Sim (tw P F) P C ρ S (Go.underlying t>>=f) (Go.underlying t>>=g):=Sim.bind' (Sim.underlying t) λax h' a b e=>by obtain⟨rfl,e⟩:=e;exact hf ax h' a e
def Sim.GZ{t:ό}{f:TypeInfo->Sem γ}{g:TypeInfo->Sem δ}(hf:∀ax,ρ.le ax->∀a,P.info? t=φ a->Sim (tw P F) P C ax S (f a) (g a)):
 Sim (tw P F) P C ρ S (Go.typeInfo t>>=f) (Go.typeInfo t>>=g):=Sim.bind' (Sim.typeInfo t) λax h' a b e=>by obtain⟨rfl,e⟩:=e;exact hf ax h' a e
def Sim.yf(l:List ι){f g:ι->σ->Sem (ForInStep σ)}(h:∀x∈l,∀s,Sim P' P C ρ (λ_ a b=>a=b) (f x s) (g x s)):
 ∀s,Sim P' P C ρ (λ_ a b=>a=b) (forIn l s f) (forIn l s g):=by
 induction l with
 |nil=>intro s;exact Sim.pure' λ_ _=>rfl
 |cons x l ih=>
  intro s;rw[List.forIn_cons,List.forIn_cons];refine Sim.cF (h x (by simp) s) λax h' r=>?_
  cases r with
  |done s=>exact Sim.pure' λ_ _=>rfl
  |yield s=>exact(ih (λy hy s=>h y (by simp[hy]) s) s).mono h'
def Sim.Dr(l:Array ι){f g:ι->σ->Sem (ForInStep σ)}(h:∀x∈l,∀s,Sim P' P C ρ (λ_ a b=>a=b) (f x s) (g x s))(s:σ):
 Sim P' P C ρ (λ_ a b=>a=b) (forIn l s f) (forIn l s g):=by
 rw[<-Aaj,<-Aaj];exact Sim.yf _ (λx hx s=>h x (by simpa using hx) s) s
def Sim.EC(l:List ι){f g:ι->Sem σ}(h:∀x∈l,Sim P' P C ρ (λ_ a b=>a=b) (f x) (g x)):
 Sim P' P C ρ (λ_ a b=>a=b) (l.mapM f) (l.mapM g):=by
 induction l with
 |nil=>simp only[List.mapM_nil];exact Sim.pure' λ_ _=>rfl
 |cons x l ih=>
  simp only[List.mapM_cons];refine Sim.cF (h x (by simp)) λax h' a=>?_
  refine Sim.cF ((ih λy hy=>h y (by simp[hy])).mono h') λkQ fN b=>Sim.pure' λ_ _=>rfl
def Sim.Ck(l:Array ι){f g:ι->Sem σ}(h:∀x∈l,Sim P' P C ρ (λ_ a b=>a=b) (f x) (g x)):
 Sim P' P C ρ (λ_ a b=>a=b) (l.mapM f) (l.mapM g):=by
 rw[ĺ,ĺ];exact Sim.map (Sim.EC _ λx hx=>h x (by simpa using hx)) λ_ _ a b e _ _=>by rw[e]
def Sim.alloc(T:uE P)(t:ό):Sim (tw P F) P C ρ ah (Instr.alloc t θ (μ #[])) (Instr.alloc t θ (μ #[])):=by
 unfold Instr.alloc;refine Sim.bind' (Sim.zeroValue T t) λax h' v v' hv=>?_
 exact Sim.bind' (Sim.newVar t hv) λkQ fN a b hab=>Sim.pure' λ_ h=>.ptr (hab.mono h)
def Sim.box(t:ό){v v':υ}(h:ah ρ v v'):Sim (tw P F) P C ρ ah (Instr.box t v) (Instr.box t v'):=by
 unfold Instr.box;exact Sim.bind' (Sim.newVar t h) λkQ fN a b hab=>Sim.pure' λ_ h=>.ptr (hab.mono h)
def Sim.loadAt(t:ό){v v':υ}(h:ah ρ v v'):Sim (tw P F) P C ρ ah (Instr.loadAt t v) (Instr.loadAt t v'):=
 Sim.bind' (Sim.sureAddr h) λ_ _ _ _ hab=>Sim.loadVar t hab
def Sim.storeAt(t:ό){v v' x x':υ}(h:ah ρ v v')(hx:ah ρ x x'):Sim (tw P F) P C ρ (λ_ _ _=>True) (Instr.storeAt t v x) (Instr.storeAt t v' x'):=
 Sim.bind' (Sim.sureAddr h) λ_ h' _ _ hab=>Sim.storeVar t hab (hx.mono h')
def Sim.fieldAt(s:ό){v v':υ}(h:ah ρ v v')(i:Nat)(cE:∀fs f,P.underlying s=φ (.struct fs)->fs[i]?=φ f->∃info,P.info? f.type=φ info/\info.size≠0):
 Sim (tw P F) P C ρ ah (Instr.fieldAt s v i) (Instr.fieldAt s v' i):=by
 unfold Instr.fieldAt;refine Sim.lr λax h' d hd=>?_
 cases d;case struct fs=>
  simp only;cases hf:fs[i]? with
  |none=>exact Sim.stuck
  |some f=>
   simp only;refine Sim.bind' (Sim.sureAddr (h.mono h')) λkQ fN a b hab=>?_
   refine Sim.bind' (R:=fQ) ?_ λgZ h3 a b hab=>Sim.pure' λ_ h4=>.ptr (hab.mono h4)
   unfold Go.fieldPlace;unfold Go.sizeOf;obtain⟨info,hi,hz⟩:=cE fs f hd hf;simp only[bind_assoc,pure_bind];refine Sim.GZ λgZ h3 i bG=>?_
   rw[hi] at bG;obtain rfl:=Ϟ bG;simp only[if_neg hz];exact Sim.pure' λ_ h4=>(hab.mono (Ren.le_trans h3 h4)).add _
 all_goals exact Sim.stuck
inductive k8{α β:Type}(R:α->β->Prop):Option α->Option β->Prop
 |none:k8 R ν ν
 |some {a:α} {b:β} (h:R a b):k8 R (φ a) (φ b)
def k8.mono{α β:Type}{R R':α->β->Prop}(h:∀a b,R a b->R' a b){x:Option α}{y:Option β}(k:k8 R x y):k8 R' x y:=by
 cases k with
 |none=>exact .none
 |some k=>exact .some (h _ _ k)
def yI(t:ό)(k:ä)(i:Int)(base:Option ϖ)(len:Nat)(elem:ό):Sem υ:=do
 let asw:=len<=1 && (match <-Go.underlying t with| .array .. =>θ|_=>χ)
 match base with
 |some a=>
  if 0<=i/\i<len then pure (π (φ (a.add (i.toNat * (<-Go.sizeOf elem)))))
  else if asw then Go.unsupported (.noEntry "op/indexAddr.an index out of range at an array of length 0 or 1 (ledger 616)")
  else Abk k i len .index
 |none=>Abk k i 0 .index
def Sim.yI(t:ό)(k:ä)(i:Int){x y:Option ϖ}(hxy:k8 (fQ ρ) x y)(len:Nat)(e:ό):
 Sim (tw P F) P C ρ ah (yI t k i x len e) (yI t k i y len e):=by
 unfold Go.Sim.yI;refine Sim.lr λrL h4 d' Jo=>?_
 cases hxy with
 |none=>exact Sim.never (As _ _ _ _)
 |some hxy=>
  simp only;split
  ·exact Sim.cF (Sim.sizeOf _) λAN h5 n=>Sim.pure' λ_ h6=>.ptr ((hxy.mono (Ren.le_trans h4 (Ren.le_trans h5 h6))).add _)
  ·split
   ·split
    ·exact Sim.unsupported
    ·exact Sim.never (As _ _ _ _)
   ·split
    ·exact Sim.unsupported
    ·exact Sim.never (As _ _ _ _)
def Sim.alI(t:ό)(k:ä)(i:Int)(x y:ϖ)(e:ό):Sim (tw P F) P C ρ ah (Go.Sim.yI t k i (φ x) 0 e) (Go.Sim.yI t k i (φ y) 0 e):=by
 unfold Go.Sim.yI;refine Sim.lr λrL h4 d' Jo=>?_
 have hn:¬ (0<=i/\i<((0:Nat):Int)):=by omega
 simp only[if_neg hn];split
 ·split
  ·exact Sim.unsupported
  ·exact Sim.never (As _ _ _ _)
 ·split
  ·exact Sim.unsupported
  ·exact Sim.never (As _ _ _ _)
def Sim.indexAt(t:ό){v v' x x':υ}(h:ah ρ v v')(hx:ah ρ x x'):Sim (tw P F) P C ρ ah (Instr.indexAt t v x) (Instr.indexAt t v' x'):=by
 unfold Instr.indexAt;refine Sim.cF (Sim.asIntOf hx) λax h' ki=>?_
 obtain⟨k,i⟩:=ki;simp only;refine Sim.lr λkQ fN d hd=>?_
 have h:=h.mono (Ren.le_trans h' fN);cases d;case array n e=>
  simp only;refine Sim.bind' (Sim.sureAddr h) λgZ h3 a b hab=>?_
  exact Sim.yI t k i (.some hab) n e
 case slice e=>
  cases h;case slice n c hab=>exact Sim.yI t k i (.some hab) n e
  case sliceNone n c=>exact Sim.yI t k i .none n e
  case sliceDead a b=>exact Sim.alI t k i a b e
  all_goals exact Sim.EU
 all_goals (cases h<;>exact Sim.EU)
def Sim.field(t:ό){v v':υ}(h:ah ρ v v')(i:Nat):Sim (tw P F) P C ρ ah (Instr.field t v i) (Instr.field t v' i):=by
 unfold Instr.field;refine Sim.lr λax h' d hd=>?_
 cases d;case struct fs=>
  simp only;cases hf:fs[i]? with
  |none=>exact Sim.stuck
  |some f=>exact Sim.bind' (Sim.asAgg (h.mono h')) λ_ _ _ _ hab=>Sim.part _ hab _
 all_goals exact Sim.stuck
def Sim.index(t:ό){v v' x x':υ}(h:ah ρ v v')(hx:ah ρ x x'):Sim (tw P F) P C ρ ah (Instr.index t v x) (Instr.index t v' x'):=by
 unfold Instr.index;refine Sim.cF (Sim.asIntOf hx) λax h' ki=>?_
 obtain⟨k,i⟩:=ki;simp only;refine Sim.lr λkQ fN d hd=>?_
 have h:=h.mono (Ren.le_trans h' fN);cases d;case array n e=>
  cases h;case agg hx h1=>
   simp only;split
   ·exact Sim.cF (Sim.sizeOf _) λAN h5 n=>Sim.part _ (aV.mono h5 ⟨hx,h1⟩) _
   ·exact Sim.never (As _ _ _ _)
  all_goals exact Sim.stuck
 case string=>
  cases h;case string s=>
   simp only;split
   ·exact Sim.pure' λ_ _=>.int _ _
   ·exact Sim.never (As _ _ _ _)
  all_goals exact Sim.stuck
 all_goals (cases h<;>exact Sim.stuck)
def Sim.sliceBound{v v':υ}(h:ah ρ v v')(y:Nat)(c:Abj):Sim (tw P F) P C ρ (λ_ a b=>a=b) (Ş v y c) (Ş v' y c):=by
 unfold Ş;refine Sim.cF (Sim.asIntOf h) λax h' ki=>?_
 obtain⟨k,i⟩:=ki;simp only;split
 ·exact Sim.pure' λ_ _=>rfl
 ·exact Sim.never (As _ _ _ _)
def Bf(l:Option υ)(mx:Bool)(y x:Nat):Sem (Nat×Nat×Nat):=
 match l with
 |some v=>Ş v y (if mx=θ then BoundsCode.slice3C else BoundsCode.sliceB)>>=λl=>ϧ (l,y,x)
 |none=>ϧ 0>>=λl=>ϧ (l,y,x)
def Sim.ard(hl:k8 (ah ρ) l l')(mx:Bool)(y x:Nat):Sim (tw P F) P C ρ (λ_ a b=>a=b) (Bf l mx y x) (Bf l' mx y x):=by
 cases hl with
 |none=>exact Sim.pure' λ_ _=>rfl
 |some hl=>exact Sim.cF (Sim.sliceBound hl _ _) λ_ _ _=>Sim.pure' λ_ _=>rfl
def Sim.sliceBounds(b:Bool)(n c:Nat){l l' h h' m m':Option υ}(hl:k8 (ah ρ) l l')(hh:k8 (ah ρ) h h')(hm:k8 (ah ρ) m m'):
 Sim (tw P F) P C ρ (λ_ a b=>a=b) (Ů b n c l h m) (Ů b n c l' h' m'):=by
 have tl:∀(ax:Ren),ρ.le ax->∀(mx:Bool) (x y:Nat),Sim (tw P F) P C ax (λ_ a b=>a=b) (Bf l mx y x) (Bf l' mx y x):=
  λax h' mx x y=>Sim.ard (hl.mono λ_ _ x=>ah.mono h' x) mx y x
 unfold Ů;cases hm with
 |none=>
  cases hh with
  |none=>exact tl ρ ρ.le_refl χ c n
  |some hh=>
   simp only[pure_bind];exact Sim.cF (Sim.sliceBound hh _ _) λax h' y=>tl ax h' χ c y
 |some hm=>
  refine Sim.cF (Sim.sliceBound hm _ _) λax h' x=>?_
  cases hh with
  |none=>exact Sim.EU
  |some hh=>exact Sim.cF (Sim.sliceBound (hh.mono h') _ _) λkQ fN y=>tl kQ (Ren.le_trans h' fN) θ x y
def Sim.Og(h:ah ρ v v')(c:Abj):Sim (tw P F) P C ρ (λ_ a b=>a=0/\b=0) (Ş v 0 c) (Ş v' 0 c):=by
 unfold Ş;refine Sim.cF (Sim.asIntOf h) λax h' ki=>?_
 obtain⟨k,i⟩:=ki;simp only;split
 ·have:i.toNat=0:=by omega
  exact Sim.pure' λ_ _=>⟨this,this⟩
 ·exact Sim.never (As _ _ _ _)
def Sim.are(hl:k8 (ah ρ) l l')(mx:Bool):Sim (tw P F) P C ρ (λ_ a b=>a=(0,0,0)/\b=(0,0,0)) (Bf l mx 0 0) (Bf l' mx 0 0):=by
 cases hl with
 |none=>exact Sim.pure' λ_ _=>⟨rfl,rfl⟩
 |some hl=>exact Sim.bind' (Sim.Og hl _) λ_ _ a b ⟨ha,hb⟩=>by subst ha hb;exact Sim.pure' λ_ _=>⟨rfl,rfl⟩
def Sim.arH(b:Bool){h h' m m':Option υ}(hl:k8 (ah ρ) l l')(hh:k8 (ah ρ) h h')(hm:k8 (ah ρ) m m'):
 Sim (tw P F) P C ρ (λ_ a b=>a=(0,0,0)/\b=(0,0,0)) (Ů b 0 0 l h m) (Ů b 0 0 l' h' m'):=by
 have tl:∀(ax:Ren),ρ.le ax->∀(mx:Bool),Sim (tw P F) P C ax (λ_ a b=>a=(0,0,0)/\b=(0,0,0)) (Bf l mx 0 0) (Bf l' mx 0 0):=
  λax h' mx=>Sim.are (hl.mono λ_ _ x=>ah.mono h' x) mx
 unfold Ů;cases hm with
 |none=>
  cases hh with
  |none=>exact tl ρ ρ.le_refl χ
  |some hh=>
   simp only[pure_bind];exact Sim.bind' (Sim.Og hh _) λax h' x y hxy=>by obtain⟨rfl,rfl⟩:=hxy;exact tl ax h' χ
 |some hm=>
  refine Sim.bind' (Sim.Og hm _) λax h' x y hxy=>?_
  obtain⟨rfl,rfl⟩:=hxy;cases hh with
  |none=>exact Sim.EU
  |some hh=>exact Sim.bind' (Sim.Og (hh.mono h') _) λkQ fN x y hxy=>by obtain⟨rfl,rfl⟩:=hxy;exact tl kQ (Ren.le_trans h' fN) θ
def Sim.slice(t:ό){v v':υ}{l l' h h' m m':Option υ}(hv:ah ρ v v')(hl:k8 (ah ρ) l l')(hh:k8 (ah ρ) h h')(hm:k8 (ah ρ) m m'):
 Sim (tw P F) P C ρ ah (Acs t v l h m) (Acs t v' l' h' m'):=by
 unfold Acs;refine Sim.lr λcz h1 d hd=>?_
 have hv:=hv.mono h1;have hl:=hl.mono λ_ _ x=>ah.mono h1 x
 have hh:=hh.mono λ_ _ x=>ah.mono h1 x
 have hm:=hm.mono λ_ _ x=>ah.mono h1 x
 cases d;case string=>
  cases hv;case string s=>
   cases hm with
   |some _=>exact Sim.EU
   |none=>
    refine Sim.cF (Sim.sliceBounds _ _ _ hl hh .none) λbP h2 x=>Sim.pure' λ_ _=>.string _
  all_goals exact Sim.stuck
 case slice e=>
  cases hv;case slice n c hab=>
   refine Sim.cF (Sim.sliceBounds _ _ _ hl hh hm) λbP h2 x=>?_
   obtain⟨x1,x2,x3⟩:=x;simp only;refine Sim.cF (Sim.sizeOf _) λgZ h3 n=>?_
   refine Sim.pure' λrL h4=>?_
   have hab:=hab.mono (Ren.le_trans h2 (Ren.le_trans h3 h4));split
   ·exact .slice _ _ hab
   ·exact .slice _ _ (hab.add _)
  case sliceNone n c=>
   refine Sim.cF (Sim.sliceBounds _ _ _ hl hh hm) λbP h2 x=>?_
   obtain⟨x1,x2,x3⟩:=x;simp only;refine Sim.cF (Sim.sizeOf _) λgZ h3 n=>?_
   refine Sim.pure' λrL h4=>?_
   split<;>exact .sliceNone _ _
  case sliceDead a b=>
   refine Sim.bind' (Sim.arH _ hl hh hm) λbP h2 x y hxy=>?_
   obtain⟨rfl,rfl⟩:=hxy;simp only;refine Sim.cF (Sim.sizeOf _) λgZ h3 n=>?_
   refine Sim.pure' λrL h4=>?_
   split<;>exact .sliceDead _ _
  all_goals exact Sim.stuck
 case pointer arr=>
  simp only;refine Sim.bind' (Sim.asAddr hv) λbP h2 a b hab=>?_
  refine Sim.lr λgZ h3 d' Jo=>?_
  cases d';case array n e=>
   simp only;refine Sim.cF (Sim.sliceBounds _ _ _ (hl.mono λ_ _ x=>ah.mono (Ren.le_trans h2 h3) x) (hh.mono λ_ _ x=>ah.mono (Ren.le_trans h2 h3) x) (hm.mono λ_ _ x=>ah.mono (Ren.le_trans h2 h3) x)) λrL h4 x=>?_
   obtain⟨x1,x2,x3⟩:=x;simp only;refine Sim.cF (Sim.sizeOf _) λAN h5 n=>?_
   refine Sim.pure' λVg h6=>?_
   have hab:=hab.mono (Ren.le_trans h3 (Ren.le_trans h4 (Ren.le_trans h5 h6)));split
   ·exact .slice _ _ hab
   ·exact .slice _ _ (hab.add _)
  all_goals exact Sim.stuck
 all_goals (cases hv<;>exact Sim.stuck)
def Sim.sliceAt(t:ό){v v':υ}{l l' h h' m m':Option υ}(hv:ah ρ v v')(hl:k8 (ah ρ) l l')(hh:k8 (ah ρ) h h')(hm:k8 (ah ρ) m m'):
 Sim (tw P F) P C ρ ah (Acu t v l h m) (Acu t v' l' h' m'):=by
 unfold Acu;refine Sim.lr λcz h1 d hd=>?_
 have hv:=hv.mono h1;have hl:=hl.mono λ_ _ x=>ah.mono h1 x
 have hh:=hh.mono λ_ _ x=>ah.mono h1 x
 have hm:=hm.mono λ_ _ x=>ah.mono h1 x
 cases d;case array n e=>
  simp only;refine Sim.bind' (Sim.sureAddr hv) λbP h2 a b hab=>?_
  refine Sim.cF (Sim.sliceBounds _ _ _ (hl.mono λ_ _ x=>ah.mono h2 x) (hh.mono λ_ _ x=>ah.mono h2 x) (hm.mono λ_ _ x=>ah.mono h2 x)) λrL h4 x=>?_
  obtain⟨x1,x2,x3⟩:=x;simp only;refine Sim.cF (Sim.sizeOf _) λAN h5 n=>?_
  refine Sim.pure' λVg h6=>?_
  have hab:=hab.mono (Ren.le_trans h4 (Ren.le_trans h5 h6));split
  ·exact .slice _ _ hab
  ·exact .slice _ _ (hab.add _)
 all_goals exact Sim.slice t hv hl hh hm
def bD.program{P':Ϙ}{f:Ϙ->Sem γ}(h:bD P' (f P')):bD P' (Go.program>>=f):=by
 intro w a aa hr;exact h w a aa hr
def bD.typeInfo{t:ό}{f:TypeInfo->Sem γ}(h:∀i,P.info? t=φ i->bD (tw P F) (f i)):bD (tw P F) (Go.typeInfo t>>=f):=by
 unfold Go.typeInfo;rw[bind_assoc];refine bD.program ?_
 rw[rI];cases e: P.info? t with
 |none=>exact bD.halt
 |some i=>exact h i e
def acC(P:Ϙ)(F:Array Á):∀(n:Nat) (t u:ό),(tw P F).alikeButTags n t u=P.alikeButTags n t u
 |0,_,_=>rfl
 |n+1,t,u=>by
  have e:(tw P F).alikeButTags n=P.alikeButTags n:=funext λt=>funext λu=>acC P F n t u
  unfold Program.alikeButTags;rw[e,rI,rI]
def asS(P:Ϙ)(F:Array Á)(t:ό):(tw P F).underlyingId t=P.underlyingId t:=by
 unfold Program.underlyingId;rw[rI]
def GX(P:Ϙ)(F:Array Á):(tw P F).depth=P.depth:=rfl
def asR(P:Ϙ)(F:Array Á)(t:ό):(tw P F).stoodInAs t=P.stoodInAs t:=by
 unfold Program.stoodInAs;simp only[pT,acC,asS,GX];rfl
def acH(P:Ϙ)(F:Array Á)(t:ό):(tw P F).stoodInHeld t=P.stoodInHeld t:=by
 unfold Program.stoodInHeld;rw[asR,rI]
def Ow(P:Ϙ)(F:Array Á):∀(d:Nat) (t:ό),(tw P F).eqGuardType d t=P.eqGuardType d t
 |0,_=>rfl
 |d+1,t=>by
  have e:(tw P F).eqGuardType d=P.eqGuardType d:=funext λt=>Ow P F d t
  unfold Program.eqGuardType;rw[pT,e]
def nT(P:Ϙ):Nat->ό->Bool
 |0,_=>χ
 |d+1,t=>
  match P.info? t with
  |none=>χ
  |some i=>
   (match i.desc with| .named "sync.copyChecker" _=>χ|_=>θ) &&
   match P.underlying t with
   |some .bool|some (.int _) |some .string|some (.slice _) |some (.map _ _) |some (.func _ _ _)=>θ
   |some (.struct fs)=>fs.all λf=>nT P d f.type
   |some (.array _ e)=>nT P d e
   |_=>χ
def Sim.equalIn:∀(d n:Nat) (t:ό) {x x' y y':υ} {ρ:Ren},nT P n t=θ->ah ρ x x'->ah ρ y y'->
 Sim (tw P F) P C ρ (λ_ a b=>a=b) (Ł d t x y) (Ł d t x' y'):=by
 intro d;induction d with
 |zero=>intro n t x x' y y' ρ _ _ _;exact Sim.halt
 |succ d ih=>
  intro n t x x' y y' ρ h hx hy;cases n with
  |zero=>cases h
  |succ n=>
  unfold Ł;refine Sim.lr λcz h1 ds hd=>?_
  have hx:=hx.mono h1;have hy:=hy.mono h1;unfold nT at h;cases hi: P.info? t with
  |none=>rw[hi] at h;cases h
  |some info=>
  rw[hi,hd] at h;simp only[Ϫ] at h;obtain⟨dh,h⟩:=h;cases ds;case bool=>
   cases hx<;>first|exact Sim.stuck| (cases hy<;>first|exact Sim.pure' λ_ _=>rfl|exact Sim.stuck)
  case string=>
   cases hx<;>first|exact Sim.stuck| (cases hy<;>first|exact Sim.pure' λ_ _=>rfl|exact Sim.stuck)
  case int k=>
   cases hx;case int k a=>
    cases hy;case int k' b=>
     have key:Sim (tw P F) P C cz (λ_ a b=>a=b) (if k=k' then ϧ (a==b) else Go.stuck "==: kinds differ") (if k=k' then ϧ (a==b) else Go.stuck "==: kinds differ"):=by
      split
      ·exact Sim.pure' λ_ _=>rfl
      ·exact Sim.stuck
     cases a with
     |ofNat a=>cases a<;>(cases b with|ofNat b=>cases b<;>exact key|negSucc b=>exact key)
     |negSucc a=>cases b with|ofNat b=>cases b<;>exact key|negSucc b=>exact key
    case ptr hab=>
     cases a with
     |ofNat a=>cases a<;>first|exact Sim.pure' λ_ _=>rfl|exact Sim.unsupported
     |negSucc a=>exact Sim.unsupported
    all_goals first|exact Sim.unsupported|exact Sim.stuck
   case ptr hab=>
    cases hy;case ptr hab'=>
     refine Sim.never ?_
     refine bD.qU λ_=>bD.qU λ_=>bD.program ?_
     split
     ·rename_i hc
      simp[tw] at hc
     ·refine bD.typeInfo λi bG=>?_
      rw[hi] at bG;obtain rfl:=Ϟ bG;split
      ·rename_i dk
       rw[dk] at dh;cases dh
      ·exact bD.halt
    case int k' b=>
     cases b with
     |ofNat b=>cases b<;>first|exact Sim.pure' λ_ _=>rfl|exact Sim.unsupported
     |negSucc b=>exact Sim.unsupported
    all_goals first|exact Sim.unsupported|exact Sim.stuck
   case ptrNone=>cases hy<;>exact Sim.unsupported
   all_goals (cases hy<;>first|exact Sim.unsupported|exact Sim.stuck)
  case slice e=>
   cases hx<;>first|exact Sim.stuck| (cases hy<;>first|exact Sim.pure' λ_ _=>rfl|exact Sim.stuck)
  case map k e=>
   cases hx<;>first|exact Sim.stuck| (cases hy<;>first|exact Sim.pure' λ_ _=>rfl|exact Sim.stuck)
  case func a b c=>
   cases hx<;>first|exact Sim.stuck| (cases hy<;>first|exact Sim.pure' λ_ _=>rfl|exact Sim.stuck)
  case struct fs=>
   cases hx;case agg hxs hxs'=>
    cases hy;case agg hys hys'=>
     simp only;refine Sim.bind' Sim.program λbP h2 p p' hp=>?_
     obtain⟨rfl,rfl⟩:=hp;rw[acH];split
     ·exact Sim.unsupported
     ·refine Sim.cF (Sim.Dr fs (λf hf s=>?_) _) λgZ h3 r=>?_
      ·have RU:nT p' n f.type=θ:=by
        simp only[Ě] at h;exact h f hf
       split
       ·refine Sim.bind' (Sim.part f.type (aV.mono h2 ⟨hxs,hxs'⟩) _) λgZ h3 a a' ha=>?_
        refine Sim.bind' (Sim.part f.type (aV.mono (Ren.le_trans h2 h3) ⟨hys,hys'⟩) _) λrL h4 b b' hb=>?_
        refine Sim.cF (ih n f.type RU (ha.mono h4) hb) λAN h5 r=>?_
        cases r<;>exact Sim.pure' λ_ _=>rfl
       ·exact Sim.pure' λ_ _=>rfl
      ·obtain⟨r,_⟩:=r
       cases r<;>exact Sim.pure' λ_ _=>rfl
    all_goals exact Sim.stuck
   all_goals (cases hy<;>exact Sim.stuck)
  case array len e=>
   cases hx;case agg hxs hxs'=>
    cases hy;case agg hys hys'=>
     simp only;refine Sim.cF (Sim.sizeOf e) λbP h2 m=>?_
     simp only[Aei];refine Sim.cF (Sim.yf _ (λi hi s=>?_) _) λgZ h3 r=>?_
     ·refine Sim.bind' (Sim.part e (aV.mono h2 ⟨hxs,hxs'⟩) _) λgZ h3 a a' ha=>?_
      refine Sim.bind' (Sim.part e (aV.mono (Ren.le_trans h2 h3) ⟨hys,hys'⟩) _) λrL h4 b b' hb=>?_
      refine Sim.cF (ih n e h (ha.mono h4) hb) λAN h5 r=>?_
      cases r<;>exact Sim.pure' λ_ _=>rfl
     ·obtain⟨r,_⟩:=r
      cases r<;>exact Sim.pure' λ_ _=>rfl
    all_goals exact Sim.stuck
   all_goals (cases hy<;>exact Sim.stuck)
  all_goals cases h
def K3(P:Ϙ)(F:Array Á)(t:ό):(tw P F).cellsOf t=P.cellsOf t:=by unfold Program.cellsOf;rw[rI]
def Ov(P:Ϙ)(F:Array Á)(t:ό):(tw P F).bytesOf t=P.bytesOf t:=by unfold Program.bytesOf;rw[rI]
def UQ(P:Ϙ)(F:Array Á):∀(d:Nat) (t:ό) (o:Nat),Ŭ (tw P F) d t o=Ŭ P d t o
 |0,_,_=>rfl
 |d+1,t,o=>by
  have e:Ŭ (tw P F) d=Ŭ P d:=funext λt=>funext λo=>UQ P F d t o
  unfold Ŭ;simp only[pT,e,K3,Ov]
def acD(P:Ϙ)(F:Array Á):∀(d:Nat) (t:ό) (o:Nat),Abn (tw P F) d t o=Abn P d t o
 |0,_,_=>rfl
 |d+1,t,o=>by
  have e:Abn (tw P F) d=Abn P d:=funext λt=>funext λo=>acD P F d t o
  unfold Abn;simp only[pT,e,K3,Ov]
def asN(P:Ϙ)(F:Array Á)(d:Nat)(e:ό)(c o:Nat)(b:Int):cellAtBytes (tw P F) d e c o b=cellAtBytes P d e c o b:=by
 unfold cellAtBytes;simp only[K3,Ov,UQ,acD]
def Sim.KU{a b:Nat}{f:Option (ό×Nat)->Sem γ}{g:Option (ό×Nat)->Sem δ}(h:ρ a b)(hf:∀ax,ρ.le ax->∀x,Sim P' P C ax S (f x) (g x)):
 Sim P' P C ρ S (Go.shape a>>=f) (Go.shape b>>=g):=Sim.cF (Sim.shape h) hf
def Sim.viewAt{P':Ϙ}{a b:Nat}(h:ρ a b):Sim P' P C ρ (λ_ x y=>x=ν/\y=ν) (Go.viewAt a) (Go.viewAt b):=by
 unfold Go.viewAt;refine Sim.KU h λax h' x=>?_
 cases x with
 |some x=>exact Sim.pure' λ_ _=>⟨rfl,rfl⟩
 |none=>
  refine Sim.bind' (Sim.getObj (h' _ _ h)) λkQ fN o o' r=>?_
  cases r<;>exact Sim.pure' λ_ _=>⟨rfl,rfl⟩
def Sim.numberAt{P':Ϙ}{a b:Nat}(h:ρ a b):Sim P' P C ρ (λρ x y=>k8 (λp q=>fQ ρ p.1 q.1/\p.2=q.2) x y) (Go.numberAt a) (Go.numberAt b):=by
 unfold Go.numberAt;refine Sim.KU h λax h' x=>?_
 cases x with
 |some x=>exact Sim.pure' λ_ _=>.none
 |none=>
  refine Sim.bind' (Sim.getObj (h' _ _ h)) λkQ fN o o' r=>?_
  cases r;case number l hab=>exact Sim.pure' λ_ h3=>.some ⟨hab.mono h3,rfl⟩
  all_goals exact Sim.pure' λ_ _=>.none
def Sim.behindNumber{P':Ϙ}{a b:ϖ}(h:fQ ρ a b):Sim P' P C ρ (λρ x y=>fQ ρ x.1 y.1/\x.2=y.2) (Go.behindNumber a) (Go.behindNumber b):=by
 unfold Go.behindNumber;refine Sim.bind' (Sim.numberAt h.1) λax h' x y r=>?_
 cases r with
 |none=>exact Sim.pure' λ_ h3=>⟨(h.mono h').mono h3,rfl⟩
 |some r=>exact Sim.pure' λ_ h3=>⟨r.1.mono h3,r.2⟩
def Sim.asNumber{P':Ϙ}{a b:ϖ}(h:fQ ρ a b)(l:Bool):Sim P' P C ρ ah (Go.asNumber a l) (Go.asNumber b l):=by
 unfold Go.asNumber;exact Sim.bind' (Sim.newObj (.number l h)) λax _ a b hab=>Sim.pure' λ_ h3=>.ptr ⟨h3 _ _ hab,rfl,rfl⟩
def Sim.noView{P':Ϙ}{a b:ϖ}(h:fQ ρ a b):Sim P' P C ρ (λ_ _ _=>True) (Go.noView a) (Go.noView b):=by
 unfold Go.noView;refine Sim.bind' (Sim.viewAt h.1) λax h' x y r=>?_
 obtain⟨rfl,rfl⟩:=r;exact Sim.pure' λ_ _=>trivial
def Sim.byteOf{a b:ϖ}(h:fQ ρ a b):Sim (tw P F) P C ρ (λ_ x y=>x=y) (Go.byteOf a) (Go.byteOf b):=by
 unfold Go.byteOf;rw[<-h.2.2,<-h.2.1];cases a.spot with
 |some s=>exact Sim.pure' λ_ _=>rfl
 |none=>
  refine Sim.bind' Sim.program λcz h1 p p' hp=>?_
  obtain⟨rfl,rfl⟩:=hp;refine Sim.bind' (Sim.noView (h.mono h1)) λbP h2 _ _ _=>?_
  refine Sim.KU (h.mono (Ren.le_trans h1 h2)).1 λgZ h3 x=>?_
  cases x with
  |none=>exact Sim.stuck
  |some x=>
   simp only[K3,Ov,UQ,GX];split
   ·exact Sim.pure' λ_ _=>rfl
   ·cases Ŭ p' p'.depth x.1 (a.off % p'.cellsOf x.1) with
    |none=>exact Sim.stuck
    |some _=>exact Sim.pure' λ_ _=>rfl
def Sim.unsafeAdd(t:ό)(hx:ah ρ x x')(hy:ah ρ y y'):Sim (tw P F) P C ρ (λρ u u'=>∃a b,u=π (φ a)/\u'=π (φ b)/\fQ ρ a b) (ļ #[] t #[x,y]) (ļ #[] t #[x',y']):=by
 unfold ļ;cases hx;case ptrNone=>
  refine Sim.cF (Sim.asInt hy) λcz h1 n=>?_
  simp only;split
  ·exact Sim.unsupported
  ·split
   ·exact Sim.G1
   ·exact Sim.unsupported
 case ptr hab=>
  refine Sim.cF (Sim.asInt hy) λcz h1 n=>?_
  have hab:=hab.mono h1;simp only;split
  ·refine Sim.bind' (Sim.viewAt hab.1) λbP h2 x y r=>?_
   obtain⟨rfl,rfl⟩:=r;exact Sim.pure' λ_ h3=>⟨_,_,rfl,rfl,hab.mono (Ren.le_trans h2 h3)⟩
  ·split
   ·exact Sim.G1
   ·refine Sim.KU hab.1 λgZ h3 x=>?_
    cases x with
    |none=>exact Sim.unsupported
    |some x=>
     refine Sim.bind' Sim.program λrL h4 p p' hp=>?_
     obtain⟨rfl,rfl⟩:=hp;simp only[asN,GX,K3,hab.2.1];split
     ·exact Sim.pure' λ_ h5=>⟨_,_,rfl,rfl,(hab.mono (Ren.le_trans h3 (Ren.le_trans h4 h5))).1,rfl,hab.2.2⟩
     ·exact Sim.unsupported
 all_goals exact Sim.stuck
def Kn(t:ό)(x y:υ):Sem υ:=do
 let π (φ n):=x|ļ #[] t #[x,y]
 let (a,lost) <-Go.behindNumber n
 match <-ļ #[] t #[π (φ a),y] with
 | .pointer (φ b)=>Go.asNumber b lost
 |v=>pure v
def Sim.Kn(t:ό){x x' y y':υ}(hx:ah ρ x x')(hy:ah ρ y y'):Sim (tw P F) P C ρ ah (Kn t x y) (Kn t x' y'):=by
 unfold Go.Sim.Kn;have gen:Sim (tw P F) P C ρ ah (ļ #[] t #[x,y]) (ļ #[] t #[x',y']):=(Sim.unsafeAdd t hx hy).Xk λ_ _ _ _ ⟨a,b,e1,e2,h⟩=>by subst e1 e2;exact .ptr h
 cases hx;case ptr hab=>
  refine Sim.bind' (Sim.behindNumber hab) λbP h2 a b r=>?_
  obtain⟨a,l⟩:=a;obtain⟨b,l'⟩:=b;obtain⟨r,e⟩:=r;simp only at r e |-
  subst e;refine Sim.bind' (Sim.unsafeAdd t (.ptr r) (hy.mono h2)) λgZ h3 u u' hu=>?_
  obtain⟨a,b,rfl,rfl,hab⟩:=hu;exact Sim.asNumber hab _
 case junk=>exact Sim.stuck
 all_goals exact gen
def Sim.movedNumber(t:ό){x x' y y':υ}(hx:ah ρ x x')(hy:ah ρ y y'):Sim (tw P F) P C ρ ah (Go.movedNumber t x y) (Go.movedNumber t x' y'):=by
 unfold Go.movedNumber;refine Sim.lr λcz h1 d _=>?_
 have hx:=hx.mono h1;have hy:=hy.mono h1;cases d<;>first|exact Sim.G1|exact Sim.Kn t hx hy
def Sim.En(op:Ù)(t:ό)(k:ä)(a:Int)(k':ä)(b:Int):Sim (tw P F) P C ρ ah (Go.binOp op t (.int k a) (.int k' b)) (Go.binOp op t (.int k a) (.int k' b)):=by
 have shift:∀op,Sim (tw P F) P C ρ ah (Op.shift op k a k' b) (Op.shift op k a k' b):=by
  intro op;unfold Op.shift;split
  ·exact Sim.never (tT _)
  ·cases op<;>first|exact Sim.stuck|exact Sim.pure' λ_ _=>.int _ _
 have div:∀op,Sim (tw P F) P C ρ ah (Op.intDiv op k a b) (Op.intDiv op k a b):=by
  intro op;unfold Op.intDiv;split
  ·exact Sim.never (tT _)
  ·cases op<;>first|exact Sim.stuck|exact Sim.pure' λ_ _=>.int _ _
 cases op;case shl=>exact shift .shl
 case shr=>exact shift .shr
 all_goals
  simp only[Go.binOp];split
  ·exact Sim.stuck
  ·first|exact div _|exact Sim.pure' λ_ _=>.int _ _|exact Sim.pure' λ_ _=>.bool _
def Sim.ET(op:Ù)(t:ό)(a b:ByteArray):Sim (tw P F) P C ρ ah (Go.binOp op t (.string a) (.string b)) (Go.binOp op t (.string a) (.string b)):=by
 cases op;case add=>
  simp only[Go.binOp,Op.stringOp];split
  ·exact Sim.unsupported
  ·exact Sim.pure' λ_ _=>.string _
 all_goals first|exact Sim.pure' λ_ _=>.bool _|exact Sim.stuck
def Sim.WO{x y:Sem Bool}(h:Sim (tw P F) P C ρ (λ_ a b=>a=b) x y)(f:Bool->Bool):Sim (tw P F) P C ρ ah (x>>=λb=>ϧ (Value.bool (f b))) (y>>=λb=>ϧ (Value.bool (f b))):=
 Sim.cF h λ_ _ _=>Sim.pure' λ_ _=>.bool _
def S9(t:ό)(y:υ):bD (tw P F) (ű t (μ #[]) y):=by
 show bD _ (Ł (9999+1) t (μ #[]) y);unfold Ł;refine bD.qU λd=>?_
 cases d<;>first|exact bD.halt| (cases y<;>exact bD.halt)
def Ta(t:ό)(x:υ):bD (tw P F) (ű t x (μ #[])):=by
 show bD _ (Ł (9999+1) t x (μ #[]));unfold Ł;refine bD.qU λd=>?_
 cases d<;>(cases x<;>first|exact bD.halt| (rename_i a _ _;cases a<;>exact bD.halt) | (rename_i a;cases a<;>exact bD.halt))
def Sim.WC(neq:Bool)(t:ό)(ht:nT P n t=θ)(hx:ah ρ x x')(hy:ah ρ y y'):
 Sim (tw P F) P C ρ ah (Go.binOp (if neq then .neq else .eql) t x y) (Go.binOp (if neq then .neq else .eql) t x' y'):=by
 have e:Sim (tw P F) P C ρ (λ_ a b=>a=b) (ű t x y) (ű t x' y'):=Sim.equalIn _ n t ht hx hy
 have e1:=Sim.WO e id;have e2:=Sim.WO e not;cases neq;all_goals
  simp only[Ì,if_false,if_true];cases hx<;>cases hy<;>first|exact e1|exact e2|exact Sim.En .eql t _ _ _ _|exact Sim.ET .eql t _ _|exact Sim.En .neq t _ _ _ _|exact Sim.ET .neq t _ _|exact Sim.never (bD.bind (S9 _ _)) |exact Sim.never (bD.bind (Ta _ _))
def Sim.movedPointer(t:ό){x x' y y':υ}(hx:ah ρ x x')(hy:ah ρ y y'):Sim (tw P F) P C ρ ah (Go.movedPointer t x y) (Go.movedPointer t x' y'):=by
 unfold Go.movedPointer;have gen:∀ax,ρ.le ax->Sim (tw P F) P C ax ah (ļ #[] t #[x,y]) (ļ #[] t #[x',y']):=λax h'=>(Sim.unsafeAdd t (hx.mono h') (hy.mono h')).Xk λ_ _ _ _ ⟨a,b,e1,e2,h⟩=>by subst e1 e2;exact .ptr h
 cases hx;case ptr hab=>
  refine Sim.bind' (Sim.numberAt hab.1) λbP h2 a b r=>?_
  cases r with
  |none=>exact gen bP h2
  |some r=>exact Sim.G1
 case junk=>exact Sim.stuck
 all_goals exact gen ρ ρ.le_refl
def aa4(a b:ϖ):bD (tw P F) (Op.twoPlaces a b):=by
 unfold Op.twoPlaces;refine bD.program ?_
 simp only;have:(a.block !=b.block||decide (a.block>=(tw P F).globals.size))=θ:=by simp[tw]
 rw[if_pos this];exact bD.bind bD.halt
def Sim.addrMod(k:ä){a b:ϖ}(h:fQ ρ a b)(n:Int):Sim (tw P F) P C ρ ah (Adq k a n) (Adq k b n):=by
 unfold Adq;refine Sim.KU h.1 λcz h1 x=>?_
 cases x with
 |none=>exact Sim.unsupported
 |some x=>
  refine Sim.GZ λbP h2 i _=>?_
  simp only;split
  ·exact Sim.G1
  ·exact Sim.cF (Sim.byteOf (h.mono (Ren.le_trans h1 h2))) λ_ _ _=>Sim.pure' λ_ _=>.int _ _
def aoS(op:Ù)(a b:ϖ):bD (tw P F) (Go.behindNumber a>>=λx=>Go.behindNumber b>>=λy=>Op.addrCmp op x.1 y.1):=by
 refine bD.qU λx=>bD.qU λy=>?_
 unfold Op.addrCmp;exact bD.bind (aa4 _ _)
def aoT(a b:ϖ):bD (tw P F) (Go.behindNumber a>>=λx=>Go.behindNumber b>>=λy=>Op.addrSub .u64 x.1 y.1):=by
 refine bD.qU λx=>bD.qU λy=>?_
 unfold Op.addrSub;exact bD.bind (aa4 _ _)
def Sim.abw(k:ä){b:ϖ}(h:fQ ρ a b)(n:Int):Sim (tw P F) P C ρ ah (Go.behindNumber a>>=λx=>Adq k x.1 n) (Go.behindNumber b>>=λx=>Adq k x.1 n):=
 Sim.bind' (Sim.behindNumber h) λ_ _ _ _ r=>Sim.addrMod k r.1 n
def Sim.apO(t:ό)(hx:ah ρ x x')(hy:ah ρ y y'):
 Sim (tw P F) P C ρ ah (Go.underlying t>>=λd=>if(match d with| .unsafePointer=>θ|_=>χ)=θ then Go.movedPointer t x y else Go.movedNumber t x y)
  (Go.underlying t>>=λd=>if(match d with| .unsafePointer=>θ|_=>χ)=θ then Go.movedPointer t x' y' else Go.movedNumber t x' y'):=by
 refine Sim.lr λcz h1 d _=>?_
 split
 ·exact Sim.movedPointer t (hx.mono h1) (hy.mono h1)
 ·exact Sim.movedNumber t (hx.mono h1) (hy.mono h1)
def Sim.ae3(t:ό)(hx:ah ρ x x')(hy:ah ρ y y'):Sim (tw P F) P C ρ ah (Go.binOp .add t x y) (Go.binOp .add t x' y'):=by
 have p1:=Sim.apO (P:=P) (F:=F) (C:=C) t hx hy;have p2:=Sim.movedNumber (P:=P) (F:=F) (C:=C) t hy hx;cases hx<;>cases hy<;>first|exact Sim.stuck|exact Sim.unsupported|exact Sim.En .add t _ _ _ _|exact Sim.ET .add t _ _|exact p1|exact p2
def Sim.ae7(t:ό)(hx:ah ρ x x')(hy:ah ρ y y'):Sim (tw P F) P C ρ ah (Go.binOp .sub t x y) (Go.binOp .sub t x' y'):=by
 have p:∀k n,Sim (tw P F) P C ρ ah (Go.movedNumber t x (.int k (-n))) (Go.movedNumber t x' (.int k (-n))):=λk n=>Sim.movedNumber t hx (.int _ _)
 cases hx<;>cases hy<;>first|exact Sim.stuck|exact Sim.unsupported|exact Sim.En .sub t _ _ _ _|exact Sim.ET .sub t _ _|exact p _ _|exact Sim.never (aoT _ _)
def Sim.ae4(t:ό)(hx:ah ρ x x')(hy:ah ρ y y'):Sim (tw P F) P C ρ ah (Go.binOp .and t x y) (Go.binOp .and t x' y'):=by
 cases hx<;>cases hy<;>first|exact Sim.stuck|exact Sim.unsupported|exact Sim.En .and t _ _ _ _|exact Sim.ET .and t _ _|exact Sim.abw _ (by assumption) _
def Sim.ae6(t:ό)(hx:ah ρ x x')(hy:ah ρ y y'):Sim (tw P F) P C ρ ah (Go.binOp .rem t x y) (Go.binOp .rem t x' y'):=by
 cases hx<;>cases hy<;>first|exact Sim.stuck|exact Sim.unsupported|exact Sim.En .rem t _ _ _ _|exact Sim.ET .rem t _ _|exact Sim.abw _ (by assumption) _
inductive vu:Ù->Prop
 |mul:vu .mul
 |quo:vu .quo
 |or:vu .or
 |xor:vu .xor
 |shl:vu .shl
 |shr:vu .shr
 |andNot:vu .andNot
 |lss:vu .lss
 |leq:vu .leq
 |gtr:vu .gtr
 |geq:vu .geq
def Sim.ae5(op:Ù)(ho:vu op)(t:ό)(hx:ah ρ x x')(hy:ah ρ y y'):Sim (tw P F) P C ρ ah (Go.binOp op t x y) (Go.binOp op t x' y'):=by
 cases ho<;>(cases hx<;>cases hy<;>first|exact Sim.stuck|exact Sim.unsupported|exact Sim.En _ t _ _ _ _|exact Sim.ET _ t _ _|exact Sim.never (aoS _ _ _))
def Sim.binOp(op:Ù)(t:ό){n:Nat}(ht:op=.eql\/op=.neq->nT P n t=θ){x x' y y':υ}(hx:ah ρ x x')(hy:ah ρ y y'):
 Sim (tw P F) P C ρ ah (Go.binOp op t x y) (Go.binOp op t x' y'):=by
 cases op;case eql=>exact Sim.WC χ t (ht (.inl rfl)) hx hy
 case neq=>exact Sim.WC θ t (ht (.inr rfl)) hx hy
 case add=>exact Sim.ae3 t hx hy
 case sub=>exact Sim.ae7 t hx hy
 case and=>exact Sim.ae4 t hx hy
 case rem=>exact Sim.ae6 t hx hy
 all_goals exact Sim.ae5 _ (by constructor) t hx hy
def aoU(op:Ù)(t:ό)(b:υ):bD (tw P F) (Go.binOp op t (μ #[]) b):=by
 cases op;case eql=>cases b<;>exact bD.bind (S9 t _)
 case neq=>cases b<;>exact bD.bind (S9 t _)
 all_goals (cases b<;>exact bD.halt)
def aoV(op:Ù)(t:ό)(a:υ):bD (tw P F) (Go.binOp op t a (μ #[])):=by
 cases op;case eql=>cases a<;>exact bD.bind (Ta t _)
 case neq=>cases a<;>exact bD.bind (Ta t _)
 all_goals (cases a<;>first|exact bD.halt| (rename_i a;cases a<;>exact bD.halt))
def Sim.apq(op:Ù)(t:ό)(ht:op=.eql\/op=.neq->nT P n t=θ/\P.eqGuardType P.depth t=χ)(x y:Ç){a b:υ}(ha:ah ρ a a')(hb:ah ρ b b'):
 Sim (tw P F) P C ρ ah (do Go.eqGuard op t x y a b;Go.binOp op t a b) (do Go.eqGuard op t x y a' b';Go.binOp op t a' b'):=by
 by_cases ja:a=μ #[]
 ·subst ja
  exact Sim.never (bD.qU λ_=>aoU op t b)
 by_cases jb:b=μ #[]
 ·subst jb
  exact Sim.never (bD.qU λ_=>aoV op t a)
 refine Sim.bind' (R:=λ_ _ _=>True) ?_ λcz h1 _ _ _=>Sim.binOp op t (λh=>(ht h).1) (ha.mono h1) (hb.mono h1)
 have pt:∀ {ρ:Ren},Sim (tw P F) P C ρ (λ_ _ _=>True) (ϧ ():Sem Unit) (ϧ ()):=Sim.pure' λ_ _=>trivial
 by_cases he:op=.eql\/op=.neq
 ·obtain⟨_,hg⟩:=ht he
  have ajw:∀u u' v v',Sim (tw P F) P C ρ (λ_ _ _=>True)
   (do if !(<-Go.program).eqGuardType (<-Go.program).depth t then return
       if <-Ų ų t u v then Go.unsupported (.noEntry "binop/eql: two nil values of an interface type with methods, in a part of a struct or an array"))
   (do if !(<-Go.program).eqGuardType (<-Go.program).depth t then return
       if <-Ų ų t u' v' then Go.unsupported (.noEntry "binop/eql: two nil values of an interface type with methods, in a part of a struct or an array")):=by
   intro u u' v v';refine Sim.bind' Sim.program λcz h1 p p' hp=>?_
   obtain⟨rfl,rfl⟩:=hp;refine Sim.bind' Sim.program λbP h2 q q' hq=>?_
   obtain⟨rfl,rfl⟩:=hq;rw[Ow,GX,hg];exact pt
  have Sn:Sim (tw P F) P C ρ (λ_ _ _=>True)
   (do if(match x with| .const _=>θ|_=>χ) || (match y with| .const _=>θ|_=>χ) then return
       if <-Ų ų t .nilIface .nilIface then Go.unsupported (.noEntry "binop/eql: two nil values of an interface type with methods, neither of them the literal nil"))
   (do if(match x with| .const _=>θ|_=>χ) || (match y with| .const _=>θ|_=>χ) then return
       if <-Ų ų t .nilIface .nilIface then Go.unsupported (.noEntry "binop/eql: two nil values of an interface type with methods, neither of them the literal nil")):=by
   have tail:Sim (tw P F) P C ρ (λ_ _ _=>True)
    (do if <-Ų ų t .nilIface .nilIface then Go.unsupported (.noEntry "binop/eql: two nil values of an interface type with methods, neither of them the literal nil"))
    (do if <-Ų ų t .nilIface .nilIface then Go.unsupported (.noEntry "binop/eql: two nil values of an interface type with methods, neither of them the literal nil")):=by
    refine Sim.cF (Sim.lr λcz h1 d hd=>?_) λcz h1 r=>?_
    ·cases d<;>exact Sim.pure' λ_ _=>rfl
    ·cases r
     ·exact pt
     ·exact Sim.unsupported
   cases x<;>cases y<;>first|exact pt|exact tail
  rcases he with rfl|rfl
  all_goals
   cases ha<;>cases hb<;>first|exact pt|exact ajw _ _ _ _|exact Sn|exact absurd rfl ja|exact absurd rfl jb
 ·unfold Go.eqGuard
  cases op<;>first|exact pt| (exact absurd (.inl rfl) he) | (exact absurd (.inr rfl) he)
def Sim.not{v v':υ}(h:ah ρ v v'):Sim (tw P F) P C ρ ah (Op.unary .not v) (Op.unary .not v'):=by
 cases h<;>first|exact Sim.stuck|exact Sim.pure' λ_ _=>.bool _
def Sim.extract{v v':υ}(h:ah ρ v v')(i:Nat):Sim (tw P F) P C ρ ah (Acv v i) (Acv v' i):=by
 unfold Acv;cases h;case tuple hx h1=>
  rcases bU.get? (R:=ah ρ) ⟨hx,h1⟩ i with⟨e1,_⟩ | ⟨a,b,e1,e2,r⟩
  ·simp only[e1];exact Sim.stuck
  ·simp only[e1,e2];exact Sim.pure' λ_ h=>r.mono h
 case junk h _ _=>simp only[Array.getElem?_empty];exact Sim.stuck
 all_goals exact Sim.stuck
def Sim.makeFunc(f:Å){x x' y y':Array υ}(hx:aV ρ x x')(hy:aV ρ y y'):Sim (tw P F) P C ρ ah (Instr.makeFunc (.func f) x y) (Instr.makeFunc (.func f) x' y'):=
 Sim.pure' λ_ h=>.func (.func f) (hx.mono h).1 (hx.mono h).2 (hy.mono h).1 (hy.mono h).2
def Sim.anX(t:ό):Sim (tw P F) P C ρ ah (Acw t ν) (Acw t ν):=by
 unfold Acw;exact Sim.bind' (Sim.newObj (.map 0 .empty)) λ_ _ _ _ h=>Sim.pure' λ_ h'=>.map (h' _ _ h)
def Sim.askRoom{P':Ϙ}(n:Nat):Sim P' P C ρ (λ_ _ _=>True) (Go.askRoom n) (Go.askRoom n):=by
 unfold Go.askRoom;split
 ·exact Sim.noRoom
 ·exact Sim.pure' λ_ _=>trivial
def aV.get! {x y:Array υ}(h:aV ρ x y)(i:Nat):ah ρ x[i]! y[i]! :=by
 have hs:=h.1;by_cases hi:i<x.size
 ·simpa [Aam,Ò,hi,hs▸hi] using h.2 i hi (hs▸hi)
 ·have e1:x[i]! =default:=by simp[Aam,Ò];rw[Ô (by omega)];rfl
  have e2:y[i]! =default:=by simp[Aam,Ò];rw[Ô (by omega)];rfl
  rw[e1,e2];exact .bool _
def aV.Ub{x y:Array υ}(h:aV ρ x y)(n:Nat):aV ρ ((Ō n).map (x[· % x.size]!)) ((Ō n).map (y[· % y.size]!)):=by
 refine⟨by simp,λi hi bG=>?_⟩
 simp only[Aap,Aaq];rw[<-h.1];exact aV.get! h _
def Sim.makeSlice(T:uE P)(t:ό){l l' c c':υ}(hl:ah ρ l l')(hc:ah ρ c c'):Sim (tw P F) P C ρ ah (Acx t l c) (Acx t l' c'):=by
 unfold Acx;refine Sim.lr λcz h1 d hd=>?_
 cases d;case slice e=>
  simp only;refine Sim.cF (Sim.asInt (hl.mono h1)) λbP h2 ln=>?_
  refine Sim.cF (Sim.asInt (hc.mono (Ren.le_trans h1 h2))) λgZ h3 cp=>?_
  refine Sim.GZ λrL h4 i hi=>?_
  have tail:Sim (tw P F) P C rL ah
   (do
     Go.askRoom ((ϗ.wrap cp).toNat * i.bytes)
     let n:=(ϗ.wrap cp).toNat * (<-Go.sizeOf e)
     let zero <-if n=0 then ϧ #[] else do ϧ (<-Go.zeroValue e).cells
     let a <-Go.newRow e ((Ō n).map (zero[· % zero.size]!))
     ϧ (ζ (φ a) (ϗ.wrap ln).toNat (ϗ.wrap cp).toNat))
   (do
     Go.askRoom ((ϗ.wrap cp).toNat * i.bytes)
     let n:=(ϗ.wrap cp).toNat * (<-Go.sizeOf e)
     let zero <-if n=0 then ϧ #[] else do ϧ (<-Go.zeroValue e).cells
     let a <-Go.newRow e ((Ō n).map (zero[· % zero.size]!))
     ϧ (ζ (φ a) (ϗ.wrap ln).toNat (ϗ.wrap cp).toNat)):=by
   refine Sim.bind' (Sim.askRoom _) λAN h5 _ _ _=>?_
   refine Sim.cF (Sim.sizeOf e) λVg h6 sz=>?_
   simp only;split
   ·refine Sim.bind' (R:=aV) (Sim.pure' λ_ _=>bU.empty) λLd h7 x y hxy=>?_
    exact Sim.bind' (Sim.newRow e (aV.Ub hxy _)) λρ8 h8 a b hab=>Sim.pure' λ_ h9=>.slice _ _ (hab.mono h9)
   ·refine Sim.bind' (Sim.zeroValue T e) λLd h7 v v' hv=>?_
    refine Sim.bind' (R:=aV) (Sim.pure' λ_ h=>aV.mono h hv.cells) λLd h7 x y hxy=>?_
    exact Sim.bind' (Sim.newRow e (aV.Ub hxy _)) λρ8 h8 a b hab=>Sim.pure' λ_ h9=>.slice _ _ (hab.mono h9)
  split
  ·refine Sim.never ?_
   split
   ·exact bD.bind (tT _)
   ·split
    ·exact bD.bind (tT _)
    ·exact bD.qU λ_=>bD.bind (tT _)
  ·exact tail
 all_goals exact Sim.stuck
abbrev Fh(ρ:Ren):Nat×υ->Nat×υ->Prop:=λp q=>p.1=q.1/\ah ρ p.2 q.2
def aio{x y:List (υ×Nat)}(h:nj (λp q=>ah ρ p.1 q.1/\p.2=q.2) x y)(off:Nat):∀ {c c':Array υ},aV ρ c c'->
 aV ρ (x.foldl (λcs p=>cs.setIfInBounds (off+p.2) p.1) c) (y.foldl (λcs p=>cs.setIfInBounds (off+p.2) p.1) c'):=by
 induction h with
 |nil=>intro c c' hc;exact hc
 |cons hp _ ih=>
  intro c c' hc;simp only[List.foldl_cons];rw[<-hp.2];exact ih (hc.set _ hp.1)
def atP{x y:List υ}(h:nj (ah ρ) x y):∀n,nj (λp q=>ah ρ p.1 q.1/\p.2=q.2) (x.zipIdx n) (y.zipIdx n):=by
 induction h with
 |nil=>intro n;exact .nil
 |cons hp _ ih=>intro n;simp only[List.zipIdx_cons];exact .cons ⟨hp,rfl⟩ (ih _)
def QP(place:Nat->Option (Nat×Nat)){p q:List (Nat×υ)}(h:nj (Fh ρ) p q):∀ {c c':Array υ},aV ρ c c'->k8 (aV ρ) (Ħ place c p) (Ħ place c' q):=by
 induction h with
 |nil=>intro c c' hc;exact .some hc
 | @cons a b x y hp _ ih=>
   intro c c' hc;obtain⟨i,v⟩:=a;obtain⟨i',v'⟩:=b;obtain⟨e,hv⟩:=hp;simp only at e hv;subst e;have mR:=hv.cells;unfold Ħ;cases place i with
   |none=>exact .none
   |some os=>
    obtain⟨off,size⟩:=os;simp only;rw[<-mR.1,<-hc.1];split
    ·exact .none
    ·refine ih ?_
     have:=aio (atP mR.vb 0) off hc;rw[<-Aar,<-Aar,Aas,Aas];exact this
def Sim.build(T:uE P)(t:ό){p q:Array (Nat×υ)}(h:bU (Fh ρ) p q):Sim (tw P F) P C ρ ah (Acz t p) (Acz t q):=by
 unfold Acz;refine Sim.bind' (Sim.zeroValue T t) λcz h1 z z' hz=>?_
 refine Sim.lr λbP h2 d hd=>?_
 have hz:=(hz.mono h2).cells;have h:bU (Fh bP) p q:=h.mono λ_ _ x=>⟨x.1,x.2.mono (Ren.le_trans h1 h2)⟩
 cases d;case struct fs=>
  simp only;refine Sim.cF (Sim.Ck fs λf _=>Sim.cF (Sim.sizeOf f.type) λ_ _ _=>Sim.pure' λ_ _=>rfl) λgZ h3 places=>?_
  have:=QP (λi=>places[i]?) h.vb hz
  generalize Ħ (λi=>places[i]?) z.cells p.toList=r at this |-
  generalize Ħ (λi=>places[i]?) z'.cells q.toList=r' at this |-
  cases this with
  |none=>exact Sim.stuck
  |some hr=>exact Sim.pure' λ_ h4=>ah.Ba (hr.mono (Ren.le_trans h3 h4))
 case array n e=>
  simp only;refine Sim.cF (Sim.sizeOf e) λgZ h3 size=>?_
  have:=QP (λi=>φ (i * size,size)) h.vb hz
  generalize Ħ (λi=>φ (i * size,size)) z.cells p.toList=r at this |-
  generalize Ħ (λi=>φ (i * size,size)) z'.cells q.toList=r' at this |-
  cases this with
  |none=>exact Sim.stuck
  |some hr=>exact Sim.pure' λ_ h4=>ah.Ba (hr.mono (Ren.le_trans h3 h4))
 all_goals exact Sim.stuck
def Sim.buildSlice(T:uE P)(t:ό)(n:Nat){p q:Array (Nat×υ)}(h:bU (Fh ρ) p q):Sim (tw P F) P C ρ ah (Ac0 t n p) (Ac0 t n q):=by
 unfold Ac0;refine Sim.lr λcz h1 d hd=>?_
 cases d;case slice e=>
  simp only;refine Sim.cF (Sim.sizeOf e) λbP h2 size=>?_
  split
  ·exact Sim.G1
  ·have tail:∀ {ax:Ren},bP.le ax->∀ {z z':Array υ},aV ax z z'->Sim (tw P F) P C ax ah
    (match Ħ (λi=>φ (i * size,size)) ((Ō (n * size)).map (z[· % z.size]!)) p.toList with
      |some cells=>do ϧ (ζ (φ (<-Go.newRow e cells)) n n)
      |_=>Go.stuck "buildSlice: a part of the wrong size")
    (match Ħ (λi=>φ (i * size,size)) ((Ō (n * size)).map (z'[· % z'.size]!)) q.toList with
      |some cells=>do ϧ (ζ (φ (<-Go.newRow e cells)) n n)
      |_=>Go.stuck "buildSlice: a part of the wrong size"):=by
    intro ax h' z z' hz;have h:bU (Fh ax) p q:=h.mono λ_ _ x=>⟨x.1,x.2.mono (Ren.le_trans h1 (Ren.le_trans h2 h'))⟩
    have:=QP (λi=>φ (i * size,size)) h.vb (aV.Ub hz (n * size))
    generalize Ħ (λi=>φ (i * size,size)) ((Ō (n * size)).map (z[· % z.size]!)) p.toList=r at this |-
    generalize Ħ (λi=>φ (i * size,size)) ((Ō (n * size)).map (z'[· % z'.size]!)) q.toList=r' at this |-
    cases this with
    |none=>exact Sim.stuck
    |some hr=>exact Sim.bind' (Sim.newRow e hr) λ_ _ a b hab=>Sim.pure' λ_ h9=>.slice _ _ (hab.mono h9)
   split
   ·refine Sim.bind' (R:=aV) (Sim.pure' λ_ _=>bU.empty) λLd h7 x y hxy=>?_
    exact tail h7 hxy
   ·refine Sim.bind' (Sim.zeroValue T e) λLd h7 v v' hv=>?_
    refine Sim.bind' (R:=aV) (Sim.pure' λ_ h=>aV.mono h hv.cells) λρ8 h8 x y hxy=>?_
    exact tail (Ren.le_trans h7 h8) hxy
 all_goals exact Sim.stuck
def Sim.lenOf{v v':υ}(h:ah ρ v v'):Sim (tw P F) P C ρ (λ_ a b=>a=b) (ŭ v) (ŭ v'):=by
 cases h<;>first|exact Sim.pure' λ_ _=>rfl|exact Sim.stuck
def WQ(b:ByteArray):aV ρ (b.data.map λb=>.int .u8 b.toNat) (b.data.map λb=>.int .u8 b.toNat):=by
 refine bU.refl λa ha=>?_
 obtain⟨b,_,rfl⟩:=Array.mem_map.1 ha;exact .int _ _
def Dn(v:υ)(n:Nat):Prop:=∀a,v=ζ (φ a) 0 0->n=0
def Sim.Tq(h:ah ρ v v'):Sim (tw P F) P C ρ (λ_ a b=>a=b/\Dn v a) (ŭ v) (ŭ v'):=by
 cases h<;>first|exact Sim.pure' λ_ _=>⟨rfl,λa e=>by cases e;rfl⟩ |exact Sim.pure' λ_ _=>⟨rfl,λa e=>by cases e⟩ |exact Sim.stuck
def Sim.XK(size:Nat)(h:ah ρ v v'):Sim (tw P F) P C ρ (λ_ a b=>a=#[]/\b=#[]) (õ size 0 v) (õ size 0 v'):=by
 cases h;case slice len cap hab=>simp only[õ,Aeb];exact Sim.pure' λ_ _=>⟨rfl,rfl⟩
 case sliceDead=>simp only[õ,Aeb];exact Sim.pure' λ_ _=>⟨rfl,rfl⟩
 case sliceNone=>exact Sim.pure' λ_ _=>⟨rfl,rfl⟩
 case string s=>exact Sim.pure' λ_ _=>⟨by simp,by simp⟩
 all_goals exact Sim.stuck
def Sim.firstCells(size n:Nat){v v':υ}(h:ah ρ v v')(hd:Dn v n):Sim (tw P F) P C ρ aV (õ size n v) (õ size n v'):=by
 cases h;case slice len cap hab=>exact Sim.loadCells hab _
 case sliceNone=>exact Sim.pure' λ_ _=>.empty
 case sliceDead a b=>
  obtain rfl:=hd a rfl;simp only[õ,Aeb];exact Sim.pure' λ_ _=>.empty
 case string s=>exact Sim.pure' λ_ _=>WQ _
 all_goals exact Sim.stuck
def aV.zeroCells{x y:Array υ}(h:aV ρ x y)(n:Nat):aV ρ (Ŏ x n) (Ŏ y n):=by
 unfold Ŏ;rw[<-h.1];refine⟨by simp,λi hi bG=>?_⟩
 simp only[Aap,Aaq];exact aV.get! h _
def Sim.len(ts:Array ό)(t:ό)(h:ah ρ v v'):Sim (tw P F) P C ρ ah (Ab7 ts t #[v]) (Ab7 ts t #[v']):=by
 unfold Ab7;cases ts[0]? with
 |none=>exact Sim.stuck
 |some u=>
  refine Sim.lr λcz h1 d hd=>?_
  have h:=h.mono h1;cases d;case array n e=>exact Sim.pure' λ_ _=>.int _ _
  case string=>cases h<;>first|exact Sim.stuck|exact Sim.pure' λ_ _=>.int _ _
  case slice e=>cases h<;>first|exact Sim.stuck|exact Sim.pure' λ_ _=>.int _ _
  case pointer e=>
   refine Sim.lr λbP h2 d hd=>?_
   cases d<;>first|exact Sim.stuck|exact Sim.pure' λ_ _=>.int _ _
  case map k e=>
   cases h;case mapNone=>exact Sim.pure' λ_ _=>.int _ _
   case map r=>
    refine Sim.bind' (Sim.getObj r) λbP h2 o o' ro=>?_
    cases ro;case map clock hm=>simp only[hm.1];exact Sim.pure' λ_ _=>.int _ _
    all_goals exact Sim.stuck
   all_goals exact Sim.stuck
  case chan dd e=>
   cases h;case chanNone=>exact Sim.pure' λ_ _=>.int _ _
   case chan r=>
    refine Sim.bind' (Sim.getObj r) λbP h2 o o' ro=>?_
    cases ro<;>exact Sim.stuck
   all_goals exact Sim.stuck
  all_goals (cases h<;>exact Sim.stuck)
def Sim.max2{a a' b b':υ}(ha:ah ρ a a')(hb:ah ρ b b'):Sim (tw P F) P C ρ ah (Builtin.max2 a b) (Builtin.max2 a' b'):=by
 cases ha<;>cases hb<;>first|exact Sim.stuck|exact Sim.unsupported|exact Sim.pure' λ_ _=>.int _ _|exact Sim.pure' λ_ _=>.string _
def Sim.min2{a a' b b':υ}(ha:ah ρ a a')(hb:ah ρ b b'):Sim (tw P F) P C ρ ah (Builtin.min2 a b) (Builtin.min2 a' b'):=by
 cases ha<;>cases hb<;>first|exact Sim.stuck|exact Sim.unsupported|exact Sim.pure' λ_ _=>.int _ _|exact Sim.pure' λ_ _=>.string _
def Sim.foldlM{f g:υ->υ->Sem υ}(hf:∀ {ax:Ren} {a a' b b'},ah ax a a'->ah ax b b'->Sim (tw P F) P C ax ah (f a b) (g a' b')){x y:List υ}(h:nj (ah ρ) x y):
 ∀ {ax:Ren},ρ.le ax->∀ {a b},ah ax a b->Sim (tw P F) P C ax ah (x.foldlM f a) (y.foldlM g b):=by
 induction h with
 |nil=>intro ax h' a b hab;exact Sim.pure' λ_ h=>hab.mono h
 |cons hp _ ih=>
  intro ax h' a b hab;simp only[List.foldlM_cons];exact Sim.bind' (hf hab (hp.mono h')) λkQ fN _ _ r=>ih (Ren.le_trans h' fN) r
def Sim.max(ts:Array ό)(t:ό){x y:Array υ}(h:aV ρ x y):Sim (tw P F) P C ρ ah (Ab8 ts t x) (Ab8 ts t y):=by
 unfold Ab8;have:=h.vb;generalize x.toList=l at this |-
 generalize y.toList=l' at this |-
 cases this with
 |nil=>exact Sim.stuck
 |cons hp ht=>exact Sim.foldlM Sim.max2 ht ρ.le_refl hp
def Sim.min(ts:Array ό)(t:ό){x y:Array υ}(h:aV ρ x y):Sim (tw P F) P C ρ ah (Ab9 ts t x) (Ab9 ts t y):=by
 unfold Ab9;have:=h.vb;generalize x.toList=l at this |-
 generalize y.toList=l' at this |-
 cases this with
 |nil=>exact Sim.stuck
 |cons hp ht=>exact Sim.foldlM Sim.min2 ht ρ.le_refl hp
def Sim.copy(ts:Array ό)(t:ό){a b:υ}(ha:ah ρ a a')(hb:ah ρ b b'):Sim (tw P F) P C ρ ah (Aca ts t #[a,b]) (Aca ts t #[a',b']):=by
 unfold Aca;cases ts[0]? with
 |none=>exact Sim.stuck
 |some u=>
  refine Sim.lr λcz h1 d hd=>?_
  cases d;case slice e=>
   have ha:=ha.mono h1;have hb:=hb.mono h1;cases ha;case sliceDead a1 a2=>
    refine Sim.cF (Sim.lenOf hb) λbP h2 m=>?_
    refine Sim.cF (Sim.sizeOf e) λgZ h3 s=>?_
    simp only[show Nat.min m 0=0 from Nat.min_zero m]
    refine Sim.bind' (Sim.XK s (hb.mono (Ren.le_trans h2 h3))) λrL h4 x y hxy=>?_
    obtain⟨rfl,rfl⟩:=hxy;exact Sim.pure' λ_ _=>.int _ _
   case slice n c hab=>
    refine Sim.bind' (Sim.Tq hb) λbP h2 m m' hm=>?_
    obtain⟨rfl,dm⟩:=hm;refine Sim.cF (Sim.sizeOf e) λgZ h3 s=>?_
    refine Sim.bind' (Sim.firstCells s _ (hb.mono (Ren.le_trans h2 h3)) λa e=>by have:=dm a e;subst this;exact Nat.zero_min _) λrL h4 x y hxy=>?_
    exact Sim.bind' (Sim.storeCells (hab.mono (Ren.le_trans h2 (Ren.le_trans h3 h4))) hxy.vb 0) λ_ _ _ _ _=>Sim.pure' λ_ _=>.int _ _
   case sliceNone n c=>
    refine Sim.bind' (Sim.Tq hb) λbP h2 m m' hm=>?_
    obtain⟨rfl,dm⟩:=hm;refine Sim.cF (Sim.sizeOf e) λgZ h3 s=>?_
    refine Sim.bind' (Sim.firstCells s _ (hb.mono (Ren.le_trans h2 h3)) λa e=>by have:=dm a e;subst this;exact Nat.zero_min _) λrL h4 x y hxy=>?_
    exact Sim.pure' λ_ _=>.int _ _
   all_goals exact Sim.stuck
  all_goals exact Sim.stuck
def Sim.clear(T:uE P)(ts:Array ό)(t:ό){a:υ}(ha:ah ρ a a'):Sim (tw P F) P C ρ ah (Acb ts t #[a]) (Acb ts t #[a']):=by
 unfold Acb;have e:∀ {ax:Ren},ah ax (μ #[]) (μ #[]):=ah.tuple' .empty
 cases ts[0]? with
 |none=>exact Sim.stuck
 |some u=>
  refine Sim.lr λcz h1 d hd=>?_
  have ha:=ha.mono h1;cases ha;case slice n c hab=>
   cases n with
   |zero=>cases d<;>exact Sim.pure' λ_ _=>e
   |succ n=>
    cases d;case slice el=>
     refine Sim.bind' (Sim.zeroValue T el) λbP h2 v v' hv=>?_
     exact Sim.bind' (Sim.storeCells (hab.mono h2) (aV.zeroCells hv.cells _).vb 0) λ_ _ _ _ _=>Sim.pure' λ_ _=>e
    all_goals exact Sim.stuck
  case sliceNone n c=>cases d<;>exact Sim.pure' λ_ _=>e
  case sliceDead a b=>cases d<;>exact Sim.pure' λ_ _=>e
  case mapNone=>cases d<;>exact Sim.pure' λ_ _=>e
  case map r=>
   cases d;all_goals
    refine Sim.bind' (Sim.getObj r) λbP h2 o o' ro=>?_
    cases ro;case map clock hm=>exact Sim.bind' (Sim.setObj (h2 _ _ r) (.map clock .empty)) λ_ _ _ _ _=>Sim.pure' λ_ _=>e
    all_goals exact Sim.stuck
  all_goals (cases d<;>exact Sim.stuck)
def De(elem:ό)(base:Option ϖ)(iB nQ:Nat)(s x:υ)(size n:Nat):Sem υ:=do
 let tS:=iB+n
 if tS<=nQ then
  let new <-õ size n x
  if let φ a:=base then Go.storeCells (a.add (iB * size)) new.toList
  pure (.slice base tS nQ)
 else
  if(tS:Int)>ϗ.max/\(χ\/(<-Go.typeInfo elem).bytes=0) then runtimePanic (.error "growslice: len out of range")
  if Acd tS nQ * (<-Go.typeInfo elem).bytes>2 ^ 48 then(if χ then runtimePanic (.error "growslice: len out of range") else do
   if !(<-Ace size iB n base x) then Go.mark .noRoom
   Go.unsupported (.resourceLimit "append: a slice or a string whose bytes no memory bears"))
  let pR <-Go.choose (.appendCap tS nQ elem)
  Go.askRoom (pR * (<-Go.typeInfo elem).bytes)
  let old <-õ size iB s
  let new <-õ size n x
  let rest:=Ŏ (<-Go.zeroValue elem).cells (pR - tS)
  pure (ζ (φ (<-Go.newRow elem (old++new++rest))) tS pR)
def Sim.grow(T:uE P)(elem:ό)(tS nQ iB size n:Nat){s:υ}(hs:ah ρ s s')(hx:ah ρ x x')(ds:Dn s iB)(dx:Dn x n):Sim (tw P F) P C ρ ah
 (do
   let pR <-Go.choose (.appendCap tS nQ elem)
   Go.askRoom (pR * (<-Go.typeInfo elem).bytes)
   let old <-õ size iB s
   let new <-õ size n x
   let rest:=Ŏ (<-Go.zeroValue elem).cells (pR - tS)
   ϧ (ζ (φ (<-Go.newRow elem (old++new++rest))) tS pR))
 (do
   let pR <-Go.choose (.appendCap tS nQ elem)
   Go.askRoom (pR * (<-Go.typeInfo elem).bytes)
   let old <-õ size iB s'
   let new <-õ size n x'
   let rest:=Ŏ (<-Go.zeroValue elem).cells (pR - tS)
   ϧ (ζ (φ (<-Go.newRow elem (old++new++rest))) tS pR)):=by
 refine Sim.cF (Sim.choose _) λcz h1 pR=>?_
 refine Sim.GZ λbP h2 i hi=>?_
 refine Sim.bind' (Sim.askRoom _) λgZ h3 _ _ _=>?_
 have l3:=Ren.le_trans h1 (Ren.le_trans h2 h3);refine Sim.bind' (Sim.firstCells _ _ (hs.mono l3) ds) λrL h4 o o' ho=>?_
 refine Sim.bind' (Sim.firstCells _ _ (hx.mono (Ren.le_trans l3 h4)) dx) λAN h5 w w' hw=>?_
 refine Sim.bind' (Sim.zeroValue T elem) λVg h6 z z' hz=>?_
 refine Sim.bind' (Sim.newRow elem (((ho.mono (Ren.le_trans h5 h6)).append (hw.mono h6)).append (aV.zeroCells hz.cells _))) λLd h7 a b hab=>Sim.pure' λ_ h8=>.slice _ _ (hab.mono h8)
def Sim.De(T:uE P)(elem:ό){b b':Option ϖ}(iB nQ:Nat)(hb:k8 (fQ ρ) b b'\/(∃a a',b=φ a/\b'=φ a'/\iB=0/\nQ=0)){s s' x x':υ}(hs:ah ρ s s')(hx:ah ρ x x')(size n:Nat)(ds:Dn s iB)(dx:Dn x n):
 Sim (tw P F) P C ρ ah (De elem b iB nQ s x size n) (De elem b' iB nQ s' x' size n):=by
 unfold Go.Sim.De;simp only;split
 ·rename_i hle
  rcases hb with hb| ⟨a,a',rfl,rfl,rfl,rfl⟩
  rotate_left
  ·obtain rfl:n=0:=by omega
   refine Sim.bind' (Sim.XK _ hx) λcz h1 u u' hu=>?_
   obtain⟨rfl,rfl⟩:=hu;exact Sim.pure' λ_ _=>.sliceDead _ _
  refine Sim.bind' (Sim.firstCells _ _ hx dx) λcz h1 u u' hu=>?_
  cases hb with
  |none=>exact Sim.pure' λ_ _=>.sliceNone _ _
  |some hb=>exact Sim.bind' (Sim.storeCells ((hb.mono h1).add _) hu.vb 0) λ_ h2 _ _ _=>Sim.pure' λ_ h3=>.slice _ _ (hb.mono (Ren.le_trans h1 (Ren.le_trans h2 h3)))
 ·refine Sim.GZ λcz h1 i hi=>?_
  have second:∀ {ax:Ren},ρ.le ax->Sim (tw P F) P C ax ah
   (do
     if Acd (iB+n) nQ * (<-Go.typeInfo elem).bytes>2 ^ 48 then(if χ then runtimePanic (.error "growslice: len out of range") else do
      if !(<-Ace size iB n b x) then Go.mark .noRoom
      Go.unsupported (.resourceLimit "append: a slice or a string whose bytes no memory bears"))
     let pR <-Go.choose (.appendCap (iB+n) nQ elem)
     Go.askRoom (pR * (<-Go.typeInfo elem).bytes)
     let old <-õ size iB s
     let new <-õ size n x
     let rest:=Ŏ (<-Go.zeroValue elem).cells (pR - (iB+n))
     ϧ (ζ (φ (<-Go.newRow elem (old++new++rest))) (iB+n) pR))
   (do
     if Acd (iB+n) nQ * (<-Go.typeInfo elem).bytes>2 ^ 48 then(if χ then runtimePanic (.error "growslice: len out of range") else do
      if !(<-Ace size iB n b' x') then Go.mark .noRoom
      Go.unsupported (.resourceLimit "append: a slice or a string whose bytes no memory bears"))
     let pR <-Go.choose (.appendCap (iB+n) nQ elem)
     Go.askRoom (pR * (<-Go.typeInfo elem).bytes)
     let old <-õ size iB s'
     let new <-õ size n x'
     let rest:=Ŏ (<-Go.zeroValue elem).cells (pR - (iB+n))
     ϧ (ζ (φ (<-Go.newRow elem (old++new++rest))) (iB+n) pR)):=by
   intro ax h';refine Sim.GZ λbP h2 i hi=>?_
   split
   ·refine Sim.never ?_
    simp only[Ì,if_false];refine bD.bind (bD.qU λ_=>?_)
    split
    ·exact bD.qU λ_=>bD.halt
    ·exact bD.halt
   ·exact Sim.grow T elem _ _ _ _ _ (hs.mono (Ren.le_trans h' h2)) (hx.mono (Ren.le_trans h' h2)) ds dx
  split
  ·exact Sim.never (bD.bind (tT _))
  ·exact second h1
def Sim.append(T:uE P)(ts:Array ό)(t:ό)(hz:∀u,ts[1]?=φ u->∀k,P.underlying u≠φ (.int k)){s:υ}(hs:ah ρ s s')(hx:ah ρ x x'):
 Sim (tw P F) P C ρ ah (Acf ts t #[s,x]) (Acf ts t #[s',x']):=by
 unfold Acf;cases ts[0]? with
 |none=>exact Sim.stuck
 |some u=>
  refine Sim.lr λcz h1 d hd=>?_
  have hs:=hs.mono h1;have hx:=hx.mono h1;cases d;case slice elem=>
   have tail:∀ {ax:Ren},cz.le ax->∀ {b b':Option ϖ} (iB nQ size:Nat) (_:k8 (fQ ax) b b'\/(∃a a',b=φ a/\b'=φ a'/\iB=0/\nQ=0)),ah ax (.slice b iB nQ) (.slice b' iB nQ)->Sim (tw P F) P C ax ah
    (ŭ x>>=λn=>Go.Sim.De elem b iB nQ (.slice b iB nQ) x size n)
    (ŭ x'>>=λn=>Go.Sim.De elem b' iB nQ (.slice b' iB nQ) x' size n):=by
    intro ax h' b b' iB nQ size hb hs;refine Sim.bind' (Sim.Tq (hx.mono h')) λgZ h3 n n' hn=>?_
    obtain⟨rfl,dx⟩:=hn;exact Sim.De T elem iB nQ (hb.imp (λhb=>hb.mono λ_ _ h=>fQ.mono h3 h) id) (hs.mono h3) (hx.mono (Ren.le_trans h' h3)) size n (λa e=>by cases e;rfl) dx
   cases hs;case slice n c hab=>
    refine Sim.cF (Sim.sizeOf elem) λbP h2 size=>?_
    cases e:ts[1]? with
    |none=>exact tail h2 n c size (.inl (.some (hab.mono h2))) (.slice n c (hab.mono h2))
    |some u2=>
     refine Sim.lr λgZ h3 d2 mJ=>?_
     have l:=Ren.le_trans h2 h3;cases d2;case int k=>exact absurd mJ (hz u2 e k)
     all_goals exact tail l n c size (.inl (.some (hab.mono l))) (.slice n c (hab.mono l))
   case sliceNone n c=>
    refine Sim.cF (Sim.sizeOf elem) λbP h2 size=>?_
    cases e:ts[1]? with
    |none=>exact tail h2 n c size (.inl .none) (.sliceNone n c)
    |some u2=>
     refine Sim.lr λgZ h3 d2 mJ=>?_
     have l:=Ren.le_trans h2 h3;cases d2;case int k=>exact absurd mJ (hz u2 e k)
     all_goals exact tail l n c size (.inl .none) (.sliceNone n c)
   case sliceDead a a'=>
    refine Sim.cF (Sim.sizeOf elem) λbP h2 size=>?_
    cases e:ts[1]? with
    |none=>exact tail h2 0 0 size (.inr ⟨a,a',rfl,rfl,rfl,rfl⟩) (.sliceDead a a')
    |some u2=>
     refine Sim.lr λgZ h3 d2 mJ=>?_
     have l:=Ren.le_trans h2 h3;cases d2;case int k=>exact absurd mJ (hz u2 e k)
     all_goals exact tail l 0 0 size (.inr ⟨a,a',rfl,rfl,rfl,rfl⟩) (.sliceDead a a')
   all_goals exact Sim.stuck
  all_goals exact Sim.stuck
def X2(w:Ψ)(c:Array υ)(e:ό):
 Ad4 {w with heap:=w.heap.push (.cells c e (0,0))} {block:=w.heap.size,off:=c.size} 1={w with heap:=w.heap.push (.cells c e (c.size,c.size+1))}:=by
 unfold Ad4;simp only[Nat.one_ne_zero,if_false];congr 1;apply Aat
 ·simp
 ·intro i h1 h2
  simp only[Aau,Array.getElem_push];by_cases hi:w.heap.size=i
  ·subst hi;simp
  ·rw[if_neg hi]
   have:i<w.heap.size:=by simp at h2;omega
   simp[this]
def Cm(e:ό)(c:Array υ):Sem ϖ:=do
 let a <-Go.newRow e c
 Go.markStringish a
 pure a
def aoW(p:Ϙ)(e:ό)(c:Array υ)(w:Ψ):(Cm e c).run p w=.ok ⟨w.heap.size,0,ν⟩ {w with heap:=w.heap.push (.cells c e (c.size,c.size+1))}:=by
 have hs:({w with heap:=w.heap.push (.cells c e (0,0))}:Ψ).shape? w.heap.size=φ (e,c.size):=by simp[Ad3]
 show Ϣ p (Sem.new _ _) w=_;simp only[Ϣ];show Ϣ p (Sem.shape _ _) _=_;simp only[Ϣ,hs];show Ϣ p (Sem.freeze _ _ _) _=_;simp only[Ϣ,X2];rfl
def aoX(p:Ϙ)(e:ό)(c:Array υ)(w:Ψ)(es:Array Í):(Cm e c).runT p w es=(.ok ⟨w.heap.size,0,ν⟩ {w with heap:=w.heap.push (.cells c e (c.size,c.size+1))},es):=by
 have hs:({w with heap:=w.heap.push (.cells c e (0,0))}:Ψ).shape? w.heap.size=φ (e,c.size):=by simp[Ad3]
 show Ϧ p (Sem.new _ _) w es=_;unfold Ϧ;show Ϧ p (Sem.shape _ _) _ es=_;unfold Ϧ;rw[hs];show Ϧ p (Sem.freeze _ _ _) _ es=_;unfold Ϧ;rw[X2];rfl
def Sim.Cm(e:ό){c c':Array υ}(h:aV ρ c c'):Sim (tw P F) P C ρ fQ (Cm e c) (Cm e c'):=by
 intro aI h1 w w' es hw a aa hr;rw[aoW] at hr;simp only[č] at hr;obtain⟨rfl,rfl⟩:=hr;have ho:oS C ρ (.cells c e (c.size,c.size+1)) (.cells c' e (c'.size,c'.size+1)):=.cells e h (.inl (by rw[h.1]))
 obtain⟨bK,b,aC,iy,k1,k2,k3,k4,k5⟩:=Sim.newObj (P':=tw P F) (P:=P) ho aI h1 w w' es hw _ _ rfl;have e1:(Go.newObj (.cells c' e (c'.size,c'.size+1))).runT P w' es=(.ok w'.heap.size {w' with heap:=w'.heap.push (.cells c' e (c'.size,c'.size+1))},es):=by
  unfold Go.newObj;simp only[Ϧ]
 rw[e1] at k1;simp only[Prod.mk.injEq,č] at k1;obtain⟨⟨rfl,rfl⟩,k1⟩:=k1;refine⟨bK,⟨w'.heap.size,0,ν⟩,_,iy,?_,⟨k2,rfl,rfl⟩,k3,k4,k5⟩
 rw[aoX,<-k1]
def anY(e:ό)(c:Array υ)(f:ϖ->Sem υ):(Go.newRow e c>>=λa=>Go.markStringish a>>=λ_=>f a)=Cm e c>>=f:=by
 unfold Cm;simp only[bind_assoc,pure_bind]
def Sim.stringToBytes(e:ό)(s:ByteArray):Sim (tw P F) P C ρ ah (Conv.stringToBytes e s) (Conv.stringToBytes e s):=by
 unfold Conv.stringToBytes;refine Sim.cF (Sim.choose _) λcz h1 cap=>?_
 have hc:aV cz ((s.data.map λb=>Value.int .u8 b.toNat)++Array.replicate (cap - s.size) (Value.int .u8 0)) ((s.data.map λb=>Value.int .u8 b.toNat)++Array.replicate (cap - s.size) (Value.int .u8 0)):=
  (WQ s).append (bU.refl λa ha=>by
    rw[(Aav.1 ha).2];exact .int _ _)
 simp only[anY];exact Sim.bind' (Sim.Cm e hc) λbP h2 a b hab=>Sim.pure' λ_ h3=>.slice _ _ (hab.mono h3)
inductive Vv(P:Ϙ)(src dst:ό):Prop
 |ints (j k:ä) (h1:P.underlying src=φ (.int j)) (h2:P.underlying dst=φ (.int k))
 |bytes (e:ό) (h1:P.underlying src=φ .string) (h2:P.underlying dst=φ (.slice e)) (h3:P.underlying e=φ (.int .u8))
def Sim.convert(src dst:ό)(hc:Vv P src dst){v v':υ}(h:ah ρ v v'):Sim (tw P F) P C ρ ah (Go.convert src dst v) (Go.convert src dst v'):=by
 unfold Go.convert;refine Sim.lr λcz h1 d1 ql=>?_
 refine Sim.lr λbP h2 d2 mJ=>?_
 have h:=h.mono (Ren.le_trans h1 h2);cases hc with
 |ints j k e1 e2=>
  rw[ql] at e1;rw[mJ] at e2;obtain rfl:=Ϟ e1;obtain rfl:=Ϟ e2;cases h<;>first|exact Sim.unsupported|exact Sim.pure' λ_ _=>.int _ _
 |bytes e e1 e2 e3=>
  rw[ql] at e1;rw[mJ] at e2;obtain rfl:=Ϟ e1;obtain rfl:=Ϟ e2;cases h;case string s=>
   refine Sim.lr λgZ h3 d3 hd3=>?_
   rw[hd3] at e3;obtain rfl:=Ϟ e3;exact Sim.stringToBytes e s
  all_goals exact Sim.unsupported
def Sim.checkKey(empty:Bool):∀(d n:Nat) (t:ό) {x x':υ} {ρ:Ren},nT P n t=θ->ah ρ x x'->Sim (tw P F) P C ρ (λ_ _ _=>True) (Ac1 empty d t x) (Ac1 empty d t x'):=by
 intro d;induction d with
 |zero=>intro n t x x' ρ _ _;exact Sim.halt
 |succ d ih=>
  intro n t x x' ρ h hx;have pt:∀ {ρ:Ren},Sim (tw P F) P C ρ (λ_ _ _=>True) (ϧ ():Sem Unit) (ϧ ()):=Sim.pure' λ_ _=>trivial
  cases n with
  |zero=>cases h
  |succ n=>
  unfold Ac1;refine Sim.lr λcz h1 ds hd=>?_
  have hx:=hx.mono h1;unfold nT at h;cases hi: P.info? t with
  |none=>rw[hi] at h;cases h
  |some info=>
  rw[hi,hd] at h;simp only[Ϫ] at h;obtain⟨_,h⟩:=h;cases ds;case struct fs=>
   cases hx;case agg hxs hxs'=>
    simp only;refine Sim.cF (Sim.Dr fs (λf hf s=>?_) _) λ_ _ _=>pt
    have RU:nT P n f.type=θ:=by
     simp only[Ě] at h;exact h f hf
    split
    ·refine Sim.bind' (Sim.part f.type ⟨hxs,hxs'⟩ _) λgZ h3 a a' ha=>?_
     exact Sim.bind' (ih n f.type RU ha) λ_ _ _ _ _=>Sim.pure' λ_ _=>rfl
    ·exact Sim.pure' λ_ _=>rfl
   all_goals exact Sim.stuck
  case array len e=>
   cases hx;case agg hxs hxs'=>
    simp only[Aei];refine Sim.cF (Sim.yf _ (λi hi s=>?_) _) λ_ _ _=>pt
    refine Sim.cF (Sim.sizeOf e) λbP h2 m=>?_
    refine Sim.bind' (Sim.part e (aV.mono h2 ⟨hxs,hxs'⟩) _) λgZ h3 a a' ha=>?_
    exact Sim.bind' (ih n e h ha) λ_ _ _ _ _=>Sim.pure' λ_ _=>rfl
   all_goals exact Sim.stuck
  case bool=>cases hx<;>exact pt
  case int=>cases hx<;>exact pt
  case string=>cases hx<;>exact pt
  case slice=>cases hx<;>exact pt
  case map=>cases hx<;>exact pt
  case func=>cases hx<;>exact pt
  all_goals cases h
abbrev Pf(ρ:Ren):Nat×υ->Nat×υ->Prop:=λp q=>p.1=q.1/\ah ρ p.2 q.2
def pH.key{a b:đ}(h:pH ρ a b):ah ρ a.key b.key:=by cases h;assumption
def pH.val{a b:đ}(h:pH ρ a b):ah ρ a.val b.val:=by cases h;assumption
def Sim.findAsking{n:Nat}{t:ό}(ht:nT P n t=θ){k k':υ}{es es':List đ}(h:nj (pH ρ) es es'):
 ∀ {ax:Ren},ρ.le ax->ah ax k k'->∀i,Sim (tw P F) P C ax (λρ=>k8 (Pf ρ)) (Ac2 t k es i) (Ac2 t k' es' i):=by
 induction h with
 |nil=>intro ax _ _ i;exact Sim.pure' λ_ _=>.none
 |cons he _ ih=>
  intro ax h' hk i;unfold Ac2;refine Sim.cF (Sim.equalIn _ n t ht hk (he.key.mono h')) λkQ fN b=>?_
  cases b with
  |true=>exact Sim.pure' λ_ h3=>.some ⟨rfl,he.val.mono (Ren.le_trans h' (Ren.le_trans fN h3))⟩
  |false=>exact ih (Ren.le_trans h' fN) (hk.mono fN) (i+1)
def asV{t:ό}(h:p.underlying t=φ d)(f:ō->Sem α)(w:Ψ)(es:Array Í):(Go.underlying t>>=f).runT p w es=(f d).runT p w es:=by
 show((Go.underlying t).bind f).runT p w es=_;rw[vY];have:(Go.underlying t).runT p w es=(.ok d w,es):=by
  unfold Go.underlying;show(match p.underlying t with|some d=>ϧ d|none=>Go.stuck "no such type" :Sem ō).runT p w es=_
  rw[h];rfl
 rw[this]
def XF{t:ό}(h:p.underlying t=φ d)(hs:ŏ d x y=φ b)(w:Ψ)(es:Array Í):(ű t x y).runT p w es=(.ok b w,es):=by
 show(Ł (9999+1) t x y).runT p w es=_;unfold Ł;rw[asV h];cases d;case bool=>cases x<;>cases y<;>first| (cases hs;done) | (simp only[ŏ,ï] at hs;subst hs;rfl)
 case string=>cases x<;>cases y<;>first| (cases hs;done) | (simp only[ŏ,ï] at hs;subst hs;rfl)
 case int k0=>
  cases x;case int k a=>
   cases y;case int k' a'=>
    have key:((if k=k' then ϧ (a==a') else Go.stuck "==: kinds differ" :Sem Bool)).runT p w es=(.ok b w,es):=by
     simp only[ŏ] at hs;split at hs
     ·rename_i e
      rw[if_pos e];obtain rfl:=Ϟ hs;rfl
     ·cases hs
    cases a with
    |ofNat a=>cases a<;>(cases a' with|ofNat b=>cases b<;>exact key|negSucc b=>exact key)
    |negSucc a=>cases a' with|ofNat b=>cases b<;>exact key|negSucc b=>exact key
   all_goals cases hs
  all_goals (cases y<;>cases hs)
 all_goals (cases x<;>cases y<;>cases hs)
def XJ{p:Ϙ}{t:ό}{d:ō}(h:p.underlying t=φ d){k:υ}:∀(es:List đ) (i:Nat) {r:Option (Nat×υ)},ľ d k es i=φ r->∀(w:Ψ) (ev:Array Í),
 (Ac2 t k es i).runT p w ev=(.ok r w,ev)
 | [],i,r,hr,w,ev=>by
   simp only[ľ,ï] at hr;subst hr;rfl
 |e::es,i,r,hr,w,ev=>by
  unfold ľ at hr;unfold Ac2;show((ű t k e.key).bind _).runT p w ev=_;rw[vY];split at hr
  ·rename_i hs
   rw[XF h hs];obtain rfl:=Ϟ hr;rfl
  ·rename_i hs
   rw[XF h hs];exact XJ h es (i+1) hr w ev
  ·cases hr
def abT(hx:ah ρ x x')(hy:ah ρ y y')(h:ŏ d x y=φ b):ŏ d x' y'=φ b:=by
 have no:∀d:ō,(∀k,d≠ .int k)->d≠ .string->d≠ .bool->ŏ d x y≠φ b:=by
  intro d h1 h2 h3 e;unfold ŏ at e;split at e<;>simp_all
 cases d;case bool=>cases hx<;>first| (cases y<;>cases h;done) | (cases hy<;>first| (cases h;done) |exact h)
 case string=>cases hx<;>first| (cases y<;>cases h;done) | (cases hy<;>first| (cases h;done) |exact h)
 case int k=>cases hx<;>first| (cases y<;>cases h;done) | (cases hy<;>first| (cases h;done) |exact h)
 all_goals exact absurd h (no _ (λ_=>by simp) (by simp) (by simp))
def aif{k k':υ}(hk:ah ρ k k'){es es':List đ}(h:nj (pH ρ) es es'):∀(i:Nat) {r:Option (Nat×υ)},ľ d k es i=φ r->
 ∃r',ľ d k' es' i=φ r'/\k8 (Pf ρ) r r':=by
 induction h with
 |nil=>intro i r hr;simp only[ľ,ï] at hr;subst hr;exact⟨ν,rfl,.none⟩
 |cons he _ ih=>
  intro i r hr;unfold ľ at hr |-
  split at hr
  ·rename_i hs
   rw[abT hk he.key hs];obtain rfl:=Ϟ hr;exact⟨_,rfl,.some ⟨rfl,he.val⟩⟩
  ·rename_i hs
   rw[abT hk he.key hs];exact ih _ hr
  ·cases hr
def Sim.agv{s:Sem α}{s' s'':Sem β}(h:Sim P' P C ρ R s s')(e:∀w es,s''.runT P w es=s'.runT P w es):Sim P' P C ρ R s s'':=by
 intro aI h1 w w' es hw a aa hr;rw[e];exact h aI h1 w w' es hw a aa hr
def Sim.findKey{n:Nat}{t:ό}(ht:nT P n t=θ){k k':υ}(hk:ah ρ k k'){es es':List đ}(h:nj (pH ρ) es es'):
 Sim (tw P F) P C ρ (λρ=>k8 (Pf ρ)) (Ac5 t k es) (Ac5 t k' es'):=by
 unfold Ac5;refine Sim.lr λcz h1 d hd=>?_
 have ask:=Sim.findAsking (F:=F) (C:=C) ht h h1 (hk.mono h1) 0;have h:nj (pH cz) es es':=by
  clear ask hd;induction h with
  |nil=>exact .nil
  |cons he _ ih=>exact .cons (he.mono h1) ih
 cases e:ľ d k es 0 with
 |some r=>
  obtain⟨r',e',hr⟩:=aif (hk.mono h1) h 0 e;rw[e'];exact Sim.pure' λ_ h3=>hr.mono λ_ _ x=>⟨x.1,x.2.mono h3⟩
 |none=>
  simp only;cases e':ľ d k' es' 0 with
  |none=>exact ask
  |some r'=>exact ask.agv λw ev=>by rw[XJ hd es' 0 e'];rfl
def nj.mono{R R':α->β->Prop}(h:∀a b,R a b->R' a b){x:List α}{y:List β}(k:nj R x y):nj R' x y:=by
 induction k with
 |nil=>exact .nil
 |cons he _ ih=>exact .cons (h _ _ he) ih
def Sim.lookup(T:uE P)(t:ό)(ht:∀k e,P.underlying t=φ (.map k e)->∃n,nT P n k=θ)(ok:Bool){m m' x x':υ}(hm:ah ρ m m')(hx:ah ρ x x'):
 Sim (tw P F) P C ρ ah (Ő t m x ok) (Ő t m' x' ok):=by
 unfold Ő;refine Sim.lr λcz h1 d hd=>?_
 cases d;case map key elem=>
  obtain⟨n,hn⟩:=ht key elem hd;have hm:=hm.mono h1;simp only;have tail:∀ {ax:Ren} {es es':Array đ},cz.le ax->bU (pH ax) es es'->Sim (tw P F) P C ax ah
   (do
     Ac1 es.isEmpty 10000 key x
     let (v,o) <-match <-Ac5 key x es.toList with
      |some (_,v)=>ϧ (v,θ)
      |none=>ϧ (<-Go.zeroValue elem,χ)
     ϧ (if ok then μ #[v,.bool o] else v))
   (do
     Ac1 es'.isEmpty 10000 key x'
     let (v,o) <-match <-Ac5 key x' es'.toList with
      |some (_,v)=>ϧ (v,θ)
      |none=>ϧ (<-Go.zeroValue elem,χ)
     ϧ (if ok then μ #[v,.bool o] else v)):=by
   intro ax es es' h' he;have hx:=hx.mono (Ren.le_trans h1 h');have e1:es.isEmpty=es'.isEmpty:=by simp[Array.isEmpty,he.1]
   rw[e1];refine Sim.bind' (Sim.checkKey _ _ n key hn hx) λbP h2 _ _ _=>?_
   refine Sim.bind' (Sim.findKey hn (hx.mono h2) (he.vb.mono λ_ _ x=>pH.mono h2 x)) λgZ h3 r r' hr=>?_
   have fin:∀ {ax:Ren} {v v':υ} (o:Bool),ah ax v v'->Sim (tw P F) P C ax ah (ϧ (if ok then μ #[v,.bool o] else v):Sem υ) (ϧ (if ok then μ #[v',.bool o] else v')):=by
    intro ax v v' o hv;refine Sim.pure' λkQ fN=>?_
    split
    ·exact ah.tuple' ⟨rfl,λi hi bG=>by
      have:i=0\/i=1:=by simp at hi;omega
      rcases this with rfl|rfl
      ·exact hv.mono fN
      ·exact .bool _⟩
    ·exact hv.mono fN
   cases hr with
   |some hr=>exact fin θ hr.2
   |none=>exact Sim.bind' (Sim.zeroValue T elem) λ_ _ _ _ hv=>fin χ hv
  cases hm;case mapNone=>exact tail cz.le_refl .empty
  case map r=>
   refine Sim.bind' (Sim.getObj r) λbP h2 o o' ro=>?_
   cases ro;case map clock hmm=>exact tail h2 hmm
   all_goals exact Sim.stuck
  all_goals exact Sim.stuck
 all_goals exact Sim.stuck
end
end Go.Sim
namespace Go.Sim
open Go
structure bX(C:bS)(ρ:Ren)(w w':Ψ):Prop where
 fx:∀a b,ρ a b->a<w.heap.size
 du:∀a b,ρ a b->b<w'.heap.size
 fn:∀a b b',ρ a b->ρ a b'->b=b'
 inj:∀a a' b,ρ a b->ρ a' b->a=a'
 obj:∀a b o,ρ a b->w.heap[a]?=φ o->∃o',w'.heap[b]?=φ o'/\oS C ρ o o'
def ot.core{C:bS}{ρ:Ren}(h:ot C ρ w w'):bX C ρ w w':=⟨h.fx,h.du,h.fn,h.inj,h.obj⟩
def bX.rel{C:bS}{ρ:Ren}(h:bX C ρ w w')(t:∀j q,w.tape (w.drawn+j) q=w'.tape (w'.drawn+j) q):ot C ρ w w':=⟨h.fx,h.du,h.fn,h.inj,h.obj,t⟩
def gU(P' P:Ϙ)(C:bS)(ρ:Ren)(R:Ren->α->β->Prop)(s:Sem α)(s':Sem β):Prop:=
 ∀aI,ρ.le aI->∀(w w':Ψ) (es:Array Í),ot C aI w w'->∀a aa,s.run P' w=.ok a aa->
  ∃bK b aC iy,s'.runT P w' es=(.ok b aC,es++iy)/\R bK a b/\bX C bK aa aC/\Trans aI bK w w' aa aC/\∀e∈iy,wE bK w e
section
variable {P' P:Ϙ}{F:Array Á}{C:bS}{ρ:Ren}{α β γ δ:Type}
variable {R:Ren->α->β->Prop}{S:Ren->γ->δ->Prop}
def Sim.rH{s:Sem α}{s':Sem β}(h:Sim P' P C ρ R s s'):gU P' P C ρ R s s':=by
 intro aI h1 w w' es hw a aa hr;obtain⟨bK,b,aC,iy,h2,h3,h4,h5,h6⟩:=h aI h1 w w' es hw a aa hr;exact⟨bK,b,aC,iy,h2,h3,h4.core,h5,h6⟩
def Sim.LO{s:Sem α}{s':Sem β}{f:α->Sem γ}{g:β->Sem δ}(h:Sim P' P C ρ R s s')(hf:∀ax,ρ.le ax->∀a b,R ax a b->gU P' P C ax S (f a) (g b)):
 gU P' P C ρ S (s>>=f) (s'>>=g):=by
 intro aI h1 w w' es hw c ao hr;have hr:(s.bind f).run P' w=.ok c ao:=hr;rw[run_bind] at hr;cases e:s.run P' w with
 |halt h w=>rw[e] at hr;cases hr
 |ok a aa=>
  rw[e] at hr;obtain⟨bK,b,aC,iy,h2,h3,h4,h5,h6⟩:=h aI h1 w w' es hw a aa e;obtain⟨Ig,d,ij,TP,k2,k3,k4,k5,k6⟩:=hf bK (Ren.le_trans h1 h5.le) a b h3 bK bK.le_refl aa aC (es++iy) h4 c ao hr;refine⟨Ig,d,ij,iy++TP,?_,k3,k4,h5.trans k5,λx hx=>?_⟩
  ·show(s'.bind g).runT P w' es=_
   rw[vY,h2];simp only[k2,Aac]
  ·rcases Aad.1 hx with hx|hx
   ·exact(h6 x hx).mono k5.le
   ·exact(k6 x hx).back h5
def gU.ae8{s:Sem α}{s':Sem β}{f:α->γ}{g:β->δ}(h:gU P' P C ρ R s s')(hf:∀ax a b,R ax a b->S ax (f a) (g b)):gU P' P C ρ S (s>>=λa=>ϧ (f a)) (s'>>=λb=>ϧ (g b)):=by
 intro aI h1 w w' es hw c ao hr;have hr:(s.bind λa=>ϧ (f a)).run P' w=.ok c ao:=hr
 rw[run_bind] at hr;cases e:s.run P' w with
 |halt h w=>rw[e] at hr;cases hr
 |ok a aa=>
  rw[e] at hr;have hr:Result.ok (f a) aa=.ok c ao:=hr;simp only[č] at hr;obtain⟨rfl,rfl⟩:=hr;obtain⟨bK,b,aC,iy,h2,h3,h4,h5,h6⟩:=h aI h1 w w' es hw a aa e;refine⟨bK,g b,aC,iy,?_,hf _ _ _ h3,h4,h5,h6⟩
  show(s'.bind _).runT P w' es=_;rw[vY,h2];rfl
def gU.never{s:Sem α}{s':Sem β}(h:bD P' s):gU P' P C ρ R s s':=(Sim.never h).rH
def bytes_beq{s t:ByteArray}(h:(s==t)=θ):s=t:=by
 have h:ByteArray.beq s t=θ:=h;unfold ByteArray.beq at h;simp at h;exact ByteArray.ext h
def Vf{x y:Array υ}(hs:x.size=y.size){f:υ×υ->Bool}:(x.toList.zip y.toList).all f=θ↔∀i (h:i<x.size) (h':i<y.size),f (x[i],y[i])=θ:=by
 rw[List.all_eq_true];constructor
 ·intro h i h1 h2
  refine h _ ?_
  rw[List.mem_iff_getElem];exact⟨i,by simp;omega,by simp⟩
 ·intro h p hp
  rw[List.mem_iff_getElem] at hp;obtain⟨i,hi,rfl⟩:=hp;simp only[List.length_zip,Array.length_toList] at hi;simpa using h i (by omega) (by omega)
def abS:∀(n:Nat) {a b:υ},û n a b=θ->a=b:=by
 intro n;induction n with
 |zero=>intro a b h;cases a<;>cases b<;>first| (simp_all [û];done) | (rw[bytes_beq h])
 |succ n ih=>
  intro a b h;cases a<;>cases b<;>try first| (simp_all [û];done) | (rw[bytes_beq h];done)
  case agg x y=>
   simp only[û,Ϫ,beq_iff_eq] at h;obtain⟨hs,ha⟩:=h;congr 1;exact Aat hs λi h1 h2=>ih ((Vf hs).1 ha i h1 h2)
  case iface t v u w=>
   simp only[û,Ϫ,beq_iff_eq] at h;rw[h.1,ih h.2]
def sameBits_self(hb:OX ρ):∀(n:Nat) {a a' b':υ},û n a a=θ->ah ρ a a'->ah ρ a b'->û n a' b'=θ:=by
 have leaf:∀(n:Nat) {a a' b':υ},(∀x,a≠ .agg x)->(∀t x,a≠ .iface t x)->û n a a=θ->ah ρ a a'->ah ρ a b'->û n a' b'=θ:=by
  intro n a a' b' n1 n2 h ha iE;cases ha;case bool=>cases iE;exact h
  case int=>cases iE;exact h
  case string=>cases iE;exact h
  case ptrNone=>cases iE;exact h
  case ptr x y hxy=>
   cases iE;case ptr z hxz=>
    have e:y=z:=by
     obtain⟨y1,y2,y3⟩:=y;obtain⟨z1,z2,z3⟩:=z;obtain⟨p1,p2,p3⟩:=hxy;obtain⟨q1,q2,q3⟩:=hxz;simp only at p1 p2 p3 q1 q2 q3;rw[<-p2,<-p3,<-q2,<-q3,hb.1 _ _ _ p1 q1]
    subst e;cases n<;>simp[û]
  case chanNone=>cases iE;exact h
  case chan x y hxy=>
   cases iE;case chan z hxz=>
    rw[hb.1 _ _ _ hxy hxz];cases n<;>simp[û]
  case nilIface=>cases iE;exact h
  case iface t v v' hv=>exact absurd rfl (n2 t v)
  case agg x x' hx h1=>exact absurd rfl (n1 x)
  all_goals (cases n<;>simp[û] at h)
 intro n;induction n with
 |zero=>
  intro a a' b' h ha iE;refine leaf 0 (λx e=>?_) (λt x e=>?_) h ha iE<;>(subst e;simp[û] at h)
 |succ n ih=>
  intro a a' b' h ha iE;cases ha;case agg x x' hx h1=>
   cases iE;case agg y' hy h2=>
    simp only[û,Ϫ,beq_iff_eq] at h |-
    have hs:x'.size=y'.size:=hx.symm.trans hy;refine⟨hs,(Vf hs).2 λi i1 i2=>?_⟩
    exact ih ((Vf rfl).1 h.2 i (by omega) (by omega)) (h1 i (by omega) i1) (h2 i (by omega) i2)
  case iface t v v' hv=>
   cases iE;case iface w hw=>
    simp only[û,Ϫ,beq_iff_eq] at h |-
    exact⟨trivial,ih h.2 hv hw⟩
  all_goals exact leaf _ (λ_=>by simp) (λ_ _=>by simp) h (by first|exact ah.fjunk _ _ _|exact ah.sliceDead _ _| (constructor<;>assumption)) iE
def gU.biu{s:Sem α}{s':Sem β}(h:∀ax,ρ.le ax->OX ax->gU P' P C ax R s s'):gU P' P C ρ R s s':=
 λaI h1 w w' es hw a aa hr=>h aI h1 ⟨hw.fn,hw.inj⟩ aI aI.le_refl w w' es hw a aa hr
def gU.agU(q:Question)(hq:q.forced=χ){a b:Nat}(h:ρ a b){f:Nat->Obj}{o':Obj}(ho:∀n,oS C ρ (f n) o'):
 gU P' P C ρ (λ_ _ _=>True) (Go.choose q>>=λn=>Go.setObj a (f n)) (Go.setObj b o'):=by
 intro aI h1 w w' es hw u aa hr;have hr:(Sem.choose q λn=>Go.setObj a (f n)).run P' w=.ok u aa:=hr
 unfold Ϣ at hr;simp only[hq,Ì,if_false] at hr;have ht:∀(x:Nat) (ao:Ψ),(Go.setObj a (f x)).run P' {w with drawn:=w.drawn+1}=.ok () ao->∃qJ,(Go.setObj a (f x)).run P' w=.ok () qJ/\ao={qJ with drawn:=w.drawn+1}:=by
  intro x ao h2;unfold Go.setObj Ϣ at h2 |-
  cases ho:w.heap[a]? with
  |none=>simp only[ho] at h2;cases h2
  |some o=>
   simp only[ho] at h2 |-
   cases o<;>simp only[Ϣ] at h2 |- <;>first| (cases h2;exact⟨_,rfl,rfl⟩) |cases h2
 obtain⟨qJ,e3,rfl⟩:=ht _ _ hr;obtain⟨bK,b',aC,iy,k1,k2,k3,k4,k5⟩:=(Sim.setObj (P':=P') (P:=P) h (ho _)) aI h1 w w' es hw _ _ e3;exact⟨bK,b',aC,iy,k1,trivial,⟨k3.fx,k3.du,k3.fn,k3.inj,k3.obj⟩,⟨k4.le,k4.new,k4.ta,k4.ng,k4.qR,k4.oJ,k4.LG,k4.Oo,k4.CO,k4.Cs,k4.Ct⟩,k5⟩
def bU.modify{R:α->α->Prop}{x y:Array α}(h:bU R x y)(i:Nat){f g:α->α}(hf:∀a b,R a b->R (f a) (g b)):bU R (x.modify i f) (y.modify i g):=by
 refine⟨by simp[h.1],λj hj xd=>?_⟩
 simp only[Aau];split
 ·exact hf _ _ (h.2 _ _ _)
 ·exact h.2 _ _ _
def gU.ame(hb:OX ρ){r r':Nat}(hr:ρ r r'){old TU new cD:υ}(ho:ah ρ old TU)(hn:ah ρ new cD){f g:υ->Obj}(hf:∀ {bP k k'},ρ.le bP->ah bP k k'->oS C bP (f k) (g k')):
 gU P' P C ρ (λ_ _ _=>True) (Ac8 old new>>=λk=>Go.setObj r (f k)) (Ac8 TU cD>>=λk=>Go.setObj r' (g k)):=by
 unfold Ac8;by_cases e:û 10000 old new=θ
 ·have e0:=abS 10000 e
  subst e0;rw[if_pos e,if_pos (sameBits_self hb 10000 e ho hn)];exact(Sim.setObj hr (hf ρ.le_refl hn)).rH
 ·rw[if_neg e]
  by_cases e':û 10000 TU cD=θ
  ·have e0:=abS 10000 e'
   subst e0;rw[if_pos e'];exact gU.agU _ rfl hr λn=>by
     by_cases hz:n=0
     ·rw[if_pos hz];exact hf ρ.le_refl hn
     ·rw[if_neg hz];exact hf ρ.le_refl ho
  ·rw[if_neg e']
   refine Sim.rH ?_
   refine Sim.bind (R:=ah) (Sim.cF (Sim.choose _) λcz h1 n=>Sim.pure ?_) λcz h1 k k' hk=>?_
   ·split
    ·exactλ_ h2=>hn.mono (Ren.le_trans h1 h2)
    ·exactλ_ h2=>ho.mono (Ren.le_trans h1 h2)
   ·exact Sim.setObj (h1 _ _ hr) (hf h1 hk)
def gU.mapUpdate(t:ό)(ht:∀k e,P.underlying t=φ (.map k e)->∃n,nT P n k=θ){m m' k k' v v':υ}(hm:ah ρ m m')(hk:ah ρ k k')(hv:ah ρ v v'):
 gU (tw P F) P C ρ (λ_ _ _=>True) (ő t m k v) (ő t m' k' v'):=by
 unfold ő;refine Sim.LO (Sim.underlying t) λcz h1 d d' hd=>?_
 obtain⟨rfl,hd⟩:=hd;cases d;case map key elem=>
  obtain⟨n,hn⟩:=ht key elem hd;have hm:=hm.mono h1;cases hm;case mapNone=>exact gU.never (tT _)
  case map r=>
   refine Sim.LO (Sim.getObj r) λbP h2 o o' ro=>?_
   cases ro;case map es es' clock he=>
    have hk:=hk.mono (Ren.le_trans h1 h2);have hv:=hv.mono (Ren.le_trans h1 h2);refine Sim.LO (Sim.checkKey _ _ n key hn hk) λgZ h3 _ _ _=>?_
    refine Sim.LO (Sim.findKey hn (hk.mono h3) (he.vb.mono λ_ _ x=>pH.mono h3 x)) λrL h4 f f' hff=>?_
    refine gU.biu λAN h5 hb=>?_
    have l5:=Ren.le_trans h3 (Ren.le_trans h4 h5);have RN:bU (pH AN) es es':=he.mono λ_ _ x=>pH.mono l5 x
    have ZK:=Ren.le_trans h2 l5 _ _ r;cases hff with
    |none=>exact(Sim.setObj ZK (.map _ (RN.push (.mk _ (hk.mono l5) (hv.mono l5))))).rH
    | @some p q hpq=>
      obtain⟨i,x⟩:=p;obtain⟨j,y⟩:=q;obtain⟨e,_⟩:=hpq;simp only at e;subst e;refine gU.ame hb ZK ?_ (hk.mono l5) λh6 z7=>.map _ ((RN.mono λ_ _ x=>pH.mono h6 x).modify _ λa b hab=>?_)
      ·rcases RN.get? i with⟨e1,e2⟩ | ⟨a,b,e1,e2,hab⟩
       ·rw[e1,e2];exact hk.mono l5
       ·rw[e1,e2];exact hab.key
      ·cases hab with
       |mk born _ _=>exact .mk born z7 (hv.mono (Ren.le_trans l5 h6))
   all_goals exact gU.never bD.halt
  all_goals exact gU.never bD.halt
 all_goals exact gU.never bD.halt
end
def qS:Nat->υ->Bool
 |0,_=>χ
 |n+1,v=>match v with
  | .bool _| .int .. | .string _| .pointer ν| .slice ν _ _| .map ν| .chan ν| .nilFunc| .nilIface=>θ
  | .func (.func _) x y=>x.isEmpty && y.isEmpty
  | .iface _ v=>qS n v
  | .agg x=>x.all (qS n)
  | .tuple x=>x.all (qS n)
  |_=>χ
def vc(G:Nat->Bool):Ç->Bool
 | .tmp _=>θ
 | .const v=>qS 10 v
 | .global g=>G g
 | .func _=>θ
def aaq:Ù->Bool
 | .eql| .neq=>θ
 |_=>χ
def IU(P:Ϙ)(t:ό):Bool:=nT P 20 t && !P.eqGuardType P.depth t
def Fx(P:Ϙ)(e:ό):Bool:=match P.underlying e with
 |some (.int .u8)=>θ
 |_=>χ
def FG(P:Ϙ)(s d:ό):Bool:=match P.underlying s,P.underlying d with
 |some (.int _),φ (.int _)=>θ
 |some .string,φ (.slice e)=>Fx P e
 |_,_=>χ
def IX(P:Ϙ)(s:ό)(i:Nat):Bool:=match P.underlying s with
 |some (.struct fs)=>(match fs[i]? with
  |some f=>(P.info? f.type).any (·.size !=0)
  |none=>χ)
 |_=>χ
def EA(P:Ϙ)(t:ό):Bool:=match P.underlying t with
 |some (.map k _)=>nT P 20 k
 |_=>χ
def Kv(P:Ϙ)(t:Option ό):Bool:=match t with
 |none=>θ
 |some u=>(match P.underlying u with
  |some (.int _)=>χ
  |_=>θ)
def Bg(P:Ϙ)(ts:Array ό)(n:Nat):Builtin->Bool
 | .len=>n==1
 | .max| .min=>θ
 | .copy=>n==2
 | .clear=>n==1
 | .append=>n==2 && Kv P ts[1]?
 |_=>χ
def o5(P:Ϙ)(o:Op):Bool:=match o with
 | .move _| .assign _| .pick .. | .alloc _| .box .. | .build .. | .buildSlice .. | .load .. | .store .. | .makeSlice .. | .slice .. | .field .. | .indexAddr .. | .index .. | .extract .. =>θ
 | .unOp .not _ _| .nilCheck _=>θ
 | .binOp op t _ _ _=> !aaq op||IU P t
 | .convert s d _=>FG P s d
 | .makeFunc (.func _) _ _=>θ
 | .makeMap _ ν=>θ
 | .fieldAddr s _ i=>IX P s i
 | .lookup t _ _ _=>EA P t
 | .mapUpdate t _ _ _=>EA P t
 | .call ⟨.value _,_,_⟩=>θ
 | .call ⟨.builtin b,args,ts⟩=>Bg P ts args.size b
 |_=>χ
def qw(P:Ϙ)(G:Nat->Bool)(o:Oper):Bool:=o.op.operands.all (vc G) && o5 P o.op
def cy(P:Ϙ)(G:Nat->Bool):ϑ->Bool
 | .skip| .label _| .ret| .exit _=>θ
 | .region _ ops _=>ops.all (qw P G)
 | .seq a b=>cy P G a && cy P G b
 | .cond c a b=>vc G c && cy P G a && cy P G b
 | .block _ b=>cy P G b
 | .loop b=>cy P G b
 | .scope b=>cy P G b
 | .rangeFunc f _ a b=>vc G f && cy P G a && cy P G b
 |_=>χ
inductive rh(C:bS)(ρ:Ren):Next->Next->Prop
 |value {v v':υ} (h:ah ρ v v'):rh C ρ (.value v) (.value v')
 |skip:rh C ρ .skip .skip
 |enter (f:Å) {x x':Array υ} (hf:C.ok f=θ) (h:aV ρ x x'):rh C ρ (.enter f x) (.enter f x')
 |hole (f:Å) {x x':Array υ} (hf:C.hole f=θ) (h:aV ρ x x'):rh C ρ (.enter f x) (.enter f x')
 |round {l l':Nat} (hl:ρ l l') (f:Å) {x x':Array υ} (h:aV ρ x x') {a b:ϑ} (ha:C.clean a) (hb:C.clean b):rh C ρ (.round l f x a b) (.round l' f x' a b)
structure Vw(fn:Á):Prop where
 name:(fn.name== "runtime.NumGoroutine")=χ
 body:fn.body=ν
 next:Extern.findNext fn=ν
 row:Extern.find fn=ν
 init:fn.name.endsWith ".init" =χ
structure Env(P:Ϙ)(F:Array Á)(C:bS)(G:Nat->Bool):Prop where
 zg:uE P
 clean:∀c,C.clean c↔cy P G c=θ
 get:∀f,C.ok f=θ->∃fn c,F[f]?=φ fn/\P.funcs[f]?=φ fn/\fn.body=φ c/\cy P G c=θ/\(fn.name== "runtime.NumGoroutine")=χ
 dead:∀f,C.ok f=χ->C.hole f=χ->F[f]?=ν\/∃fn,F[f]?=φ fn/\Vw fn
 JL:∀f,C.hole f=θ->∃fn fn' c c',F[f]?=φ fn/\P.funcs[f]?=φ fn'/\fn.body=φ c/\fn'.body=φ c'/\(fn.name== "runtime.NumGoroutine")=χ/\(fn'.name== "runtime.NumGoroutine")=χ
 ahead:(tw P F).follows .staticDataAhead=θ
 steps:∀g,(tw P F).stepOf g=ν
def Env.never{F:Array Á}{C:bS}{G:Nat->Bool}(E:Env P F C G)(f:Å)(args:Array υ)(h:C.ok f=χ)(h':C.hole f=χ):bD (tw P F) (Go.callFunc f args):=by
 intro w a aa hr;rcases E.dead f h h' with e| ⟨fn,e,D⟩
 ·have e1:(tw P F).funcs[f]?=ν:=e
  simp[Go.callFunc,Go.program,bind,ϫ,Ϣ,e1,Go.stuck] at hr
 ·have e1:(tw P F).funcs[f]?=φ fn:=e
  have nm:¬fn.name= "runtime.NumGoroutine" :=λq=>by have:=D.name;rw[q] at this;simp at this
  simp[Go.callFunc,Go.program,Go.mark,bind,ϫ,Ϣ,e1,D.body,D.next,D.row,D.init,Go.unsupported,nm] at hr
def XN:∀(n:Nat) {v:υ},qS n v=θ->Flat v:=by
 intro n;induction n with
 |zero=>intro v h;simp[qS] at h
 |succ n ih=>
  intro v h;have arr:∀x:Array υ,x.all (qS n)=θ->aV (λ_ _=>False) x x:=λx hx=>bU.refl λa ha=>ih (by simpa using Ě.1 hx a ha)
  cases v<;>try(simp[qS] at h;done)
  case bool=>exact .bool _
  case int=>exact .int _ _
  case string=>exact .string _
  case pointer p=>cases p with
   |none=>exact .ptrNone
   |some=>simp[qS] at h
  case slice p n c=>cases p with
   |none=>exact .sliceNone _ _
   |some=>simp[qS] at h
  case map p=>cases p with
   |none=>exact .mapNone
   |some=>simp[qS] at h
  case chan p=>cases p with
   |none=>exact .chanNone
   |some=>simp[qS] at h
  case func fn x y=>
   cases fn<;>try(simp[qS] at h;done)
   simp[qS] at h;obtain⟨rfl,rfl⟩:=h;exact .func (.func _) rfl (by simp) rfl (by simp)
  case nilFunc=>exact .nilFunc
  case iface t v=>exact .iface t (ih (by simpa [qS] using h))
  case nilIface=>exact .nilIface
  case agg x=>exact ah.Ba (arr x (by simpa [qS] using h))
  case tuple x=>exact ah.tuple' (arr x (by simpa [qS] using h))
def wD(G:Nat->Bool)(ρ:Ren)(e e':Ç->υ):Prop:=∀x,vc G x=θ->ah ρ (e x) (e' x)
section
variable {P:Ϙ}{F:Array Á}{C:bS}{G:Nat->Bool}{ρ:Ren}
def Sim.val{s s':Sem υ}(h:Sim (tw P F) P C ρ ah s s'):Sim (tw P F) P C ρ (rh C) (do ϧ (ş (<-s))) (do ϧ (ş (<-s'))):=
 Sim.bind' h λ_ _ _ _ r=>Sim.pure' λ_ h2=>.value (r.mono h2)
def Sim.qX{s s':Sem υ}(h:Sim (tw P F) P C ρ ah s s'):gU (tw P F) P C ρ (rh C) (do ϧ (ş (<-s))) (do ϧ (ş (<-s'))):=(Sim.val h).rH
def Sim.UY{s s':Sem Unit}(h:Sim (tw P F) P C ρ (λ_ _ _=>True) s s'):gU (tw P F) P C ρ (rh C) (do s;ϧ Adn) (do s';ϧ Adn):=
 (Sim.bind' h λ_ _ _ _ _=>Sim.pure' λ_ _=>.skip).rH
def Sim.callFunc(E:Env P F C G)(f:Å){x x':Array υ}(h:aV ρ x x'):Sim (tw P F) P C ρ (rh C) (Go.callFunc f x) (Go.callFunc f x'):=by
 by_cases hf:C.ok f=θ
 ·obtain⟨fn,c,h1,h2,h3,h4,h5⟩:=E.get f hf
  unfold Go.callFunc;refine Sim.bind' Sim.program λcz l1 a b ⟨ha,hb⟩=>?_
  have e1:a.funcs[f]?=φ fn:=by rw[ha];exact h1
  have e2:b.funcs[f]?=φ fn:=by rw[hb];exact h2
  simp only[e1,e2,h5,h3,Aec,Ì,if_false];exact Sim.pure' λ_ l2=>.enter f hf (h.mono (Ren.le_trans l1 l2))
 ·by_cases hh:C.hole f=θ
  ·obtain⟨fn,fn',c,c',h1,h2,h3,h4,h5,h6⟩:=E.JL f hh
   unfold Go.callFunc;refine Sim.bind' Sim.program λcz l1 a b ⟨ha,hb⟩=>?_
   have e1:a.funcs[f]?=φ fn:=by rw[ha];exact h1
   have e2:b.funcs[f]?=φ fn':=by rw[hb];exact h2
   simp only[e1,e2,h5,h6,h3,h4,Aec,Ì,if_false];exact Sim.pure' λ_ l2=>.hole f hh (h.mono (Ren.le_trans l1 l2))
  ·exact Sim.never (E.never f x (by simpa using hf) (by simpa using hh))
def Sim.getLoop{l l':Nat}(h:ρ l l'):Sim (tw P F) P C ρ (Ff C) (Ada l) (Ada l'):=by
 unfold Ada;refine Sim.bind' (Sim.getObj h) λcz l1 o o' r=>?_
 cases r;case loop hl=>exact Sim.pure' λ_ l2=>hl.mono l2
 all_goals exact Sim.stuck
def foldl_rel{l:List (Tmp×υ)}{l':List (Tmp×υ)}(h:nj (λa b=>a.1=b.1/\ah ρ a.2 b.2) l l'):∀ {t t':Array υ},aV ρ t t'->
 aV ρ (l.foldl (λtmps (x:Tmp×υ)=>tmps.setIfInBounds x.1 x.2) t) (l'.foldl (λtmps (x:Tmp×υ)=>tmps.setIfInBounds x.1 x.2) t'):=by
 induction h with
 |nil=>exactλh=>h
 |cons hab _ ih=>
  intro t t' ht;simp only[List.foldl_cons];refine ih ?_
  rw[hab.1];exact bU.set ht _ hab.2
def Sim.yield{l l':Nat}(h:ρ l l'){x x':Array υ}(hx:aV ρ x x'):Sim (tw P F) P C ρ (rh C) (Adb l x) (Adb l' x'):=by
 unfold Adb;refine Sim.bind' (Sim.getLoop h) λcz l1 o o' r=>?_
 cases r with
 |mk st vW fn ps vw body ht hd ha hb hp=>
  simp only;rw[hx.1];split
  ·exact Sim.EU
  ·refine Sim.pure' λbP l2=>.round (l2 _ _ (l1 _ _ h)) fn ?_ ha hb
   simp only[<-Aar];refine foldl_rel ?_ (ht.mono l2)
   have:∀(ps:List Tmp) {x x':List υ},nj (ah bP) x x'->nj (λa b:Tmp×υ=>a.1=b.1/\ah bP a.2 b.2) (ps.zip x) (ps.zip x'):=by
    intro ps;induction ps with
    |nil=>intro x x' h;simp only[List.zip_nil_left];exact .nil
    |cons p ps ih=>
     intro x x' h;cases h with
     |nil=>simp only[List.zip_nil_right];exact .nil
     |cons hab t=>simp only[List.zip_cons_cons];exact .cons ⟨rfl,hab⟩ (ih t)
   simpa using this ps.toList (hx.mono (Ren.le_trans l1 l2)).vb
end
end Go.Sim
namespace Go.Sim
open Go
section
variable {P:Ϙ}{F:Array Á}{C:bS}{G:Nat->Bool}{ρ:Ren}{e e':Ç->υ}
def Sim.GB(E:Env P F C G)(hv:ah ρ v v'){x x':Array υ}(hx:aV ρ x x'):
 Sim (tw P F) P C ρ (rh C) (do let d <-Acg v x;Go.invoke d.target d.args) (do let d <-Acg v' x';Go.invoke d.target d.args):=by
 cases hv;case func fn fn' a a' b b' h ha h1 hb h2=>
  cases h with
  |func f=>exact Sim.callFunc E f ((bU.append ⟨ha,h1⟩ hx).append ⟨hb,h2⟩)
  |yield hl=>exact Sim.yield hl (bU.append ⟨ha,h1⟩ hx)
 case nilFunc=>exact Sim.never λw a aa hr=>tT (P':=tw P F) (α:=Next) .nilDeref w a aa hr
 case fjunk=>
  have e:(do let d <-Acg (.func (.method "") #[.nilIface] #[]) x;Go.invoke d.target d.args:Sem Next)=runtimePanic .nilDeref:=by
   show Go.invoke (.fn (.method "") #[]) (#[.nilIface]++x)=_;have h0:(#[Value.nilIface]++x)[0]?=φ .nilIface:=by rw[Aaw (by simp)];rfl
   unfold Go.invoke;simp only[h0,Go.callMethod]
  rw[e];exact Sim.never λw a aa hr=>tT (P':=tw P F) (α:=Next) .nilDeref w a aa hr
 all_goals exact Sim.EU
def abj{x:Array α}(h:x.size=1):∃a,x=#[a]:=⟨x[0],by
 apply Aat<;>simp[h]
 intro i h1;have:i=0:=by omega
 subst this;rfl⟩
def acJ{x:Array α}(h:x.size=2):∃a b,x=#[a,b]:=⟨x[0],x[1],by
 apply Aat<;>simp[h]
 intro i h1;have:i=0\/i=1:=by omega
 rcases this with rfl|rfl<;>exactλ_=>rfl⟩
def bU.inv1{R:α->β->Prop}{a:α}{b:β}(h:bU R #[a] #[b]):R a b:=h.2 0 (by simp) (by simp)
def bU.inv2{R:α->β->Prop}{a c:α}{b d:β}(h:bU R #[a,c] #[b,d]):R a b/\R c d:=⟨h.2 0 (by simp) (by simp),h.2 1 (by simp) (by simp)⟩
def Sim.builtin(E:Env P F C G)(b:Builtin)(ts:Array ό)(t:ό)(cs:Array Bool){x x':Array υ}(hx:aV ρ x x')(hb:Bg P ts x.size b=θ):
 Sim (tw P F) P C ρ (rh C) (Go.builtin b ts t cs x) (Go.builtin b ts t cs x'):=by
 have h1:x.size=1->∃a a',x=#[a]/\x'=#[a']/\ah ρ a a':=λh=>by
  obtain⟨a,rfl⟩:=abj h;obtain⟨a',rfl⟩:=abj (hx.1.symm.trans h);exact⟨a,a',rfl,rfl,hx.inv1⟩
 have h2:x.size=2->∃a b a' b',x=#[a,b]/\x'=#[a',b']/\ah ρ a a'/\ah ρ b b':=λh=>by
  obtain⟨a,b,rfl⟩:=acJ h;obtain⟨a',b',rfl⟩:=acJ (hx.1.symm.trans h);exact⟨a,b,a',b',rfl,rfl,hx.inv2⟩
 cases b<;>simp only[Bg,Ϫ,beq_iff_eq,reduceCtorEq] at hb
 case len=>
  obtain⟨a,a',rfl,rfl,ha⟩:=h1 hb;exact Sim.val (Sim.len ts t ha)
 case max=>exact Sim.val (Sim.max ts t hx)
 case min=>exact Sim.val (Sim.min ts t hx)
 case copy=>
  obtain⟨a,b,a',b',rfl,rfl,ha,hb⟩:=h2 hb;exact Sim.val (Sim.copy ts t ha hb)
 case clear=>
  obtain⟨a,a',rfl,rfl,ha⟩:=h1 hb;exact Sim.val (Sim.clear E.zg ts t ha)
 case append=>
  obtain⟨a,b,a',b',rfl,rfl,ha,hc⟩:=h2 hb.1;refine Sim.val (Sim.append E.zg ts t (λu hu k hk=>?_) ha hc)
  have:=hb.2;simp[Kv,hu,hk] at this
def LH{x:Array Ç}(h:x.all (vc G)=θ){o:Ç}(ho:o∈x):vc G o=θ:=by simpa using Ě.1 h o ho
def Nq(h:wD G ρ e e'){x:Array Ç}(hx:x.all (vc G)=θ):aV ρ (x.map e) (x.map e'):=by
 refine⟨by simp,λi h1 h2=>?_⟩
 simp only[Aap];exact h _ (LH hx (Aab _))
def aaX(h:wD G ρ e e'){x:Array (Nat×Ç)}(hx:∀p∈x,vc G p.2=θ):bU (Fh ρ) (x.map λ(i,o)=>(i,e o)) (x.map λ(i,o)=>(i,e' o)):=by
 refine⟨by simp,λi h1 h2=>?_⟩
 simp only[Aap];exact⟨rfl,h _ (hx _ (Aab _))⟩
def Tz(h:wD G ρ e e'){x:Option Ç}(hx:∀o,x=φ o->vc G o=θ):k8 (ah ρ) (x.map e) (x.map e'):=by
 cases x with
 |none=>exact .none
 |some o=>exact .some (h _ (hx o rfl))
def gU.execOp(E:Env P F C G)(o:Oper)(ho:qw P G o=θ)(h:wD G ρ e e'):gU (tw P F) P C ρ (rh C) (Go.execOp e o) (Go.execOp e' o):=by
 unfold qw at ho;rw[Ϫ] at ho;obtain⟨jy,ae⟩:=ho;unfold Go.execOp;have T:=E.zg;have mem:∀x,x∈o.op.operands->ah ρ (e x) (e' x):=λx hx=>h x (LH jy hx)
 have Cl:∀x,x∈o.op.operands->vc G x=θ:=λx hx=>LH jy hx
 generalize o.op=op at *;cases op<;>try(simp[o5] at ae;done)
 case move x=>exact Sim.rH (Sim.pure' λ_ l=>.value ((mem x (by simp[ϻ])).mono l))
 case assign x=>exact Sim.rH (Sim.pure' λ_ l=>.value ((mem x (by simp[ϻ])).mono l))
 case pick c a b=>
  refine Sim.rH (Sim.cF (Sim.asBool (mem c (by simp[ϻ]))) λcz l1 x=>Sim.pure' λbP l2=>.value ?_)
  cases x
  ·exact(mem b (by simp[ϻ])).mono (Ren.le_trans l1 l2)
  ·exact(mem a (by simp[ϻ])).mono (Ren.le_trans l1 l2)
 case alloc t=>exact Sim.qX (Sim.alloc T t)
 case box t x=>exact Sim.qX (Sim.box t (mem x (by simp[ϻ])))
 case build t ps=>exact Sim.qX (Sim.build T t (aaX h λp hp=>Cl p.2 (by simp[ϻ];exact⟨p.1,hp⟩)))
 case buildSlice t n ps=>exact Sim.qX (Sim.buildSlice T t n (aaX h λp hp=>Cl p.2 (by simp[ϻ];exact⟨p.1,hp⟩)))
 case load t a=>exact Sim.qX (Sim.loadAt t (mem a (by simp[ϻ])))
 case store t a x=>exact Sim.UY (Sim.storeAt t (mem a (by simp[ϻ])) (mem x (by simp[ϻ])))
 case binOp bop t x y yt=>
  refine Sim.qX (Sim.apq (n:=20) bop t (λhq=>?_) x y (mem x (by simp[ϻ])) (mem y (by simp[ϻ])))
  simp only[o5,IU,Bool.or_eq_true,Ϫ,Bool.not_eq_true'] at ae;rcases ae with ae|ae
  ·rcases hq with rfl|rfl<;>simp[aaq] at ae
  ·exact ae
 case unOp u t x=>
  cases u<;>try(simp[o5] at ae;done)
  exact Sim.qX (Sim.not (mem x (by simp[ϻ])))
 case nilCheck x=>
  have hx:=mem x (by simp[ϻ])
  simp only;generalize e x=v at hx |-
  generalize e' x=v' at hx |-
  have Ci:=hx;have np:∀ {s':Sem Next},gU (tw P F) P C ρ (rh C) (Go.runtimePanic .nilDeref:Sem Next) s':=Sim.rH (Sim.never λw a aa hr=>tT (P':=tw P F) (α:=Next) .nilDeref w a aa hr)
  cases hx;case func fn fn' _ _ _ _ hf _ _ _ _=>cases hf<;>exact Sim.rH (Sim.pure' λ_ l=>.value (ah.mono l Ci))
  case ptrNone=>exact np
  case nilIface=>exact np
  case nilFunc=>exact np
  case fjunk=>exact np
  case junk h hb hc=>
   have hv:ah ρ (μ #[]) v':=.junk h hb hc;have ok:gU (tw P F) P C ρ (rh C) (ϧ (ş (μ #[])):Sem Next) (ϧ (ş v')):=Sim.rH (Sim.pure' λ_ l=>.value (ah.mono l hv))
   cases v';case pointer x=>
    cases x
    ·exact absurd rfl hc.1
    ·exact ok
   case nilIface=>exact absurd rfl hc.2.1
   case nilFunc=>exact absurd rfl hc.2.2.1
   case func f x y=>exact absurd rfl (hc.2.2.2 f x y)
   all_goals exact ok
  all_goals exact Sim.rH (Sim.pure' λ_ l=>.value (ah.mono l Ci))
 case convert s d x=>
  refine Sim.qX (Sim.convert s d ?_ (mem x (by simp[ϻ])))
  simp only[o5,FG] at ae;split at ae
  ·exact .ints _ _ (by assumption) (by assumption)
  ·unfold Fx at ae
   split at ae
   ·exact .bytes _ (by assumption) (by assumption) (by assumption)
   ·cases ae
  ·cases ae
 case makeFunc fn a b=>
  cases fn<;>try(simp[o5] at ae;done)
  have ha:a.all (vc G)=θ:=Ě.2 λx hx=>by simpa using Cl x (by simp[ϻ,hx])
  have hb:b.all (vc G)=θ:=Ě.2 λx hx=>by simpa using Cl x (by simp[ϻ,hx])
  exact Sim.qX (Sim.makeFunc _ (Nq h ha) (Nq h hb))
 case makeMap t r=>
  cases r with
  |some=>simp[o5] at ae
  |none=>exact Sim.qX (Sim.anX t)
 case makeSlice t l c=>exact Sim.qX (Sim.makeSlice T t (mem l (by simp[ϻ])) (mem c (by simp[ϻ])))
 case slice t x lo hi mx=>
  exact Sim.qX (Sim.sliceAt t (mem x (by simp[ϻ])) (Tz h λo hx=>Cl o (by subst hx;simp[ϻ])) (Tz h λo hx=>Cl o (by subst hx;simp[ϻ])) (Tz h λo hx=>Cl o (by subst hx;simp[ϻ])))
 case fieldAddr s x i=>
  refine Sim.qX (Sim.fieldAt s (mem x (by simp[ϻ])) i λfs f h1 h2=>?_)
  simp only[o5,IX,h1,h2] at ae;cases hi: P.info? f.type with
  |none=>rw[hi] at ae;cases ae
  |some info=>exact⟨info,rfl,by rw[hi] at ae;simpa using ae⟩
 case field t x i=>exact Sim.qX (Sim.field t (mem x (by simp[ϻ])) i)
 case indexAddr t x i=>exact Sim.qX (Sim.indexAt t (mem x (by simp[ϻ])) (mem i (by simp[ϻ])))
 case index t x i=>exact Sim.qX (Sim.index t (mem x (by simp[ϻ])) (mem i (by simp[ϻ])))
 case lookup t x i ok=>
  refine Sim.qX (Sim.lookup T t (λk el hk=>⟨20,?_⟩) ok (mem x (by simp[ϻ])) (mem i (by simp[ϻ])))
  simpa [o5,EA,hk] using ae
 case mapUpdate t m k x=>
  refine gU.ae8 (f:=λ_=>Adn) (g:=λ_=>Adn) (gU.mapUpdate t (λk el hk=>⟨20,?_⟩) (mem m (by simp[ϻ])) (mem k (by simp[ϻ])) (mem x (by simp[ϻ]))) λ_ _ _ _=>.skip
  simpa [o5,EA,hk] using ae
 case extract x i=>exact Sim.qX (Sim.extract (mem x (by simp[ϻ])) i)
 case call c=>
  obtain⟨callee,args,ts⟩:=c;have ha:args.all (vc G)=θ:=Ě.2 λx hx=>by simpa using Cl x (by simp[ϻ,Call.operands,hx])
  cases callee with
  |invoke=>simp[o5] at ae
  |value f=>exact(Sim.GB E (mem f (by simp[ϻ,Call.operands])) (Nq h ha)).rH
  |builtin b=>exact(Sim.builtin E b ts _ _ (Nq h ha) (by simpa [o5] using ae)).rH
end
end Go.Sim
namespace Go.Sim
open Go
section
variable {P:Ϙ}{F:Array Á}{C:bS}{G:Nat->Bool}{ρ:Ren}
def Sim.enterLoop(fn:Å){t t':Array υ}(ht:aV ρ t t')(ps:Array Tmp){a b:ϑ}(ha:C.clean a)(hb:C.clean b){r r':Option Nat}(hr:k8 ρ r r'):
 Sim (tw P F) P C ρ (λρ x y=>ρ x.1 y.1/\nj (zo ρ) x.2 y.2) (Adc fn t ps a b r) (Adc fn t' ps a b r'):=by
 have last:∀ {cz:Ren},ρ.le cz->∀ {d d':Nat},cz d d'->∀ {m m':List Æ},nj (zo cz) m m'->Sim (tw P F) P C cz (λρ x y=>ρ x.1 y.1/\nj (zo ρ) x.2 y.2)
  (do ϧ (<-Go.newObj (.loop {state:=.ready,pending:=ν,fn,tmps:=t,params:=ps,assign:=a,body:=b,defers:=d}),m))
  (do ϧ (<-Go.newObj (.loop {state:=.ready,pending:=ν,fn,tmps:=t',params:=ps,assign:=a,body:=b,defers:=d'}),m')):=by
  intro cz l1 d d' hd m m' hm;refine Sim.bind' (Sim.newObj (.loop (.mk _ _ _ _ _ _ (ht.mono l1) hd ha hb (by simp)))) λbP l2 x y hxy=>Sim.pure' λgZ l3=>⟨l3 _ _ hxy,?_⟩
  exact hm.mono λ_ _ h=>by cases h with|collected h=>exact .collected (l3 _ _ (l2 _ _ h))
 unfold Adc;cases hr with
 |none=>
  simp only[pure_bind];exact Sim.bind' (Sim.newObj .calls) λcz l1 x y hxy=>last l1 hxy (.cons (.collected hxy) .nil)
 |some h=>
  simp only[pure_bind];refine Sim.bind' (Sim.getLoop h) λcz l1 o o' hl=>?_
  cases hl with
  |mk st vW fn ps vw body ht hd ha hb hp=>exact last l1 hd .nil
def Sim.beginRound{l l':Nat}(h:ρ l l'):Sim (tw P F) P C ρ (λ_ _ _=>True) (Ade l) (Ade l'):=by
 unfold Ade;refine Sim.bind' (Sim.getLoop h) λcz l1 o o' hl=>?_
 cases hl with
 |mk st vW fn ps vw body ht hd ha hb hp=>
  refine Sim.bind' (Sim.setObj (l1 _ _ h) (.loop (.mk _ _ _ _ _ _ ht hd ha hb hp))) λbP l2 _ _ _=>?_
  cases st
  ·exact Sim.pure' λ_ _=>trivial
  all_goals exact Sim.never (tT _)
def Sim.endRound{l l':Nat}(h:ρ l l')(j:Option ϑ)(hj:∀c,j=φ c->C.clean c):Sim (tw P F) P C ρ ah (Adf l j) (Adf l' j):=by
 unfold Adf;refine Sim.bind' (Sim.getLoop h) λcz l1 o o' hl=>?_
 cases hl with
 |mk st vW fn ps vw body ht hd ha hb hp=>
  exact Sim.bind' (Sim.setObj (l1 _ _ h) (.loop (.mk _ _ _ _ _ _ ht hd ha hb hj))) λbP l2 _ _ _=>Sim.pure' λ_ _=>.bool _
def Sim.endLoop{l l':Nat}(h:ρ l l'):Sim (tw P F) P C ρ (λ_ a b=>a=b/\∀c,a=φ c->C.clean c) (Adg l) (Adg l'):=by
 unfold Adg;refine Sim.bind' (Sim.getLoop h) λcz l1 o o' hl=>?_
 cases hl with
 |mk st vW fn ps vw body ht hd ha hb hp=>
  simp only;split
  ·exact Sim.never (bD.bind (tT _))
  ·exact Sim.bind' (Sim.setObj (l1 _ _ h) (.loop (.mk _ _ _ _ _ _ ht hd ha hb hp))) λbP l2 _ _ _=>Sim.pure' λ_ _=>⟨rfl,hp⟩
def Sim.takeDeferred{l l':Nat}(h:ρ l l'):Sim (tw P F) P C ρ (λ_ a b=>a=[]/\b=[]) (Œ l) (Œ l'):=by
 unfold Œ;refine Sim.bind' (Sim.getObj h) λcz l1 o o' ro=>?_
 cases ro;case calls=>exact Sim.bind' (Sim.setObj (l1 _ _ h) .Kt) λbP l2 _ _ _=>Sim.pure' λ_ _=>⟨rfl,rfl⟩
 all_goals exact Sim.stuck
def Sim.results(fn:Á){t t':Array υ}(ht:aV ρ t t'):Sim (tw P F) P C ρ ah (Go.results fn t) (Go.results fn t'):=by
 unfold Go.results;have:∀(l:List ResultVar) {cz:Ren},ρ.le cz->Sim (tw P F) P C cz (λρ=>nj (ah ρ)) (l.mapM λ
  | .tmp x=>ϧ (t.getD x ω)
  | .cell a ty=>do Go.loadVar ty (<-Go.asAddr (t.getD a ω)))
  (l.mapM λ
    | .tmp x=>ϧ (t'.getD x ω)
    | .cell a ty=>do Go.loadVar ty (<-Go.asAddr (t'.getD a ω))):=by
  intro l;induction l with
  |nil=>intro cz l1;simp only[List.mapM_nil];exact Sim.pure' λ_ _=>.nil
  |cons r l ih=>
   intro cz l1;simp only[List.mapM_cons];refine Sim.bind' (R:=ah) ?_ λbP l2 v v' hv=>Sim.bind' (ih (Ren.le_trans l1 l2)) λgZ l3 x x' hx=>Sim.pure' λrL l4=>.cons (hv.mono (Ren.le_trans l3 l4)) (hx.mono λ_ _ h=>h.mono l4)
   cases r with
   |tmp x=>exact Sim.pure' λbP l2=>bU.getD (ht.mono (Ren.le_trans l1 l2)) x .undef
   |cell a ty=>exact Sim.bind' (Sim.asAddr (bU.getD (ht.mono l1) a .undef)) λbP l2 _ _ hab=>Sim.loadVar ty hab
 rw[ĺ,ĺ,map_eq_pure_bind,map_eq_pure_bind,bind_assoc,bind_assoc];refine Sim.bind' (this fn.results.toList ρ.le_refl) λcz l1 x x' hx=>?_
 simp only[pure_bind];refine Sim.pure' λbP l2=>?_
 have hx:=hx.mono λ_ _ h=>ah.mono l2 h
 cases hx with
 |nil=>exact ah.tuple' .empty
 |cons hab t=>
  cases t with
  |nil=>exact hab
  |cons hcd t=>exact ah.tuple' (bU.apb (.cons hab (.cons hcd t)))
end
end Go.Sim
namespace Go.Sim
open Go
structure Tl where
 code:ϑ
 items:List Item
 defers:List Æ
 callers:List ϝ
 kind:CallKind
def fl:ϑ:=.refuse ""
def b6:Æ:={target:=.fn (.method "") #[],args:=#[]}
inductive Cut(C:bS)(S:Tl):ϑ->ϑ->Prop
 |stop:Cut C S fl S.code
 |seq {a b b':ϑ} (ha:C.clean a) (hb:Cut C S b b'):Cut C S (.seq a b) (.seq a b')
inductive rP(C:bS)(S:Tl)(ρ:Ren):Item->Item->Prop
 |code (c:ϑ) (h:C.clean c):rP C S ρ (.code c) (.code c)
 |cut {c c':ϑ} (h:Cut C S c c'):rP C S ρ (.code c) (.code c')
 |inBlock (id:Nat):rP C S ρ (.inBlock id) (.inBlock id)
 |inLoop (c:ϑ) (h:C.clean c):rP C S ρ (.inLoop c) (.inLoop c)
 |inScope (c:ϑ) (h:C.clean c):rP C S ρ (.inScope c) (.inScope c)
 |inRegion (id:Nat) (d:Bool) (ops:Array Oper) (todo:List Nat) (h:C.clean (.region id ops d)):rP C S ρ (.inRegion ops todo) (.inRegion ops todo)
 |inRangeFunc {l l':Nat} (h:ρ l l'):rP C S ρ (.inRangeFunc l) (.inRangeFunc l')
 |endRangeFunc {l l':Nat} (h:ρ l l'):rP C S ρ (.endRangeFunc l) (.endRangeFunc l')
 |beginRound:rP C S ρ .beginRound .beginRound
def rP.mono{C:bS}{S:Tl}{ρ ax:Ren}(h:ρ.le ax){a b:Item}(x:rP C S ρ a b):rP C S ax a b:=by
 cases x with
 |code c hc=>exact .code c hc
 |cut hc=>exact .cut hc
 |inBlock id=>exact .inBlock id
 |inLoop c hc=>exact .inLoop c hc
 |inScope c hc=>exact .inScope c hc
 |inRegion id d ops todo hc=>exact .inRegion id d ops todo hc
 |inRangeFunc hl=>exact .inRangeFunc (h _ _ hl)
 |endRangeFunc hl=>exact .endRangeFunc (h _ _ hl)
 |beginRound=>exact .beginRound
def zo.mono{ρ ax:Ren}(h:ρ.le ax){a b:Æ}(x:zo ρ a b):zo ax a b:=by
 cases x with|collected hr=>exact .collected (h _ _ hr)
inductive uC(C:bS)(S:Tl)(ρ:Ren):Bool->List Item->List Item->Prop
 |nil:uC C S ρ χ [] []
 |stop:uC C S ρ θ [.code fl] S.items
 |cons {b:Bool} {i i':Item} {k k':List Item} (h:rP C S ρ i i') (t:uC C S ρ b k k'):uC C S ρ b (i::k) (i'::k')
inductive pW(S:Tl)(ρ:Ren):Bool->List Æ->List Æ->Prop
 |nil:pW S ρ χ [] []
 |stop:pW S ρ θ [b6] S.defers
 |cons {b:Bool} {d d':Æ} {k k':List Æ} (h:zo ρ d d') (t:pW S ρ b k k'):pW S ρ b (d::k) (d'::k')
def uC.mono{C:bS}{S:Tl}{ρ ax:Ren}(h:ρ.le ax){b:Bool}{k k':List Item}(x:uC C S ρ b k k'):uC C S ax b k k':=by
 induction x with
 |nil=>exact .nil
 |stop=>exact .stop
 |cons hi _ ih=>exact .cons (hi.mono h) ih
def pW.mono{S:Tl}{ρ ax:Ren}(h:ρ.le ax){b:Bool}{k k':List Æ}(x:pW S ρ b k k'):pW S ax b k k':=by
 induction x with
 |nil=>exact .nil
 |stop=>exact .stop
 |cons hi _ ih=>exact .cons (hi.mono h) ih
def pW.app{S:Tl}{ρ:Ren}{m m' k k':List Æ}(h:nj (zo ρ) m m')(x:pW S ρ b k k'):pW S ρ b (m++k) (m'++k'):=by
 induction h with
 |nil=>exact x
 |cons hd _ ih=>exact .cons hd ih
inductive PO:FrameMode->Prop
 |run:PO .run
 |returning:PO .returning
structure Fit(C:bS)(K:CallKind)(b:Bool)(f:Å)(r:Option Nat)(m:FrameMode)(kg:CallKind):Prop where
 ok:b=χ->r=ν->C.ok f=θ
 base:b=θ->r=ν
 round:r≠ν->m=.run
 kind:b=χ->kg=.normal
 early:(kg==.early)=χ
 ID:b=θ->kg=K
inductive gT(C:bS)(S:Tl)(ρ:Ren)(b:Bool):ϝ->ϝ->Prop
 |mk (f:Å) {t t':Array υ} (ht:aV ρ t t') {k k':List Item} (hk:uC C S ρ b k k') {d d':List Æ} (hd:pW S ρ b d d')
   {m:FrameMode} (hm:PO m) {r r':Option Nat} (hr:k8 ρ r r') {kg:CallKind} (hf:Fit C S.kind b f r m kg):gT C S ρ b ⟨f,t,k,d,m,.normal,r⟩ ⟨f,t',k',d',m,kg,r'⟩
def gT.mono{C:bS}{S:Tl}{ρ ax:Ren}(h:ρ.le ax){q:Bool}{a b:ϝ}(x:gT C S ρ q a b):gT C S ax q a b:=by
 cases x with
 |mk f ht hk hd hm hr hf=>
  refine .mk f (ht.mono h) (hk.mono h) (hd.mono h) hm ?_ hf
  cases hr with
  |none=>exact .none
  |some hr=>exact .some (h _ _ hr)
inductive Below(C:bS)(S:Tl)(ρ:Ren):Bool->List ϝ->List ϝ->Prop
 |base:Below C S ρ θ [] S.callers
 |call {b:Bool} {fr ba:ϝ} {cs bp:List ϝ} (h:gT C S ρ b fr ba) (au:fr.todo≠ [.code fl]) (t:Below C S ρ b cs bp):Below C S ρ χ (fr::cs) (ba::bp)
def Below.mono{C:bS}{S:Tl}{ρ ax:Ren}(h:ρ.le ax){q:Bool}{a b:List ϝ}(x:Below C S ρ q a b):Below C S ax q a b:=by
 induction x with
 |base=>exact .base
 |call hf au _ ih=>exact .call (hf.mono h) au ih
abbrev aR(fr:ϝ)(cs:List ϝ):ϐ:={frame:=fr,callers:=cs,status:=.running,dying:=ν}
inductive zu(P P':Ϙ)(C:bS)(S:Tl)(ρ:Ren):ϐ->ϐ->Prop
 |inside {b:Bool} {fr ba:ϝ} {cs bp:List ϝ} (h:gT C S ρ b fr ba) (hL:Below C S ρ b cs bp):zu P P' C S ρ (aR fr cs) (aR ba bp)
 |hole {b:Bool} (f:Å) (hf:C.hole f=θ) {x x':Array υ} (hx:aV ρ x x') {fr ba:ϝ} {cs bp:List ϝ} (h:gT C S ρ b fr ba) (au:fr.todo≠ [.code fl]) (hL:Below C S ρ b cs bp):
   zu P P' C S ρ (aR (í P' f x .normal) (fr::cs)) (aR (í P f x' .normal) (ba::bp))
section
variable {P:Ϙ}{F:Array Á}{C:bS}{S:Tl}{G:Nat->Bool}{ρ:Ren}
def rP.Xo{c c':ϑ}(h:Cut C S c c'):c=fl\/∃a b b',c=.seq a b/\c'=.seq a b'/\C.clean a/\Cut C S b b':=by
 cases h with
 |stop=>exact .inl rfl
 |seq ha hb=>exact .inr ⟨_,_,_,rfl,rfl,ha,hb⟩
def IZ(h:gT C S ρ q fr ba)(hv:ah ρ v v')(au:fr.todo≠ [.code fl]):gT C S ρ q (fr.finish v) (ba.finish v'):=by
 cases h with
 |mk f ht hk hd hm hr hf=>
  cases hk with
  |nil=>exact .mk f ht .nil hd hm hr hf
  |stop=>exact absurd rfl au
  |cons hi hk=>
   cases hi with
   |inRegion id d ops todo hc=>
    cases todo with
    |nil=>exact .mk f ht (.cons (.inRegion id d _ _ hc) hk) hd hm hr hf
    |cons i rest=>
     unfold Ē;simp only;cases(ops[i]?).bind (·.dst) with
     |none=>exact .mk f ht (.cons (.inRegion id d _ _ hc) hk) hd hm hr hf
     |some x=>exact .mk f (bU.set ht _ hv) (.cons (.inRegion id d _ _ hc) hk) hd hm hr hf
   |inRangeFunc hl=>exact .mk f ht (.cons (.endRangeFunc hl) hk) hd hm hr hf
   |beginRound=>exact .mk f ht hk hd hm hr hf
   |code c hc=>exact .mk f ht (.cons (.code c hc) hk) hd hm hr hf
   |cut hc=>exact .mk f ht (.cons (.cut hc) hk) hd hm hr hf
   |inBlock id=>exact .mk f ht (.cons (.inBlock id) hk) hd hm hr hf
   |inLoop c hc=>exact .mk f ht (.cons (.inLoop c hc) hk) hd hm hr hf
   |inScope c hc=>exact .mk f ht (.cons (.inScope c hc) hk) hd hm hr hf
   |endRangeFunc hl=>exact .mk f ht (.cons (.endRangeFunc hl) hk) hd hm hr hf
def ahm(E:Env P F C G)(f:Å)(hf:C.ok f=θ){x x':Array υ}(hx:aV ρ x x'):gT C S ρ χ (í (tw P F) f x .normal) (í P f x' .normal):=by
 obtain⟨fn,c,h1,h2,h3,h4,h5⟩:=E.get f hf;have e1:(tw P F).funcs[f]?=φ fn:=h1;unfold í;simp only[e1,h2,h3,Option.map_some,Option.bind_some,Option.getD_some];rw[<-hx.1];exact .mk f (hx.append (bU.refl λa ha=>by rw[(Aav.1 ha).2];exact .undef)) (.cons (.code c ((E.clean c).2 h4)) .nil) .nil .run .none ⟨λ_ _=>hf,by simp,by simp,λ_=>rfl,rfl,λh=>by simp at h⟩
def I3{t:Array υ}{f:Å}{k k':List Item}{d d':List Æ}{m:FrameMode}{r r':Option Nat}{kd kg:CallKind}(hG:∀g,G g=θ->ρ g g)(ht:aV ρ t t'):
 wD G ρ (Ü ⟨f,t,k,d,m,kd,r⟩) (Ü ⟨f,t',k',d',m,kg,r'⟩):=by
 intro x hx;cases x with
 |tmp t=>exact bU.getD ht _ .undef
 |const v=>exact(XN 10 hx).rel ρ
 |global g=>exact .ptr ⟨hG g hx,rfl,rfl⟩
 |func f=>exact .func (.func f) rfl (by simp) rfl (by simp)
def Plain(g:ϐ):Prop:=(∃fr cs,g=aR fr cs)/\∀ch,g.frame.mode≠ .panicking ch
def fD(P:Ϙ)(F:Array Á)(C:bS)(S:Tl)(ρ:Ren)(w w':Ψ)(s s':ô):Prop:=
 ∀fE aa es,s=.go fE aa es->Plain fE->∃bK ic aC es',s'=.go ic aC es'/\zu P (tw P F) C S bK fE ic/\bX C bK aa aC/\Trans ρ bK w w' aa aC/\∀e∈es',wE bK w e
def fD.pure(hw:ot C ρ w w')(h:zu P (tw P F) C S ρ g g'):fD P F C S ρ w w' (.go g w es) (.go g' w' #[]):=by
 intro fE aa es e _;cases e;exact⟨ρ,_,_,_,rfl,h,hw.core,Trans.refl ..,by simp⟩
def fD.ended{w w' ao:Ψ}{o:Outcome}{es:Array Í}{s':ô}:fD P F C S ρ w w' (.ended o ao es) s':=by
 intro fE aa es e;cases e
def mem_seen(h:e∈seen p fn es):e∈es:=by
 unfold seen at h;simp only at h;rw[<-Aar] at h;have:∀(l:List Í) (q:Bool) (kept:Array Í),e∈(l.foldl (init:=(q,kept)) λ(x:Bool×Array Í) e=>
  match x with
  | (q,kept)=>match e.loc with
    | .mark (.extern f)=>((p.funcs[f]?).any (·.norace),kept)
    |_=>(q,if q && !e.sync then kept else kept.push e)).2->e∈l\/e∈kept:=by
  intro l;induction l with
  |nil=>intro q kept h;exact .inr h
  |cons a l ih=>
   intro q kept h;simp only[List.foldl_cons] at h;split at h
   ·rcases ih _ _ h with h|h
    ·exact .inl (by simp[h])
    ·exact .inr h
   ·rcases ih _ _ h with h|h
    ·exact .inl (by simp[h])
    ·split at h
     ·exact .inr h
     ·rcases Array.mem_push.1 h with h|h
      ·exact .inr h
      ·exact .inl (by simp[h])
 rcases this _ _ _ h with h|h
 ·simpa using h
 ·simp at h
end
def raise_mode(fr:ϝ)(vs:List Abt):∃ch,(fr.raise vs).mode=.panicking ch:=by
 unfold Ack;split<;>exact⟨_,rfl⟩
def PX{es':Array Í}{s:ô}(h:Þ es s=.go g w es'):∃e,s=.go g w e:=by
 cases s<;>simp only[Þ,reduceCtorEq,ĥ] at h
 obtain⟨rfl,rfl,_⟩:=h;exact⟨_,rfl⟩
section
variable {P:Ϙ}{F:Array Á}{C:bS}{S:Tl}{G:Nat->Bool}{ρ:Ren}
def ahf(E:Env P F C G)(fr:ϝ)(cs:List ϝ)(d:Option Dying)(g:Nat)(w:Ψ):∃o w' es,early (tw P F) fr cs d g w=.ended o w' es:=by
 unfold early;simp only[E.ahead,E.steps g,Aa4,Ì,if_false];exact⟨_,_,_,rfl⟩
def ahk{d:Option Dying}(h:endFatal p fr cs d m w=.go g aa es):∀fr cs,g≠aR fr cs:=by
 unfold endFatal at h;simp only at h;split at h
 ·unfold dieOf at h
  simp only[ĥ] at h;obtain⟨rfl,_⟩:=h;intro fr cs e;simp at e
 ·cases h
 ·cases h
def ahl(h:endThrow fr m w=.go g aa es):∀fr cs,g≠aR fr cs:=by
 unfold endThrow dieOf at h;simp only[ĥ] at h;obtain⟨rfl,_⟩:=h;intro fr cs e;simp at e
def P3(E:Env P F C G)(hw:ot C ρ w w')(bY:gT C S ρ q fr ba)(au:fr.todo≠ [.code fl])(hL:Below C S ρ q cs bp)
 {s':Sem Next}(hs:gU (tw P F) P C ρ (rh C) s s')(b:Bool):
 fD P F C S ρ w w' (Õ (tw P F) b fr cs ν s w) (Õ P θ ba bp ν s' w'):=by
 intro fE aa es h hg;obtain⟨⟨qh,rW,rfl⟩,hm⟩:=hg;have key:∃pr:Č Next×Array Í,pr.1=s.run (tw P F) w/\(if b=θ then s.runT (tw P F) w #[] else(s.run (tw P F) w,#[]))=pr:=⟨_,by cases b<;>simp,rfl⟩
 obtain⟨⟨r,es0⟩,e1,e2⟩:=key;unfold Õ at h;simp only[e2] at h;obtain⟨es1,h⟩:=PX h;simp only at e1;cases hr:s.run (tw P F) w with
 |halt x ao=>
  rw[hr] at e1;subst e1;exfalso;cases x with
  |panic v=>
   simp only[ĥ,aR,Aco] at h;obtain⟨⟨rfl,_⟩,_⟩:=h;obtain⟨ch,e⟩:=raise_mode fr [{v,recovered:=χ}];exact hm ch e
  |goexit=>
   simp only[ĥ,aR,Aco] at h;obtain⟨⟨rfl,_⟩,_⟩:=h;obtain⟨ch,e⟩:=raise_mode fr [goexitEntry];exact hm ch e
  |blocked=>simp[aR] at h
  |waiting=>simp[aR] at h
  |exit=>simp at h
  |fatal m=>exact ahk h _ _ rfl
  |throw m=>exact ahl h _ _ rfl
  |unsupported u=>
   by_cases hu:∃g,u=.initOrder g
   ·obtain⟨g,rfl⟩:=hu
    obtain⟨o,w',es,e⟩:=ahf E fr cs ν g ao;simp only[e] at h;cases h
   ·cases u<;>first| (exact hu ⟨_,rfl⟩) | (simp at h)
  |stuck=>simp at h
 |ok n ao=>
  rw[hr] at e1;subst e1;obtain⟨bK,n',ij,iy,k1,k2,k3,k4,k5⟩:=hs ρ ρ.le_refl w w' #[] hw n ao hr;have sM:=bY.mono k4.le;have tF:=hL.mono k4.le;have sub:∀e∈seen P ba.fn (if(ba.kind==CallKind.early)=θ then #[] else iy),wE bK w e:=λe he=>by
   have:=mem_seen he;split at this
   ·simp at this
   ·exact k5 e this
  unfold Õ;simp only[if_true,k1,Array.empty_append];cases k2 with
  |value hv=>
   simp only[ĥ] at h;obtain⟨e,rfl,_⟩:=h;rw[<-e];exact⟨bK,_,_,_,rfl,.inside (IZ sM hv au) tF,k3,k4,by simpa using sub⟩
  |skip=>
   simp only[ĥ] at h;obtain⟨e,rfl,_⟩:=h;rw[<-e];exact⟨bK,_,_,_,rfl,.inside (IZ sM .undef au) tF,k3,k4,by simpa using sub⟩
  |enter f hf hx=>
   simp only[ĥ] at h;obtain⟨e,rfl,_⟩:=h;rw[<-e];have fin:=zu.inside (P:=P) (P':=tw P F) (ahm (S:=S) E f hf hx) (.call sM au tF);cases bY with
   |mk f0 ht hk hd hm' JO ME=>
    cases hk with
    |nil=>exact⟨bK,_,_,_,rfl,fin,k3,k4,by simpa using sub⟩
    |stop=>exact absurd rfl au
    |cons hi hk=>cases hi<;>exact⟨bK,_,_,_,rfl,fin,k3,k4,by simpa using sub⟩
  |hole f hf hx=>
   simp only[ĥ] at h;obtain⟨e,rfl,_⟩:=h;rw[<-e];have fin:=zu.hole (P:=P) (P':=tw P F) f hf hx sM au tF;cases bY with
   |mk f0 ht hk hd hm' JO ME=>
    cases hk with
    |nil=>exact⟨bK,_,_,_,rfl,fin,k3,k4,by simpa using sub⟩
    |stop=>exact absurd rfl au
    |cons hi hk=>cases hi<;>exact⟨bK,_,_,_,rfl,fin,k3,k4,by simpa using sub⟩
  |round hl f hx ha hb=>
   simp only[ĥ] at h;obtain⟨e,rfl,_⟩:=h;rw[<-e];exact⟨bK,_,_,_,rfl,.inside (.mk f hx (.cons (.code _ ha) (.cons .beginRound (.cons (.code _ hb) .nil))) .nil .run (.some hl) ⟨by simp,by simp,by simp,λ_=>rfl,rfl,λh=>by simp at h⟩) (.call sM au tF),k3,k4,by simpa using sub⟩
end
end Go.Sim
namespace Go.Sim
open Go
section
variable {P:Ϙ}{F:Array Á}{C:bS}{S:Tl}{G:Nat->Bool}{ρ:Ren}
def fD.step{w w' ao ij:Ψ}{bK:Ren}(ht:Trans ρ bK w w' ao ij){iy es:Array Í}(hn:∀e∈iy,wE bK w e){s s':ô}(h:fD P F C S bK ao ij s s'):
 fD P F C S ρ w w' (Þ es s) (Þ iy s'):=by
 intro fE aa es1 e hp;obtain⟨e2,e⟩:=PX e;obtain⟨Ig,ic,aC,es',h1,h2,h3,h4,h5⟩:=h fE aa e2 e hp;refine⟨Ig,ic,aC,iy++es',by rw[h1];rfl,h2,h3,ht.trans h4,λx hx=>?_⟩
 rcases Aad.1 hx with hx|hx
 ·exact(hn x hx).mono h4.le
 ·exact(h5 x hx).back ht
def fD.AA(hw:ot C ρ w w'){R:Ren->α->β->Prop}{s:Sem α}{s':Sem β}(hs:Sim (tw P F) P C ρ R s s')
 {k:Č α->ô}{k':Č β->ô}(hh:∀h ao g aa es,k (.halt h ao)=.go g aa es->¬Plain g)
 (hk:∀bK ao ij a b,ρ.le bK->ot C bK ao ij->R bK a b->fD P F C S bK ao ij (k (.ok a ao)) (k' (.ok b ij))):
 fD P F C S ρ w w' (Þ (seen (tw P F) fn (s.runT (tw P F) w #[]).2) (k (s.runT (tw P F) w #[]).1)) (Þ (seen P fn (s'.runT P w' #[]).2) (k' (s'.runT P w' #[]).1)):=by
 rw[Ady];cases hr:s.run (tw P F) w with
 |halt x ao=>
  intro fE aa es e hp;obtain⟨e2,e⟩:=PX e;exact(hh _ _ _ _ _ e hp).elim
 |ok a ao=>
  obtain⟨bK,b,ij,iy,k1,k2,k3,k4,k5⟩:=hs ρ ρ.le_refl w w' #[] hw a ao hr;rw[k1];exact fD.step k4 (λe he=>k5 e (by simpa using mem_seen he)) (hk bK ao ij a b k4.le k3 k2)
def Xt(hw:ot C ρ w w')(bY:gT C S ρ χ fr ba)(hL:Below C S ρ χ cs bp)(hv:ah ρ v v')(m m':Bool):
 fD P F C S ρ w w' (ĭ (tw P F) m fr cs ν v w) (ĭ P m' ba bp ν v' w'):=by
 cases bY with
 |mk f ht hk hd hm hr hf=>
  cases hL with
  |call hq au hL=>
   have:=hf.kind rfl;subst this;exact fD.pure hw (.inside (IZ hq hv au) hL)
def ah1(id:Nat){k k':List Item}(h:uC C S ρ b k k'):(exitTo id k=ν/\(b=χ->exitTo id k'=ν))\/∃k₁ GD,exitTo id k=φ k₁/\exitTo id k'=φ GD/\uC C S ρ b k₁ GD:=by
 induction h with
 |nil=>exact .inl ⟨rfl,λ_=>rfl⟩
 |stop=>exact .inl ⟨rfl,λh=>by cases h⟩
 |cons hi hk ih=>
  cases hi<;>try exact ih
  case inBlock id'=>
   unfold exitTo;split
   ·exact .inr ⟨_,_,rfl,rfl,hk⟩
   ·exact ih
def atH(ops:Array Oper){t:Array υ}(ht:aV ρ t t'):yielded ops t=yielded ops t':=by
 funext j;unfold yielded;cases(ops[j]?).bind (·.dst) with
 |none=>rfl
 |some x=>
  simp only[Option.bind_some];rcases ht.get? x with⟨e1,e2⟩ | ⟨a,b,e1,e2,hab⟩
  ·rw[e1,e2]
  ·rw[e1,e2]
   cases hab<;>try rfl
   case junk h hb _=>
    cases b<;>first|rfl|exact absurd rfl (hb _)
def ao0(p:Ϙ)(fr:ϝ)(cs:List ϝ)(dy:Option Dying)(w:Ψ):∃o aa es,ě p fr cs dy b6 w=.ended o aa es:=by
 unfold ě b6;simp[Go.invoke,Go.stuck,Ϧ,bind,ϫ,Þ]
def asX(E:Env P F C G)(hw:ot C ρ w w')(bY:gT C S ρ b fr ba)(xj:fr.mode=.returning)(hL:Below C S ρ b cs bp)(m m':Bool):
 fD P F C S ρ w w' (Î (tw P F) m fr cs ν w) (Î P m' ba bp ν w'):=by
 cases bY with
 | @mk f t t' ht k k' hk d d' hd md hm ro pd hr kg hf=>
   simp only at xj;subst xj;have JP:ro=ν:=by
    rcases Aed ro with e| ⟨x,e⟩
    ·exact e
    ·exact absurd (hf.round (by simp[e])) (by simp)
   subst JP;cases hd with
   |nil=>
    obtain⟨fn,cd,h1,h2,h3,h4,h5⟩:=E.get f (hf.ok rfl rfl);have e1:(tw P F).funcs[f]?=φ fn:=h1;unfold Î;simp only[e1,h2];refine fD.AA hw (Sim.results fn ht) (k:=λr=>match r with
     | .ok v w=>ĭ (tw P F) m _ cs ν v w
     | .halt (.stuck s) w=>.ended (.stuck s _) w
     | .halt _ w=>.ended (.stuck "return: the result variables cannot be read" _) w) (k':=λr=>match r with
     | .ok v w=>ĭ P m' _ bp ν v w
     | .halt (.stuck s) w=>.ended (.stuck s _) w
     | .halt _ w=>.ended (.stuck "return: the result variables cannot be read" _) w) (λh ao g aa es e=>?_) λbK ao ij a b l2 iw hab=>?_
    ·cases h<;>simp at e
    ·exact Xt iw ((gT.mk f ht hk .nil hm hr hf).mono l2) (hL.mono l2) hab m m'
   |stop=>
    intro fE aa es e hp;obtain⟨o,ao,aum,h⟩:=ao0 (tw P F) (⟨f,t,k,[],.returning,.normal,ν⟩) cs ν w;have e':ě (tw P F) (⟨f,t,k,[],.returning,.normal,ν⟩) cs ν b6 w=.go fE aa es:=e;rw[h] at e';cases e'
   |cons hi hd=>
    cases hi with
    |collected hb=>
     refine fD.AA hw (Sim.takeDeferred hb) (k:=λr=>match r with
      | .ok calls w=>.go {frame:={ (⟨f,t,k,_,.returning,.normal,ν⟩:ϝ) with defers:=calls++_},callers:=cs,status:=.running,dying:=ν} w
      | .halt _ w=>.ended (.stuck "the deferred calls of a range-over-func loop have been taken" _) w) (k':=λr=>match r with
      | .ok calls w=>.go {frame:={ (⟨f,t',k',_,.returning,kg,pd⟩:ϝ) with defers:=calls++_},callers:=bp,status:=.running,dying:=ν} w
      | .halt _ w=>.ended (.stuck "the deferred calls of a range-over-func loop have been taken" _) w) (λh ao g aa es e=>?_) λbK ao ij a b l2 iw hab=>?_
     ·simp at e
     ·obtain⟨rfl,rfl⟩:=hab
      exact fD.pure iw (.inside ((gT.mk f ht hk hd hm hr hf).mono l2) (hL.mono l2))
def Kk(p:Ϙ)(main:Bool)(fr:ϝ)(callers:List ϝ)(w:Ψ)(jump:Option ϑ):ô:=
 match fr.roundOf with
 |none=>if(match jump with|none|some .ret=>θ|_=>χ)=θ then .go {frame:={fr with mode:=.returning},callers,status:=.running,dying:=ν} w else .ended (.stuck "exit, goto: no such block or label" (fr.pos p)) w
 |some l=>
  Þ (seen p fr.fn ((Adf l jump).runT p w #[]).2)<|match((Adf l jump).runT p w #[]).1 with
  | .ok v w=>ĭ p main fr callers ν v w
  | .halt _ w=>.ended (.stuck "range over a function: no such loop" (fr.pos p)) w
def Tp(hw:ot C ρ w w')(bY:gT C S ρ b fr ba)(hL:Below C S ρ b cs bp)(m m':Bool)(j:Option ϑ)(hj:∀c,j=φ c->C.clean c):
 fD P F C S ρ w w' (Kk (tw P F) m fr cs w j) (Kk P m' ba bp w' j):=by
 have nH:=bY;cases bY with
 | @mk f t t' ht k k' hk d d' hd md hm ro pd hr kg hf=>
   unfold Kk;cases hr with
   |none=>
    simp only;split
    ·exact fD.pure hw (.inside (.mk f ht hk hd .returning .none ⟨hf.ok,hf.base,by simp,hf.kind,hf.early,hf.ID⟩) hL)
    ·exact fD.pure hw (.inside (.mk f ht hk hd .returning .none ⟨hf.ok,hf.base,by simp,hf.kind,hf.early,hf.ID⟩) hL)
    ·exact fD.ended
   |some hl=>
    have hb:b=χ:=by
     cases b with
     |false=>rfl
     |true=>exact absurd (hf.base rfl) (by simp)
    subst hb;simp only;refine fD.AA hw (Sim.endRound hl j hj) (k:=λr=>match r with
     | .ok v w=>ĭ (tw P F) m _ cs ν v w
     | .halt _ w=>.ended (.stuck "range over a function: no such loop" _) w) (k':=λr=>match r with
     | .ok v w=>ĭ P m' _ bp ν v w
     | .halt _ w=>.ended (.stuck "range over a function: no such loop" _) w) (λh ao g aa es e=>?_) λbK ao ij a b l2 iw hab=>?_
    ·simp at e
    ·exact Xt iw (nH.mono l2) (hL.mono l2) hab m m'
def ahY(E:Env P F C G)(hG:∀g,G g=θ->ρ g g)(hw:ot C ρ w w')(bY:gT C S ρ q fr ba)(xj:fr.mode=.run)(hL:Below C S ρ q cs bp)(m m' b:Bool):
 fD P F C S ρ w w' (Θ (tw P F) m b fr cs ν w) (Θ P m' θ ba bp ν w'):=by
 have nH:=bY;cases bY with
 | @mk f t t' ht k k' hk d d' hd md hm ro pd hr kg hf=>
   simp only at xj;subst xj;have cl:∀ {c},C.clean c->cy P G c=θ:=λh=>(E.clean _).1 h
   have lc:∀ {c},cy P G c=θ->C.clean c:=λh=>(E.clean _).2 h
   have ak4:∀c,φ Code.ret=φ c->C.clean c:=λc e=>by cases e;exact lc rfl
   have pu:∀ {k₁ GD:List Item},uC C S ρ q k₁ GD->fD P F C S ρ w w' (.go (aR ⟨f,t,k₁,d,.run,.normal,ro⟩ cs) w) (.go (aR ⟨f,t',GD,d',.run,kg,pd⟩ bp) w'):=
    λSb=>fD.pure hw (.inside (.mk f ht Sb hd .run hr hf) hL)
   have ev:∀ {k k':List Item} {d d':List Æ} {r r':Option Nat},wD G ρ (Ü ⟨f,t,k,d,.run,.normal,r⟩) (Ü ⟨f,t',k',d',.run,kg,r'⟩):=I3 hG ht
   cases hk with
   |nil=>exact Tp hw nH hL m m' ν (by simp)
   |stop=>exact fD.ended
   | @cons _ i i' k k' hi hk=>
     cases hi with
     |inBlock id=>exact pu hk
     |inScope c hc=>exact pu hk
     |inLoop c hc=>exact pu (.cons (.code c hc) (.cons (.inLoop c hc) hk))
     |inRangeFunc hl=>exact fD.ended
     |beginRound=>
      refine P3 E hw nH (by simp) hL (Sim.UY ?_) b
      cases hr with
      |none=>exact Sim.stuck
      |some hl=>exact Sim.beginRound hl
     |endRangeFunc hl=>
      refine fD.AA hw (Sim.endLoop hl) (k:=λr=>match r with
       | .ok jump w=>.go (aR ⟨f,t,(jump.map Item.code).toList++k,d,.run,.normal,ro⟩ cs) w
       | .halt (.panic v) w=>.go (aR ((⟨f,t,_,d,.run,.normal,ro⟩:ϝ).raise [{v,recovered:=χ}]) cs) w
       | .halt _ w=>.ended (.stuck "range over a function: no such loop" _) w) (k':=λr=>match r with
       | .ok jump w=>.go (aR ⟨f,t',(jump.map Item.code).toList++k',d',.run,kg,pd⟩ bp) w
       | .halt (.panic v) w=>.go (aR ((⟨f,t',_,d',.run,kg,pd⟩:ϝ).raise [{v,recovered:=χ}]) bp) w
       | .halt _ w=>.ended (.stuck "range over a function: no such loop" _) w) (λh ao g aa es e hp=>?_) λbK ao ij a b l2 iw hab=>?_
      ·cases h<;>simp only[reduceCtorEq,ĥ] at e
       obtain⟨rfl,_⟩:=e;obtain⟨ch,e⟩:=raise_mode ⟨f,t,_,d,.run,.normal,ro⟩ _;exact hp.2 ch e
      ·obtain⟨rfl,hc⟩:=hab
       have dq:=hk.mono l2;cases a with
       |none=>exact fD.pure iw (.inside ((gT.mk f ht hk hd .run hr hf).mono l2) (hL.mono l2))
       |some cd=>exact fD.pure iw (.inside ((gT.mk f ht (.cons (.code cd (hc cd rfl)) hk) hd .run hr hf).mono l2) (hL.mono l2))
     |inRegion id dr ops todo hc=>
      cases todo with
      |nil=>exact pu hk
      |cons i rest=>
       have D8:ops.all (qw P G)=θ:=cl hc;unfold Θ;simp only[atH ops ht];split
       ·unfold stepG.oper
        simp only[Frame.oper?];cases ho:ops[i]? with
        |none=>exact fD.ended
        |some o=>
         have sP:o∈ops:= Ļ ho;have rA:qw P G o=θ:=by simpa using Ě.1 D8 o sP
         have tL:∀q,o.op≠ .defer q:=λq e=>by simp[qw,o5,e] at rA
         have hs:=gU.execOp E o rA (ev (k:=.inRegion ops (i::rest)::k) (k':=.inRegion ops (i::rest)::k') (d:=d) (d':=d') (r:=ro) (r':=pd));have:=P3 E hw nH (by simp) hL hs b
         simp only;cases hr with
         |none=>exact this
         |some hl=>
          cases ae:o.op<;>first|exact absurd ae (tL _) |exact this
       ·exact fD.pure hw (.inside (IZ nH .undef (by simp)) hL)
     |cut hc=>
      rcases rP.Xo hc with rfl| ⟨x,y,y',rfl,rfl,ha,hb⟩
      ·exact fD.ended
      ·exact pu (.cons (.code x ha) (.cons (.cut hb) hk))
     |code cd hc=>
      have mH:=cl hc;cases cd with
      |skip=>exact pu hk
      |label l=>exact pu hk
      |ret=>exact Tp hw nH hL m m' (φ .ret) ak4
      |seq x y=>
       simp only[cy,Ϫ] at mH;exact pu (.cons (.code x (lc mH.1)) (.cons (.code y (lc mH.2)) hk))
      |cond x y z=>
       simp only[cy,Ϫ] at mH;have hx:=ev (k:=.code (.cond x y z)::k) (k':=.code (.cond x y z)::k') (d:=d) (d':=d') (r:=ro) (r':=pd) x mH.1.1;have fin:∀ {v1 v2:υ},ah ρ v1 v2->fD P F C S ρ w w'
        (match v1 with
          | .bool q=>.go (aR ⟨f,t,.code (if q then y else z)::k,d,.run,.normal,ro⟩ cs) w
          |_=>.ended (.stuck "cond: bool expected" (Frame.pos (tw P F) ⟨f,t,.code (.cond x y z)::k,d,.run,.normal,ro⟩)) w)
        (match v2 with
          | .bool q=>.go (aR ⟨f,t',.code (if q then y else z)::k',d',.run,kg,pd⟩ bp) w'
          |_=>.ended (.stuck "cond: bool expected" (Frame.pos P ⟨f,t',.code (.cond x y z)::k',d',.run,kg,pd⟩)) w'):=by
        intro v1 v2 hv;cases hv;case bool q=>cases q with
         |false=>exact pu (.cons (.code _ (lc mH.2)) hk)
         |true=>exact pu (.cons (.code _ (lc mH.1.2)) hk)
        all_goals exact fD.ended
       exact fin hx
      |block id x=>exact pu (.cons (.code x (lc mH)) (.cons (.inBlock id) hk))
      |loop x=>exact pu (.cons (.code x (lc mH)) (.cons (.inLoop x (lc mH)) hk))
      |scope x=>exact pu (.cons (.code x (lc mH)) (.cons (.inScope x (lc mH)) hk))
      |exit id=>
       have hx:=ah1 (C:=C) (S:=S) (ρ:=ρ) id hk;have:=Tp (P:=P) (F:=F) hw nH hL m m' (φ (.exit id)) (λc e=>by cases e;exact hc)
       unfold Θ;simp only;rcases hx with⟨e1,e2⟩ | ⟨k₁,GD,e1,e2,Sb⟩
       ·rw[e1]
        cases q with
        |false=>rw[e2 rfl];exact this
        |true=>
         have JP:=hf.base rfl;subst JP;cases hr;exact fD.ended
       ·rw[e1,e2];exact pu Sb
      |region id ops dr=>
       unfold Θ;simp only;cases dr with
       |false=>exact pu (.cons (.inRegion id χ ops _ hc) hk)
       |true=>
        simp only[Aa4,Ì,if_false];cases hq:(Go.choose (.order f id)).run (tw P F) w with
        |halt h ao=>exact fD.ended
        |ok n ao=>
         obtain⟨bK,n',ij,iy,k1,rfl,k3,k4,k5⟩:=Sim.choose (P':=tw P F) (P:=P) (C:=C) (ρ:=ρ) (.order f id) ρ ρ.le_refl w w' #[] hw n ao hq;have Ao:(Go.choose (.order f id)).run P w'=.ok n ij:=by rw[<-Ady P _ w' #[],k1]
         simp only[Ao];have:=fD.step (es:=#[]) (iy:=#[]) (P:=P) (F:=F) k4 (by simp) (fD.pure (es:=#[]) k3 (.inside ((gT.mk f ht (.cons (.inRegion id θ ops (Region.schedule (P.follows .mixedOrders) ops n) hc) hk) hd .run hr hf).mono k4.le) (hL.mono k4.le)))
         exact this
      |rangeFunc g ps x y=>
       simp only[cy,Ϫ] at mH;refine fD.AA hw (Sim.enterLoop f ht ps (lc mH.1.2) (lc mH.2) hr) (k:=λr=>match r with
        | .ok (l,mark) w=>Õ (tw P F) b ⟨f,t,.inRangeFunc l::k,mark++d,.run,.normal,ro⟩ cs ν
          (do let d <-resolve (Ü ⟨f,t,.inRangeFunc l::k,mark++d,.run,.normal,ro⟩) {callee:=.value g,args:=#[.const (.func (.yield l) #[] #[])],argTypes:=#[]} 0;Go.invoke d.target d.args) w
        | .halt _ w=>.ended (.stuck "range over a function: no such loop" _) w) (k':=λr=>match r with
        | .ok (l,mark) w=>Õ P θ ⟨f,t',.inRangeFunc l::k',mark++d',.run,kg,pd⟩ bp ν
          (do let d <-resolve (Ü ⟨f,t',.inRangeFunc l::k',mark++d',.run,kg,pd⟩) {callee:=.value g,args:=#[.const (.func (.yield l) #[] #[])],argTypes:=#[]} 0;Go.invoke d.target d.args) w
        | .halt _ w=>.ended (.stuck "range over a function: no such loop" _) w) (λh ao g aa es e=>?_) λbK ao ij x1 x2 l2 iw hab=>?_
       ·simp at e
       ·obtain⟨l1,Nr⟩:=x1
        obtain⟨Ev,Ns⟩:=x2;obtain⟨hl,Ge⟩:=hab;refine P3 E iw (.mk f (ht.mono l2) (.cons (.inRangeFunc hl) (hk.mono l2)) (pW.app Ge (hd.mono l2)) .run ?_ hf) (by simp) (hL.mono l2) (Sim.rH ?_) b
        ·cases hr with
         |none=>exact .none
         |some h=>exact .some (l2 _ _ h)
        ·have he:wD G bK (Ü ⟨f,t,.inRangeFunc l1::k,Nr++d,.run,.normal,ro⟩) (Ü ⟨f,t',.inRangeFunc Ev::k',Ns++d',.run,kg,pd⟩):=I3 (λg hg=>l2 _ _ (hG g hg)) (ht.mono l2)
         have hy:aV bK #[Value.func (.yield l1) #[] #[]] #[Value.func (.yield Ev) #[] #[]]:=bU.one (R:=ah bK) (ah.func (.yield hl) rfl (by simp) rfl (by simp))
         exact Sim.GB E (he g mH.1.1) (by simpa [Ü] using hy)
      |goto l=>simp[cy] at mH
      |refuse s=>simp[cy] at mH
def acj(E:Env P F C G)(hG:∀g,G g=θ->ρ g g)(hw:ot C ρ w w')(bY:gT C S ρ q fr ba)(hL:Below C S ρ q cs bp)(m m' b:Bool)
 (st st':GoStatus)(of of':Option (Array CommCase×CommShape)):
 fD P F C S ρ w w' (Ϛ (tw P F) m ⟨fr,cs,st,ν,of⟩ w b) (Ϛ P m' ⟨ba,bp,st',ν,of'⟩ w' θ):=by
 have nH:=bY;cases bY with
 | @mk f t t' ht k k' hk d d' hd md hm ro pd hr kg hf=>
   cases hm with
   |run=>exact ahY E hG hw nH rfl hL m m' b
   |returning=>exact asX E hw nH rfl hL m m'
end
end Go.Sim
namespace Go.Sim
open Go
def wm:Obj->Prop
 | .deferred (φ (_::_))=>True
 |_=>False
def Da:Halt->Prop
 | .panic _| .stuck _| .unsupported _=>True
 |_=>False
def az(p:Ϙ){α:Type}:Sem α->Prop
 | .pure _=>True
 | .load _ _ k=>∀v,az p (k v)
 | .store _ _ _ k=>az p k
 | .new o k=>¬wm o/\∀r,az p (k r)
 | .shape _ k=>∀x,az p (k x)
 | .freeze _ _ k=>az p k
 | .frozen _ k=>∀x,az p (k x)
 | .getObj _ k=>∀o,az p (k o)
 | .setObj _ o k=>¬wm o/\az p k
 | .choose _ k=>∀n,az p (k n)
 | .sys _ _=>False
 | .program k=>az p (k p)
 | .mark _ k=>az p k
 | .halt h=>Da h
def az.bind{p:Ϙ}{α β:Type}{s:Sem α}{f:α->Sem β}(h:az p s)(hf:∀a,az p (f a)):az p (s.bind f):=by
 induction s with
 |pure a=>exact hf a
 |load m a k ih=>exactλv=>ih v (h v)
 |store m a v k ih=>exact ih h
 |new o k ih=>exact⟨h.1,λr=>ih r (h.2 r)⟩
 |shape r k ih=>exactλv=>ih v (h v)
 |freeze a n k ih=>exact ih h
 |frozen a k ih=>exactλv=>ih v (h v)
 |getObj r k ih=>exactλv=>ih v (h v)
 |setObj r o k ih=>exact⟨h.1,ih h.2⟩
 |choose q k ih=>exactλv=>ih v (h v)
 |sys c k ih=>exact h
 |program k ih=>exact ih p h
 |mark m k ih=>exact ih h
 |halt h=>exact h
def az.bind'{s:Sem α}{f:α->Sem β}(h:az p s)(hf:∀a,az p (f a)):az p (s>>=f):=az.bind h hf
def bh(w:Ψ)(T:Tape):Ψ:={w with tape:=T}
def aqe(T:Tape):Č α->Č α
 | .ok a w=>.ok a (bh w T)
 | .halt h w=>.halt h (bh w T)
def G6:Č α->Ψ
 | .ok _ w=>w
 | .halt _ w=>w
def bN(h:Array Obj):Prop:=∀o∈h,¬wm o
def bN.push{h:Array Obj}(x:bN h){o:Obj}(ho:¬wm o):bN (h.push o):=λa ha=>by
 rcases Array.mem_push.1 ha with ha|rfl
 ·exact x a ha
 ·exact ho
def bN.set{h:Array Obj}(x:bN h)(i:Nat)(ho:¬wm o):bN (h.setIfInBounds i o):=λa ha=>by
 rcases Array.mem_or_eq_of_mem_setIfInBounds ha with ha|rfl
 ·exact x a ha
 ·exact ho
def bN.modify{h:Array Obj}(x:bN h)(i:Nat){f:Obj->Obj}(hf:∀o,¬wm o->¬wm (f o)):bN (h.modify i f):=λa ha=>by
 obtain⟨j,hj,rfl⟩:=Aay.1 ha;simp only[Aau];split
 ·exact hf _ (x _ (Aab _))
 ·exact x _ (Aab _)
def bN.get{h:Array Obj}(x:bN h)(ho:h[i]?=φ o):¬wm o:=x o (Ļ ho)
def as0(p:Ϙ)(w:Ψ)(at_:ϖ)(u:ό)(k:ϖ)(v:υ)(a:Bool):∃r:Except String (Array Obj×List ϖ),(∀x,r=.ok x->bN w.heap->bN x.1)/\∀T d,({w with tape:=T,drawn:=d}:Ψ).viewStore p at_ u k v a=match r with| .ok (h,x)=>.ok ({w with heap:=h,tape:=T,drawn:=d},x) | .error e=>.error e:=by
 cases h:w.viewStore p at_ u k v a with
 |error e=>
  refine⟨.error e,(by simp),λT d=>?_⟩
  unfold Ad5 at h |-
  have:({w with tape:=T,drawn:=d}:Ψ).seen p at_ u k a=w.seen p at_ u k a:=rfl
  rw[this];simp only[bind,Except.bind,pure,Except.pure] at h |-
  (repeat' split at h)<;>simp_all
 |ok r=>
  refine⟨.ok (r.1.heap,r.2),λx hx hn=>?_,λT d=>?_⟩
  ·cases hx
   unfold Ad5 at h;simp only[bind,Except.bind,pure,Except.pure] at h
   (repeat' split at h)<;>first| (cases h;done) | (cases h;exact hn.set _ (λh=>h))
  ·unfold Ad5 at h |-
   have:({w with tape:=T,drawn:=d}:Ψ).seen p at_ u k a=w.seen p at_ u k a:=rfl
   rw[this];simp only[bind,Except.bind,pure,Except.pure] at h |-
   (repeat' split at h)<;>first| (cases h;done) | (cases h;simp_all)
def ah7(p:Ϙ)(w:Ψ)(a:ϖ)(v:υ)(b:Bool):∃r:Except Halt (Array Obj×List ϖ),(∀x,r=.ok x->bN w.heap->bN x.1)/\∀T d,({w with tape:=T,drawn:=d}:Ψ).farStore p a v b=match r with| .ok (h,x)=>.ok ({w with heap:=h,tape:=T,drawn:=d},x) | .error e=>.error e:=by
 unfold Ad2;simp only;cases h:w.heap[a.block]? with
 |none=>exact⟨.error (w.noCell a "store: no such cell"),(by simp),λT d=>by simp only[Ad0,h]⟩
 |some o=>
  cases o;case view at_ u=>
   obtain⟨r,hn,hr⟩:=as0 p w at_ u a v b;refine⟨match r with| .ok x=>.ok x| .error why=>.error (.unsupported (.unsafePointer why)),λx hx=>?_,λT d=>?_⟩
   ·cases r with
    |ok y=>cases hx;exact hn _ rfl
    |error=>cases hx
   ·simp only[hr]
    cases r<;>rfl
  all_goals exact⟨.error (w.noCell a "store: no such cell"),(by simp),λT d=>by simp only[Ad0,h]⟩
def aoQ(w:Ψ)(a:ϖ)(v:υ)(h:bN w.heap):bN (w.setCell a v).heap:=by
 unfold î;simp only;refine bN.modify h _ ?_
 intro o ho;cases o<;>exact ho
def run_store{m:Mode}{k:Sem α}(w:Ψ):(∃h,∀T d,(ł m a v k).run p {w with tape:=T,drawn:=d}=.halt h {w with tape:=T,drawn:=d})\/
 ∃hp,(bN w.heap->bN hp)/\∀T d,(ł m a v k).run p {w with tape:=T,drawn:=d}=k.run p {w with heap:=hp,tape:=T,drawn:=d}:=by
 have key:(∃h,∀T d,(match({w with tape:=T,drawn:=d}:Ψ).cell? a with
  |some _=>if({w with tape:=T,drawn:=d}:Ψ).frozen? a then(.halt (.unsupported (.unsafePointer "a write to bytes that a string shares")) {w with tape:=T,drawn:=d}:Č α) else k.run p (({w with tape:=T,drawn:=d}:Ψ).setCell a v)
  |none=>match({w with tape:=T,drawn:=d}:Ψ).farStore p a v (m==Ű) with
   | .ok (w,_)=>k.run p w
   | .error h=>(.halt h {w with tape:=T,drawn:=d}:Č α))=.halt h {w with tape:=T,drawn:=d})\/
  ∃hp,(bN w.heap->bN hp)/\∀T d,(match({w with tape:=T,drawn:=d}:Ψ).cell? a with
   |some _=>if({w with tape:=T,drawn:=d}:Ψ).frozen? a then(.halt (.unsupported (.unsafePointer "a write to bytes that a string shares")) {w with tape:=T,drawn:=d}:Č α) else k.run p (({w with tape:=T,drawn:=d}:Ψ).setCell a v)
   |none=>match({w with tape:=T,drawn:=d}:Ψ).farStore p a v (m==Ű) with
    | .ok (w,_)=>k.run p w
    | .error h=>(.halt h {w with tape:=T,drawn:=d}:Č α))=k.run p {w with heap:=hp,tape:=T,drawn:=d}:=by
  have e1:∀T d,({w with tape:=T,drawn:=d}:Ψ).cell? a= w.cell? a:=λ_ _=>rfl
  have e2:∀T d,({w with tape:=T,drawn:=d}:Ψ).frozen? a= w.frozen? a:=λ_ _=>rfl
  simp only[e1,e2];cases w.cell? a with
  |some x=>
   by_cases hf: w.frozen? a=θ
   ·exact .inl ⟨.unsupported (.unsafePointer "a write to bytes that a string shares"),λT d=>by simp only[hf,if_true]⟩
   ·exact .inr ⟨(w.setCell a v).heap,aoQ w a v,λT d=>by simp only[hf];rfl⟩
  |none=>
   obtain⟨r,hn,hr⟩:=ah7 p w a v (m==Ű);simp only[hr];cases r with
   |ok x=>exact .inr ⟨x.1,hn x rfl,λT d=>rfl⟩
   |error h=>exact .inl ⟨h,λT d=>rfl⟩
 cases v;case agg x=>exact .inl ⟨_,λT d=>rfl⟩
 case tuple x=>exact .inl ⟨_,λT d=>rfl⟩
 all_goals exact key
def QT(w:Ψ)(a:ϖ)(n:Nat):∃hp,(bN w.heap->bN hp)/\∀T d,({w with tape:=T,drawn:=d}:Ψ).freeze a n={w with heap:=hp,tape:=T,drawn:=d}:=by
 refine⟨(w.freeze a n).heap,λhn=>?_,λT d=>?_⟩
 ·unfold Ad4
  by_cases h:n=0
  ·simpa only[h,if_true] using hn
  ·simp only[h,if_false]
   refine bN.modify hn _ ?_
   intro o ho;cases o<;>exact ho
 unfold Ad4;by_cases h:n=0
 ·simp only[h,if_true]
 ·simp only[h,if_false]
def abH{s:Sem α}(hs:az p s):∀(w:Ψ),w.drawn<=(G6 (s.run p w)).drawn/\(G6 (s.run p w)).tape=w.tape:=by
 induction s with
 |pure a=>intro w;exact⟨ϊ _,rfl⟩
 |load m a k ih=>
  intro w;simp only[Ϣ]
  (repeat' split)<;>first|exact ih _ (hs _) w|exact⟨ϊ _,rfl⟩
 |store m a v k ih=>
  intro w;rcases run_store (p:=p) (m:=m) (a:=a) (v:=v) (k:=k) w with⟨h,e⟩ | ⟨hp,hn,e⟩
  ·rw[show(ł m a v k).run p w=_ from e w.tape w.drawn];exact⟨ϊ _,rfl⟩
  ·rw[show(ł m a v k).run p w=_ from e w.tape w.drawn];exact ih hs {w with heap:=hp}
 |new o k ih=>intro w;exact ih _ (hs.2 _) {w with heap:=w.heap.push o}
 |shape r k ih=>intro w;exact ih _ (hs _) w
 |freeze a n k ih=>
  intro w;obtain⟨hp,hn,e⟩:=QT w a n;simp only[Ϣ];rw[show w.freeze a n=_ from e w.tape w.drawn]
  exact ih hs {w with heap:=hp}
 |frozen a k ih=>intro w;exact ih _ (hs _) w
 |getObj r k ih=>
  intro w;simp only[Ϣ]
  (repeat' split)<;>first|exact ih _ (hs _) w|exact⟨ϊ _,rfl⟩
 |setObj r o k ih=>
  intro w;simp only[Ϣ]
  (repeat' split)<;>first|exact ih hs.2 {w with heap:=w.heap.setIfInBounds r o} |exact⟨ϊ _,rfl⟩
 |choose q k ih=>
  intro w;simp only[Ϣ];split
  ·exact ih _ (hs _) w
  ·have:=ih (q.cut (w.tape w.drawn q)) (hs _) {w with drawn:=w.drawn+1}
   exact⟨by have:=this.1;simp only at this;omega,this.2⟩
 |sys c k ih=>exact hs.elim
 |program k ih=>intro w;exact ih _ hs w
 |mark m k ih=>intro w;exact ih hs w
 |halt h=>intro w;exact⟨ϊ _,rfl⟩
def aqB{s:Sem α}(hs:az p s):∀(w:Ψ),bN w.heap->bN (G6 (s.run p w)).heap:=by
 induction s with
 |pure a=>intro w h;exact h
 |load m a k ih=>
  intro w h;simp only[Ϣ]
  (repeat' split)<;>first|exact ih _ (hs _) w h|exact h
 |store m a v k ih=>
  intro w h0;rcases run_store (p:=p) (m:=m) (a:=a) (v:=v) (k:=k) w with⟨h,e⟩ | ⟨hp,hn,e⟩
  ·rw[show(ł m a v k).run p w=_ from e w.tape w.drawn];exact h0
  ·rw[show(ł m a v k).run p w=_ from e w.tape w.drawn];exact ih hs {w with heap:=hp} (hn h0)
 |new o k ih=>intro w h;exact ih _ (hs.2 _) {w with heap:=w.heap.push o} (h.push hs.1)
 |shape r k ih=>intro w h;exact ih _ (hs _) w h
 |freeze a n k ih=>
  intro w h;obtain⟨hp,hn,e⟩:=QT w a n;simp only[Ϣ];rw[show w.freeze a n=_ from e w.tape w.drawn]
  exact ih hs {w with heap:=hp} (hn h)
 |frozen a k ih=>intro w h;exact ih _ (hs _) w h
 |getObj r k ih=>
  intro w h;simp only[Ϣ]
  (repeat' split)<;>first|exact ih _ (hs _) w h|exact h
 |setObj r o k ih=>
  intro w h;simp only[Ϣ]
  (repeat' split)<;>first|exact ih hs.2 {w with heap:=w.heap.setIfInBounds r o} (h.set _ hs.1) |exact h
 |choose q k ih=>
  intro w h;simp only[Ϣ];split
  ·exact ih _ (hs _) w h
  ·exact ih (q.cut (w.tape w.drawn q)) (hs _) {w with drawn:=w.drawn+1} h
 |sys c k ih=>exact hs.elim
 |program k ih=>intro w h;exact ih _ hs w h
 |mark m k ih=>intro w h;exact ih hs w h
 |halt h=>intro w h;exact h
def abL{s:Sem α}(hs:az p s):∀(w:Ψ) (T:Tape),(∀j q,w.drawn<=j->j<(G6 (s.run p w)).drawn->T j q=w.tape j q)->s.run p (bh w T)=aqe T (s.run p w):=by
 induction s with
 |pure a=>intro w T _;rfl
 |load m a k ih=>
  intro w T hT;simp only[Ϣ] at hT |-
  have e1:(bh w T).cell? a= w.cell? a:=rfl;have e2:(bh w T).farLoad p a (m==Ű)=w.farLoad p a (m==Ű):=rfl;rw[e1,e2];cases hc: w.cell? a with
  |some v=>simp only[hc] at hT |-;exact ih _ (hs _) w T hT
  |none=>
   simp only[hc] at hT |-
   cases hf:w.farLoad p a (m==Ű) with
   |ok x=>simp only[hf] at hT |-;exact ih _ (hs _) w T hT
   |error h=>simp only;rfl
 |store m a v k ih=>
  intro w T hT;rcases run_store (p:=p) (m:=m) (a:=a) (v:=v) (k:=k) w with⟨h,e⟩ | ⟨hp,hn,e⟩
  ·rw[show(ł m a v k).run p w=_ from e w.tape w.drawn];exact e T w.drawn
  ·have e1:=e w.tape w.drawn
   have e1:(ł m a v k).run p w=_:=e1;rw[e1] at hT |-
   have e2:(ł m a v k).run p (bh w T)=_:=e T w.drawn;rw[e2];exact ih hs {w with heap:=hp} T hT
 |new o k ih=>intro w T hT;exact ih _ (hs.2 _) {w with heap:=w.heap.push o} T hT
 |shape r k ih=>intro w T hT;exact ih _ (hs _) w T hT
 |freeze a n k ih=>
  intro w T hT;obtain⟨hp,hn,e⟩:=QT w a n;simp only[Ϣ] at hT |-
  have e1:w.freeze a n=_:=e w.tape w.drawn;have e2:(bh w T).freeze a n=_:=e T w.drawn;rw[e1] at hT |-
  rw[e2];exact ih hs {w with heap:=hp} T hT
 |frozen a k ih=>intro w T hT;exact ih _ (hs _) w T hT
 |getObj r k ih=>
  intro w T hT;simp only[Ϣ] at hT |-
  show(match w.heap[r]? with
   |some (.cells ..)=>(.halt (.stuck "getObj: a row of cells") (bh w T):Č α)
   |some o=>(k o).run p (bh w T)
   |none=>.halt (.stuck "getObj: no such block") (bh w T))=_
  cases ho:w.heap[r]? with
  |none=>simp only;rfl
  |some o=>
   simp only[ho] at hT |-
   cases o<;>first|rfl|exact ih _ (hs _) w T hT
 |setObj r o k ih=>
  intro w T hT;simp only[Ϣ] at hT |-
  show(match w.heap[r]? with
   |some (.cells ..)=>(.halt (.stuck "setObj: a row of cells") (bh w T):Č α)
   |some _=>k.run p { (bh w T) with heap:=w.heap.setIfInBounds r o}
   |none=>.halt (.stuck "setObj: no such block") (bh w T))=_
  cases ho:w.heap[r]? with
  |none=>simp only;rfl
  |some o'=>
   simp only[ho] at hT |-
   cases o'<;>first|rfl|exact ih hs.2 {w with heap:=w.heap.setIfInBounds r o} T hT
 |choose q k ih=>
  intro w T hT;simp only[Ϣ] at hT |-
  by_cases hq:q.forced=θ
  ·rw[if_pos hq] at hT |-
   rw[if_pos hq];exact ih _ (hs _) w T hT
  ·rw[if_neg hq] at hT |-
   rw[if_neg hq];have hd:=(abH (hs (q.cut (w.tape w.drawn q))) {w with drawn:=w.drawn+1}).1
   have e:T w.drawn q=w.tape w.drawn q:=hT w.drawn q (ϊ _) (by simp only at hd;omega)
   show(k (q.cut (T w.drawn q))).run p (bh {w with drawn:=w.drawn+1} T)=_
   rw[e];exact ih _ (hs _) {w with drawn:=w.drawn+1} T λj q h1 h2=>hT j q (by simp only at h1;omega) h2
 |sys c k ih=>exact hs.elim
 |program k ih=>intro w T hT;exact ih _ hs w T hT
 |mark m k ih=>intro w T hT;exact ih hs w T hT
 |halt h=>intro w T hT;rfl
end Go.Sim
namespace Go.Sim
open Go
variable {p:Ϙ}
namespace az
class MC (p:Ϙ) {α:Type} (s:Sem α):Prop where
 h:az p s
instance {α:Type} (a:α):MC p (ϧ a):=⟨trivial⟩
instance {α:Type} (a:α):MC p (Sem.pure a):=⟨trivial⟩
def pure{α:Type}(a:α):az p (ϧ a):=trivial
def avL(a:α):az p (Sem.pure a):=trivial
def newObj{o:Obj}(h:¬wm o):az p (Go.newObj o):=⟨h,λ_=>trivial⟩
def setObj{o:Obj}(r:Nat)(h:¬wm o):az p (Go.setObj r o):=⟨h,trivial⟩
def ite{c:Prop}[Decidable c]{a b:Sem α}(h:az p a)(h2:az p b):az p (if c then a else b):=by
 split<;>assumption
def map{s:Sem α}(f:α->β)(h:az p s):az p (f<$>s):=by
 rw[map_eq_pure_bind];exact bind' h λ_=>trivial
def yf(l:List ι){f:ι->σ->Sem (ForInStep σ)}(h:∀x s,az p (f x s)):∀s,az p (forIn l s f):=by
 induction l with
 |nil=>intro s;exact trivial
 |cons a l ih=>
  intro s;rw[List.forIn_cons];refine bind' (h _ _) λr=>?_
  cases r
  ·exact trivial
  ·exact ih _
def Dr(l:Array ι){f:ι->σ->Sem (ForInStep σ)}(h:∀x s,az p (f x s))(s:σ):az p (forIn l s f):=by
 rw[<-Aaj];exact yf _ h s
def Ma(l:Std.Legacy.Range){f:Nat->σ->Sem (ForInStep σ)}(h:∀x s,az p (f x s))(s:σ):az p (forIn l s f):=by
 rw[Aei];exact yf _ h s
def EC(l:List ι){f:ι->Sem σ}(h:∀x,az p (f x)):az p (l.mapM f):=by
 induction l with
 |nil=>exact trivial
 |cons a l ih=>
  rw[List.mapM_cons];exact bind' (h _) λ_=>az.bind' ih λ_=>trivial
def Ck(l:Array ι){f:ι->Sem σ}(h:∀x,az p (f x)):az p (l.mapM f):=by
 rw[ĺ];exact map _ (az.EC _ h)
def foldlM{ι σ:Type}(l:List ι){f:σ->ι->Sem σ}(h:∀s x,az p (f s x)):∀s,az p (l.foldlM f s):=by
 induction l with
 |nil=>intro s;exact trivial
 |cons a l ih=>
  intro s;rw[List.foldlM_cons];exact bind' (h _ _) λ_=>ih _
instance {α:Type} (s:String):MC p ((Go.stuck s:Sem α)):=⟨by
 repeat' first| (with_reducible first|exact MC.h|refine bind' ?_ λ_=>?_|refine ite ?_ ?_) |split|dsimp only|trivial⟩
instance {α:Type} (s:Unsupported):MC p ((Go.unsupported s:Sem α)):=⟨by
 repeat' first| (with_reducible first|exact MC.h|refine bind' ?_ λ_=>?_|refine ite ?_ ?_) |split|dsimp only|trivial⟩
def choose(q:Question):az p (Go.choose q):=by
 intro _
 repeat' first| (with_reducible first|exact MC.h|refine bind' ?_ λ_=>?_|refine ite ?_ ?_) |split|dsimp only|trivial
instance (q:Question):MC p (Go.choose q):=⟨choose q⟩
instance:MC p (Go.program):=⟨by
 repeat' first| (with_reducible first|exact MC.h|refine bind' ?_ λ_=>?_|refine ite ?_ ?_) |split|dsimp only|trivial⟩
instance (m:Mark):MC p (Go.mark m):=⟨by
 repeat' first| (with_reducible first|exact MC.h|refine bind' ?_ λ_=>?_|refine ite ?_ ?_) |split|dsimp only|trivial⟩
instance (r:Nat):MC p (Go.getObj r):=⟨by
 intro _
 repeat' first| (with_reducible first|exact MC.h|refine bind' ?_ λ_=>?_|refine ite ?_ ?_) |split|dsimp only|trivial⟩
instance (a:ϖ) (m:Mode):MC p (Go.load a m):=⟨by
 intro _
 repeat' first| (with_reducible first|exact MC.h|refine bind' ?_ λ_=>?_|refine ite ?_ ?_) |split|dsimp only|trivial⟩
instance (a:ϖ) (v:υ) (m:Mode):MC p (Go.store a v m):=⟨by
 repeat' first| (with_reducible first|exact MC.h|refine bind' ?_ λ_=>?_|refine ite ?_ ?_) |split|dsimp only|trivial⟩
instance (r:Nat):MC p (Go.shape r):=⟨by
 intro _
 repeat' first| (with_reducible first|exact MC.h|refine bind' ?_ λ_=>?_|refine ite ?_ ?_) |split|dsimp only|trivial⟩
theorem MC.of{s t:Sem α}(e:s=t)(h:az p t:=by repeat' first| (with_reducible first|exact MC.h|exact newObj id|exact setObj _ id|refine bind' ?_ λ_=>?_|refine map _ ?_|refine ite ?_ ?_) |split|dsimp only|trivial):MC p s:=⟨e▸h⟩
instance (x0:ό):MC p (Go.underlying x0):=MC.of (Go.underlying.eq_def _)
instance (x0:ό):MC p (Go.elemOf x0):=MC.of (Go.elemOf.eq_def _)
instance (x0:ό) (x1:Array υ):MC p (Go.newRow x0 x1):=MC.of (Go.newRow.eq_def _ _)
instance (x0:ό) (x1:υ):MC p (Go.newVar x0 x1):=MC.of (Go.newVar.eq_def _ _)
instance {α:Type} (e:RuntimeError):MC p ((Go.runtimePanic e:Sem α)):=MC.of (Go.runtimePanic.eq_def _)
def runtimePanic{α:Type}(e:RuntimeError):az p ((Go.runtimePanic e:Sem α)):=MC.h
instance {α:Type} (k:ä) (x y:Int) (c:Abj):MC p ((Go.boundsPanic k x y c:Sem α)):=MC.of (Go.boundsPanic.eq_def _ _ _ _)
instance (x0:ό):MC p (Go.typeInfo x0):=MC.of (Go.typeInfo.eq_def _)
instance (x0:ό):MC p (Go.zeroValue x0):=MC.of (Go.zeroValue.eq_def _)
instance (x0:ό):MC p (Go.sizeOf x0):=MC.of (Go.sizeOf.eq_def _)
instance (x0:ό):MC p (Go.isAgg x0):=MC.of (Go.isAgg.eq_def _)
instance (x0:ϖ) (x1:Nat) (x2:Nat) (x3:Array υ):MC p (Go.loadCellsFrom x0 x1 x2 x3):=⟨by
 induction x2 generalizing x1 x3 with
 |zero=>exact trivial
 |succ n ih=>
 unfold Go.loadCellsFrom;refine bind' MC.h λ_=>ih _ _
 all_goals
 repeat' first| (with_reducible first|exact MC.h|refine bind' ?_ λ_=>?_|refine ite ?_ ?_) |split|dsimp only|trivial⟩
instance (x0:ϖ) (x1:Nat):MC p (Go.loadCells x0 x1):=MC.of (Go.loadCells.eq_def _ _)
instance (x0:ϖ) (x1:List υ) (x2:Nat):MC p (Go.storeCells x0 x1 x2):=⟨by
 induction x1 generalizing x2 with
 |nil=>exact trivial
 |cons a l ih=>
 unfold Go.storeCells;refine bind' MC.h λ_=>ih _
 all_goals
 repeat' first| (with_reducible first|exact MC.h|refine bind' ?_ λ_=>?_|refine ite ?_ ?_) |split|dsimp only|trivial⟩
instance (x0:ό) (x1:ϖ):MC p (Go.loadVar x0 x1):=MC.of (Go.loadVar.eq_def _ _)
instance (x0:ό) (x1:ϖ) (x2:υ):MC p (Go.storeVar x0 x1 x2):=MC.of (Go.storeVar.eq_def _ _ _)
instance (x0:ό) (x1:Array υ) (x2:Nat):MC p (Go.part x0 x1 x2):=MC.of (Go.part.eq_def _ _ _)
instance (x0:υ):MC p (Go.asIntOf x0):=MC.of (Go.asIntOf.eq_def _)
instance (x0:υ):MC p (Go.asInt x0):=MC.of (Go.asInt.eq_def _)
instance (x0:υ):MC p (Go.asBool x0):=MC.of (Go.asBool.eq_def _)
def asBool(x0:υ):az p (Go.asBool x0):=MC.h
instance (x0:υ):MC p (Go.asAgg x0):=MC.of (Go.asAgg.eq_def _)
instance (x0:υ):MC p (Go.asAddr x0):=MC.of (Go.asAddr.eq_def _)
instance (x0:υ):MC p (Go.Instr.sureAddr x0):=MC.of (Go.Instr.sureAddr.eq_def _)
instance (x0:Nat):MC p (Go.askRoom x0):=MC.of (Go.askRoom.eq_def _)
instance (x0:Nat):MC p (Go.viewAt x0):=MC.of (Go.viewAt.eq_def _)
instance (x0:ϖ):MC p (Go.noView x0):=MC.of (Go.noView.eq_def _)
instance (x0:ϖ):MC p (Go.markStringish x0):=MC.of (Go.markStringish.eq_def _)
instance (x0:Nat):MC p (Go.numberAt x0):=MC.of (Go.numberAt.eq_def _)
instance (x0:ϖ):MC p (Go.behindNumber x0):=MC.of (Go.behindNumber.eq_def _)
instance (x0:ϖ) (x1:Bool):MC p (Go.asNumber x0 x1):=MC.of (Go.asNumber.eq_def _ _)
instance (x0:ϖ):MC p (Go.byteOf x0):=MC.of (Go.byteOf.eq_def _)
instance (x0:ϖ) (x1:Nat) (x2:Nat):MC p (Go.partAt x0 x1 x2):=MC.of (Go.partAt.eq_def _ _ _)
instance (x0:ϖ) (x1:Field):MC p (Go.fieldPlace x0 x1):=MC.of (Go.fieldPlace.eq_def _ _)
instance (x0:ό) (x1:Bool) (x2:υ):MC p (Go.Instr.alloc x0 x1 x2):=MC.of (Go.Instr.alloc.eq_def _ _ _)
def aee(x0:ό)(x1:Bool)(x2:υ):az p (Go.Instr.alloc x0 x1 x2):=MC.h
instance (x0:ό) (x1:υ):MC p (Go.Instr.box x0 x1):=MC.of (Go.Instr.box.eq_def _ _)
def aeg(x0:ό)(x1:υ):az p (Go.Instr.box x0 x1):=MC.h
instance (x0:ό) (x1:υ):MC p (Go.Instr.loadAt x0 x1):=MC.of (Go.Instr.loadAt.eq_def _ _)
def aeq(x0:ό)(x1:υ):az p (Go.Instr.loadAt x0 x1):=MC.h
instance (x0:ό) (x1:υ) (x2:υ):MC p (Go.Instr.storeAt x0 x1 x2):=MC.of (Go.Instr.storeAt.eq_def _ _ _)
def aex(x0:ό)(x1:υ)(x2:υ):az p (Go.Instr.storeAt x0 x1 x2):=MC.h
instance (x0:ό) (x1:υ) (x2:Nat):MC p (Go.Instr.fieldAt x0 x1 x2):=MC.of (Go.Instr.fieldAt.eq_def _ _ _)
def aen(x0:ό)(x1:υ)(x2:Nat):az p (Go.Instr.fieldAt x0 x1 x2):=MC.h
instance (x0:υ) (x1:Nat) (x2:Abj):MC p (Go.Instr.sliceBound x0 x1 x2):=MC.of (Go.Instr.sliceBound.eq_def _ _ _)
instance (x0:Bool) (x1:Nat) (x2:Nat) (x3:Option υ) (x4:Option υ) (x5:Option υ):MC p (Go.Instr.sliceBounds x0 x1 x2 x3 x4 x5):=MC.of (Go.Instr.sliceBounds.eq_def _ _ _ _ _ _)
instance (x0:ό) (x1:υ) (x2:Option υ) (x3:Option υ) (x4:Option υ):MC p (Go.Instr.slice x0 x1 x2 x3 x4):=MC.of (Go.Instr.slice.eq_def _ _ _ _ _)
instance (x0:ό) (x1:υ) (x2:Option υ) (x3:Option υ) (x4:Option υ):MC p (Go.Instr.sliceAt x0 x1 x2 x3 x4):=MC.of (Go.Instr.sliceAt.eq_def _ _ _ _ _)
def aew(x0:ό)(x1:υ)(x2:Option υ)(x3:Option υ)(x4:Option υ):az p (Go.Instr.sliceAt x0 x1 x2 x3 x4):=MC.h
instance (x0:ό) (x1:υ) (x2:υ):MC p (Go.Instr.indexAt x0 x1 x2):=MC.of (Go.Instr.indexAt.eq_def _ _ _)
def aep(x0:ό)(x1:υ)(x2:υ):az p (Go.Instr.indexAt x0 x1 x2):=MC.h
instance (x0:ό) (x1:υ) (x2:Nat):MC p (Go.Instr.field x0 x1 x2):=MC.of (Go.Instr.field.eq_def _ _ _)
def aem(x0:ό)(x1:υ)(x2:Nat):az p (Go.Instr.field x0 x1 x2):=MC.h
instance (x0:ό) (x1:υ) (x2:υ):MC p (Go.Instr.index x0 x1 x2):=MC.of (Go.Instr.index.eq_def _ _ _)
def aeo(x0:ό)(x1:υ)(x2:υ):az p (Go.Instr.index x0 x1 x2):=MC.h
instance (x0:Ù) (x1:ä) (x2:Int) (x3:Int):MC p (Go.Op.intArith x0 x1 x2 x3):=MC.of (Go.Op.intArith.eq_def _ _ _ _)
instance (x0:Ù) (x1:ä) (x2:Int) (x3:Int):MC p (Go.Op.intDiv x0 x1 x2 x3):=MC.of (Go.Op.intDiv.eq_def _ _ _ _)
instance (x0:Ù) (x1:ä) (x2:Int) (x3:Int):MC p (Go.Op.intBits x0 x1 x2 x3):=MC.of (Go.Op.intBits.eq_def _ _ _ _)
instance (x0:Ù) (x1:Int) (x2:Int):MC p (Go.Op.intCmp x0 x1 x2):=MC.of (Go.Op.intCmp.eq_def _ _ _)
instance (x0:Ù) (x1:ä) (x2:Int) (x3:ä) (x4:Int):MC p (Go.Op.shift x0 x1 x2 x3 x4):=MC.of (Go.Op.shift.eq_def _ _ _ _ _)
instance (x0:Ù) (x1:Į) (x2:Nat) (x3:Nat):MC p (Go.Op.floatArith x0 x1 x2 x3):=MC.of (Go.Op.floatArith.eq_def _ _ _ _)
instance (x0:Ù) (x1:Į) (x2:Nat) (x3:Nat):MC p (Go.Op.floatCmp x0 x1 x2 x3):=MC.of (Go.Op.floatCmp.eq_def _ _ _ _)
instance (x0:Į) (x1:Nat) (x2:Į):MC p (Go.Conv.floatToFloat x0 x1 x2):=MC.of (Go.Conv.floatToFloat.eq_def _ _ _)
instance (x0:Ù) (x1:Į) (x2:Nat) (x3:Nat):MC p (Go.Op.Complex.arith x0 x1 x2 x3):=MC.of (by unfold Go.Op.Complex.arith;rfl)
instance (x0:Nat) (x1:Nat):MC p (Go.Op.Complex.add x0 x1):=MC.of (by unfold Go.Op.Complex.add;rfl)
instance (x0:Nat) (x1:Nat):MC p (Go.Op.Complex.sub x0 x1):=MC.of (by unfold Go.Op.Complex.sub;rfl)
instance (x0:Nat) (x1:Nat):MC p (Go.Op.Complex.mul x0 x1):=MC.of (by unfold Go.Op.Complex.mul;rfl)
instance (x0:Nat) (x1:Nat):MC p (Go.Op.Complex.quo x0 x1):=MC.of (by unfold Go.Op.Complex.quo;rfl)
instance (x0:Nat) (x1:Nat) (x2:Nat) (x3:Nat) (x4:Nat):MC p (Go.Op.Complex.corrected x0 x1 x2 x3 x4):=MC.of (by unfold Go.Op.Complex.corrected;rfl)
instance (x0:Į) (x1:Nat) (x2:Į):MC p (Go.Op.Complex.conv x0 x1 x2):=MC.of (by unfold Go.Op.Complex.conv;rfl)
instance (x0:Nat) (x1:Nat) (x2:Nat) (x3:Nat):MC p (Go.Op.Complex.product x0 x1 x2 x3):=MC.of (by unfold Go.Op.Complex.product;rfl)
instance (x0:Nat) (x1:Nat) (x2:Nat) (x3:Nat):MC p (Go.Op.Complex.quotient x0 x1 x2 x3):=MC.of (by unfold Go.Op.Complex.quotient;rfl)
instance (x0:Ù) (x1:Į) (x2:Nat) (x3:Nat) (x4:Nat) (x5:Nat):MC p (Go.Op.complexOp x0 x1 x2 x3 x4 x5):=MC.of (Go.Op.complexOp.eq_def _ _ _ _ _ _)
instance (x0:Ù) (x1:ByteArray) (x2:ByteArray):MC p (Go.Op.stringOp x0 x1 x2):=MC.of (Go.Op.stringOp.eq_def _ _ _)
instance (x0:ϖ) (x1:ϖ):MC p (Go.Op.twoPlaces x0 x1):=MC.of (Go.Op.twoPlaces.eq_def _ _)
instance (x0:ä) (x1:ϖ) (x2:ϖ):MC p (Go.Op.addrSub x0 x1 x2):=MC.of (Go.Op.addrSub.eq_def _ _ _)
instance (x0:Ù) (x1:ϖ) (x2:ϖ):MC p (Go.Op.addrCmp x0 x1 x2):=MC.of (Go.Op.addrCmp.eq_def _ _ _)
instance (x0:ä) (x1:ϖ) (x2:Int):MC p (Go.Op.addrMod x0 x1 x2):=MC.of (Go.Op.addrMod.eq_def _ _ _)
instance (x0:ϖ):MC p (Go.frozen x0):=⟨by
 intro _
 repeat' first| (with_reducible first|exact MC.h|refine bind' ?_ λ_=>?_|refine ite ?_ ?_) |split|dsimp only|trivial⟩
instance (x0:ϖ):MC p (Go.stringish x0):=MC.of (Go.stringish.eq_def _)
instance (x0:ϖ) (x1:ϖ):MC p (Go.mayBeOne x0 x1):=MC.of (Go.mayBeOne.eq_def _ _)
instance (x0:ό):MC p (Go.typeStr x0):=MC.of (Go.typeStr.eq_def _)
instance (x0:ϖ) (x1:ϖ):MC p (Go.sameAddr x0 x1):=MC.of (Go.sameAddr.eq_def _ _)
instance (x0:Option ϖ) (x1:Option ϖ):MC p (Go.samePointer x0 x1):=MC.of (Go.samePointer.eq_def _ _)
instance (x0:Nat) (x1:ό) (x2:υ) (x3:υ):MC p (Go.Op.equalIn x0 x1 x2 x3):=⟨by
 induction x0 generalizing x1 x2 x3 with
 |zero=>exact trivial
 |succ n ih=>
 unfold Go.Op.equalIn
 repeat' first| (with_reducible first|exact MC.h|exact ih _ _ _|exact newObj id|exact setObj _ id|refine bind' ?_ λ_=>?_|refine Dr _ (λ_ _=>?_) _|refine yf _ (λ_ _=>?_) _|refine Ma _ (λ_ _=>?_) _|refine map _ ?_|refine Ck _ λ_=>?_|refine EC _ λ_=>?_|refine foldlM _ (λ_ _=>?_) _|refine ite ?_ ?_) |split|dsimp only|trivial⟩
instance (x0:ό) (x1:υ) (x2:υ):MC p (Go.Op.equal x0 x1 x2):=MC.of (Go.Op.equal.eq_def _ _ _)
instance (x0:Nat) (x1:ό) (x2:υ) (x3:υ):MC p (Go.Op.eqGuardIn x0 x1 x2 x3):=⟨by
 induction x0 generalizing x1 x2 x3 with
 |zero=>exact trivial
 |succ n ih=>
 unfold Go.Op.eqGuardIn
 repeat' first| (with_reducible first|exact MC.h|exact ih _ _ _|exact newObj id|exact setObj _ id|refine bind' ?_ λ_=>?_|refine Dr _ (λ_ _=>?_) _|refine yf _ (λ_ _=>?_) _|refine Ma _ (λ_ _=>?_) _|refine map _ ?_|refine Ck _ λ_=>?_|refine EC _ λ_=>?_|refine foldlM _ (λ_ _=>?_) _|refine ite ?_ ?_) |split|dsimp only|trivial⟩
instance (ts:Array ό) (t:ό) (x y:υ):MC p (Go.Builtin.unsafeAdd_ ts t #[x,y]):=⟨by
 unfold Go.Builtin.unsafeAdd_;cases x<;>try exact trivial
 rename_i q;cases q
 ·refine bind' (s:=Go.asInt y) MC.h (λn=>?_)
  dsimp only
  repeat' first| (with_reducible first|exact MC.h|refine bind' ?_ λ_=>?_|refine ite ?_ ?_) |split|dsimp only|trivial
 ·refine bind' (s:=Go.asInt y) MC.h (λn=>?_)
  dsimp only
  repeat' first| (with_reducible first|exact MC.h|refine bind' ?_ λ_=>?_|refine ite ?_ ?_) |split|dsimp only|trivial⟩
instance (x0:ό) (x1:υ) (x2:υ):MC p (Go.movedNumber x0 x1 x2):=MC.of (Go.movedNumber.eq_def _ _ _)
instance (x0:ό) (x1:υ) (x2:υ):MC p (Go.movedPointer x0 x1 x2):=MC.of (Go.movedPointer.eq_def _ _ _)
instance (x0:Ù) (x1:ό) (x2:Ç) (x3:Ç) (x4:υ) (x5:υ):MC p (Go.eqGuard x0 x1 x2 x3 x4 x5):=MC.of (Go.eqGuard.eq_def _ _ _ _ _ _)
def eqGuard(x0:Ù)(x1:ό)(x2:Ç)(x3:Ç)(x4:υ)(x5:υ):az p (Go.eqGuard x0 x1 x2 x3 x4 x5):=MC.h
instance (x0:Ù) (x1:ό) (x2:υ) (x3:υ):MC p (Go.binOp x0 x1 x2 x3):=MC.of (Go.binOp.eq_def _ _ _ _)
def binOp(x0:Ù)(x1:ό)(x2:υ)(x3:υ):az p (Go.binOp x0 x1 x2 x3):=MC.h
instance (x0:υ) (x1:Nat):MC p (Go.Instr.extract x0 x1):=MC.of (Go.Instr.extract.eq_def _ _)
def ael(x0:υ)(x1:Nat):az p (Go.Instr.extract x0 x1):=MC.h
instance (x0:Fn) (x1:Array υ) (x2:Array υ):MC p (Go.Instr.makeFunc x0 x1 x2):=MC.of (Go.Instr.makeFunc.eq_def _ _ _)
def aes(x0:Fn)(x1:Array υ)(x2:Array υ):az p (Go.Instr.makeFunc x0 x1 x2):=MC.h
instance (x0:ό) (x1:Option υ):MC p (Go.Instr.makeMap x0 x1):=MC.of (Go.Instr.makeMap.eq_def _ _)
def aet(x0:ό)(x1:Option υ):az p (Go.Instr.makeMap x0 x1):=MC.h
instance (x0:ό) (x1:υ) (x2:υ):MC p (Go.Instr.makeSlice x0 x1 x2):=MC.of (Go.Instr.makeSlice.eq_def _ _ _)
def aeu(x0:ό)(x1:υ)(x2:υ):az p (Go.Instr.makeSlice x0 x1 x2):=MC.h
def VW(x0:ό)(x1:Array (Nat×υ)):az p (Go.Instr.build x0 x1):=by
 unfold Go.Instr.build
 repeat' first| (with_reducible first|exact MC.h|refine bind' ?_ λ_=>?_|refine Ck _ λ_=>?_|refine ite ?_ ?_) |split|dsimp only|trivial
instance (x0:ό) (x1:Array (Nat×υ)):MC p (Go.Instr.build x0 x1):=⟨VW x0 x1⟩
instance (x0:ό) (x1:Nat) (x2:Array (Nat×υ)):MC p (Go.Instr.buildSlice x0 x1 x2):=MC.of (Go.Instr.buildSlice.eq_def _ _ _)
def aeh(x0:ό)(x1:Nat)(x2:Array (Nat×υ)):az p (Go.Instr.buildSlice x0 x1 x2):=MC.h
instance (x0:υ):MC p (Go.Builtin.lenOf x0):=MC.of (Go.Builtin.lenOf.eq_def _)
instance (x0:Array ό) (x1:ό) (x2:Array υ):MC p (Go.Builtin.len_ x0 x1 x2):=MC.of (Go.Builtin.len_.eq_def _ _ _)
def adi(x0:Array ό)(x1:ό)(x2:Array υ):az p (Go.Builtin.len_ x0 x1 x2):=MC.h
instance (x0:υ) (x1:υ):MC p (Go.Builtin.max2 x0 x1):=MC.of (Go.Builtin.max2.eq_def _ _)
instance (x0:υ) (x1:υ):MC p (Go.Builtin.min2 x0 x1):=MC.of (Go.Builtin.min2.eq_def _ _)
def Vk(x0:Array ό)(x1:ό)(x2:Array υ):az p (Go.Builtin.max_ x0 x1 x2):=by
 unfold Go.Builtin.max_
 repeat' first| (with_reducible first|exact MC.h|refine bind' ?_ λ_=>?_|refine foldlM _ (λ_ _=>?_) _|refine ite ?_ ?_) |split|dsimp only|trivial
instance (x0:Array ό) (x1:ό) (x2:Array υ):MC p (Go.Builtin.max_ x0 x1 x2):=⟨Vk x0 x1 x2⟩
def Vl(x0:Array ό)(x1:ό)(x2:Array υ):az p (Go.Builtin.min_ x0 x1 x2):=by
 unfold Go.Builtin.min_
 repeat' first| (with_reducible first|exact MC.h|refine bind' ?_ λ_=>?_|refine foldlM _ (λ_ _=>?_) _|refine ite ?_ ?_) |split|dsimp only|trivial
instance (x0:Array ό) (x1:ό) (x2:Array υ):MC p (Go.Builtin.min_ x0 x1 x2):=⟨Vl x0 x1 x2⟩
instance (x0:Nat) (x1:Nat) (x2:υ):MC p (Go.Builtin.firstCells x0 x1 x2):=MC.of (Go.Builtin.firstCells.eq_def _ _ _)
instance (x0:Array ό) (x1:ό) (x2:Array υ):MC p (Go.Builtin.copy_ x0 x1 x2):=MC.of (Go.Builtin.copy_.eq_def _ _ _)
def adh(x0:Array ό)(x1:ό)(x2:Array υ):az p (Go.Builtin.copy_ x0 x1 x2):=MC.h
instance (x0:Array ό) (x1:ό) (x2:Array υ):MC p (Go.Builtin.clear_ x0 x1 x2):=MC.of (Go.Builtin.clear_.eq_def _ _ _)
def adg(x0:Array ό)(x1:ό)(x2:Array υ):az p (Go.Builtin.clear_ x0 x1 x2):=MC.h
instance (x0:ϖ) (x1:Nat):MC p (Go.Builtin.holdsCells x0 x1):=MC.of (Go.Builtin.holdsCells.eq_def _ _)
instance (x0:Nat) (x1:Nat) (x2:Nat) (x3:Option ϖ) (x4:υ):MC p (Go.Builtin.mayShare x0 x1 x2 x3 x4):=MC.of (Go.Builtin.mayShare.eq_def _ _ _ _ _)
instance (x0:Array ό) (x1:ό) (x2:Array υ):MC p (Go.Builtin.append_ x0 x1 x2):=MC.of (Go.Builtin.append_.eq_def _ _ _)
def adf(x0:Array ό)(x1:ό)(x2:Array υ):az p (Go.Builtin.append_ x0 x1 x2):=MC.h
instance (x0:Į) (x1:Nat) (x2:ä):MC p (Go.Conv.floatToInt x0 x1 x2):=MC.of (Go.Conv.floatToInt.eq_def _ _ _)
def adp(x0:Į)(x1:Nat)(x2:ä):az p (Go.Conv.floatToInt x0 x1 x2):=MC.h
instance (x0:ä) (x1:Int):MC p (Go.Conv.intToInt x0 x1):=MC.of (Go.Conv.intToInt.eq_def _ _)
def adq(x0:ä)(x1:Int):az p (Go.Conv.intToInt x0 x1):=MC.h
instance (x0:ό) (x1:ByteArray):MC p (Go.Conv.stringToBytes x0 x1):=MC.of (Go.Conv.stringToBytes.eq_def _ _)
def adr(x0:ό)(x1:ByteArray):az p (Go.Conv.stringToBytes x0 x1):=MC.h
instance (x0:Bool) (x1:Nat) (x2:ό) (x3:υ):MC p (Go.Instr.checkKey x0 x1 x2 x3):=⟨by
 induction x1 generalizing x2 x3 with
 |zero=>exact trivial
 |succ n ih=>
 unfold Go.Instr.checkKey
 repeat' first| (with_reducible first|exact MC.h|exact ih _ _|exact newObj id|exact setObj _ id|refine bind' ?_ λ_=>?_|refine Dr _ (λ_ _=>?_) _|refine yf _ (λ_ _=>?_) _|refine Ma _ (λ_ _=>?_) _|refine map _ ?_|refine Ck _ λ_=>?_|refine EC _ λ_=>?_|refine foldlM _ (λ_ _=>?_) _|refine ite ?_ ?_) |split|dsimp only|trivial⟩
instance (x0:ό) (x1:υ) (x2:List đ) (x3:Nat):MC p (Go.Instr.findAsking x0 x1 x2 x3):=⟨by
 induction x2 generalizing x3 with
 |nil=>exact trivial
 |cons a l ih=>
 unfold Go.Instr.findAsking
 repeat' first| (with_reducible first|exact MC.h|exact ih _|exact newObj id|exact setObj _ id|refine bind' ?_ λ_=>?_|refine Dr _ (λ_ _=>?_) _|refine yf _ (λ_ _=>?_) _|refine Ma _ (λ_ _=>?_) _|refine map _ ?_|refine Ck _ λ_=>?_|refine EC _ λ_=>?_|refine foldlM _ (λ_ _=>?_) _|refine ite ?_ ?_) |split|dsimp only|trivial⟩
instance (x0:ό) (x1:υ) (x2:List đ):MC p (Go.Instr.findKey x0 x1 x2):=MC.of (Go.Instr.findKey.eq_def _ _ _)
instance (x0:ό) (x1:υ) (x2:υ) (x3:Bool):MC p (Go.Instr.lookup x0 x1 x2 x3):=MC.of (Go.Instr.lookup.eq_def _ _ _ _)
def aer(x0:ό)(x1:υ)(x2:υ)(x3:Bool):az p (Go.Instr.lookup x0 x1 x2 x3):=MC.h
instance (x0:υ) (x1:υ):MC p (Go.Instr.keyThatStays x0 x1):=MC.of (Go.Instr.keyThatStays.eq_def _ _)
instance (x0:ό) (x1:υ) (x2:υ) (x3:υ):MC p (Go.Instr.mapUpdate x0 x1 x2 x3):=MC.of (Go.Instr.mapUpdate.eq_def _ _ _ _)
def aev(x0:ό)(x1:υ)(x2:υ)(x3:υ):az p (Go.Instr.mapUpdate x0 x1 x2 x3):=MC.h
instance (x0:Nat):MC p (Go.Instr.getLoop x0):=MC.of (Go.Instr.getLoop.eq_def _)
instance (x0:Å) (x1:Array υ) (x2:Array Tmp) (x3:ϑ) (x4:ϑ) (x5:Option Nat):MC p (Go.Instr.enterLoop x0 x1 x2 x3 x4 x5):=MC.of (Go.Instr.enterLoop.eq_def _ _ _ _ _ _)
def aek(x0:Å)(x1:Array υ)(x2:Array Tmp)(x3:ϑ)(x4:ϑ)(x5:Option Nat):az p (Go.Instr.enterLoop x0 x1 x2 x3 x4 x5):=MC.h
instance (x0:Nat) (x1:Array υ):MC p (Go.Instr.yield x0 x1):=MC.of (Go.Instr.yield.eq_def _ _)
def aez(x0:Nat)(x1:Array υ):az p (Go.Instr.yield x0 x1):=MC.h
instance (x0:Nat):MC p (Go.Instr.beginRound x0):=MC.of (Go.Instr.beginRound.eq_def _)
def aef(x0:Nat):az p (Go.Instr.beginRound x0):=MC.h
instance (x0:Nat) (x1:Option ϑ):MC p (Go.Instr.endRound x0 x1):=MC.of (Go.Instr.endRound.eq_def _ _)
def aej(x0:Nat)(x1:Option ϑ):az p (Go.Instr.endRound x0 x1):=MC.h
instance (x0:Nat):MC p (Go.Instr.endLoop x0):=MC.of (Go.Instr.endLoop.eq_def _)
def aei(x0:Nat):az p (Go.Instr.endLoop x0):=MC.h
instance (x0:Nat):MC p (Go.Instr.takeDeferred x0):=MC.of (Go.Instr.takeDeferred.eq_def _)
def aey(x0:Nat):az p (Go.Instr.takeDeferred x0):=MC.h
def results(x0:Á)(x1:Array υ):az p (Go.results x0 x1):=by
 unfold Go.results
 repeat' first| (with_reducible first|exact MC.h|refine bind' ?_ λ_=>?_|refine Ck _ λ_=>?_|refine ite ?_ ?_) |split|dsimp only|trivial
instance (x0:Á) (x1:Array υ):MC p (Go.results x0 x1):=⟨results x0 x1⟩
end az
end Go.Sim
namespace Go.Sim
open Go
def aa6(w:Ψ)(a:ϖ)(s:String):Da (w.noCell a s):=by
 unfold Ad0;split<;>trivial
def ah6(e:w.farLoad p a b=.error h):Da h:=by
 unfold World.farLoad at e;split at e
 ·split at e
  ·cases e
  ·cases e;trivial
 ·cases e;exact aa6 _ _ _
def ah8(e:w.farStore p a v b=.error h):Da h:=by
 unfold Ad2 at e;split at e
 ·split at e
  ·cases e
  ·cases e;trivial
 ·cases e;exact aa6 _ _ _
def aqA{s:Sem α}(hs:az p s):∀(w:Ψ) (h:Halt) (w':Ψ),s.run p w=.halt h w'->Da h:=by
 induction s with
 |pure a=>intro w h w' e;cases e
 |load m a k ih=>
  intro w h w' e;simp only[Ϣ] at e;split at e
  ·exact ih _ (hs _) _ _ _ e
  ·split at e
   ·exact ih _ (hs _) _ _ _ e
   ·rename_i hf
    cases e;exact ah6 hf
 |store m a v k ih=>
  intro w h w' e;cases v<;>simp only[Ϣ] at e<;>first
   | (cases e;trivial)
   | (split at e
      ·split at e
       ·cases e;trivial
       ·exact ih hs _ _ _ e
      ·split at e
       ·exact ih hs _ _ _ e
       ·rename_i hf
        cases e;exact ah8 hf)
 |new o k ih=>intro w h w' e;exact ih _ (hs.2 _) _ _ _ e
 |shape r k ih=>intro w h w' e;exact ih _ (hs _) _ _ _ e
 |freeze a n k ih=>intro w h w' e;exact ih hs _ _ _ e
 |frozen a k ih=>intro w h w' e;exact ih _ (hs _) _ _ _ e
 |getObj r k ih=>
  intro w h w' e;simp only[Ϣ] at e;split at e
  ·cases e;trivial
  ·exact ih _ (hs _) _ _ _ e
  ·cases e;trivial
 |setObj r o k ih=>
  intro w h w' e;simp only[Ϣ] at e;split at e
  ·cases e;trivial
  ·exact ih hs.2 _ _ _ e
  ·cases e;trivial
 |choose q k ih=>
  intro w h w' e;simp only[Ϣ] at e;split at e
  ·exact ih _ (hs _) _ _ _ e
  ·exact ih _ (hs _) _ _ _ e
 |sys c k ih=>exact hs.elim
 |program k ih=>intro w h w' e;exact ih _ hs _ _ _ e
 |mark m k ih=>intro w h w' e;exact ih hs _ _ _ e
 |halt h=>intro w h' w' e;cases e;exact hs
def zP:ô->Ψ
 | .go _ w _=>w
 | .ended _ w _=>w
 |_=>default
def aiQ(T:Tape):ô->ô
 | .go g w es=>.go g (bh w T) es
 | .ended o w es=>.ended o (bh w T) es
 |s=>s
inductive DL:Bool->List Æ->Prop
 |nil:DL χ []
 |stop:DL θ [b6]
 |cons {b:Bool} (r:Nat) {ds:List Æ} (h:DL b ds):DL b (⟨.collected r,#[]⟩::ds)
inductive vm:List ϝ->Prop
 |base {fr:ϝ} (h:DL θ fr.defers):vm [fr]
 |call {fr:ϝ} {cs:List ϝ} (h:DL χ fr.defers) (t:vm cs):vm (fr::cs)
inductive xN:ô->Prop
 |plain {g:ϐ} {w:Ψ} {es:Array Í} (h:Plain g) (hn:bN w.heap):xN (.go g w es)
 |ended {o:Outcome} {w:Ψ} {es:Array Í}:xN (.ended o w es)
 |yd {fr:ϝ} {cs:List ϝ} {w:Ψ} {es:Array Í} {ch:List Abt} (hm:fr.mode=.panicking ch) (hd:vm (fr::cs)) (hn:bN w.heap):xN (.go (aR fr cs) w es)
structure Good(f:Ψ->ô)(w:Ψ):Prop where
 cls:xN (f w)
 drawn:w.drawn<=(zP (f w)).drawn
 tape:(zP (f w)).tape=w.tape
 loc:∀T:Tape,(∀j q,w.drawn<=j->j<(zP (f w)).drawn->T j q=w.tape j q)->(f (bh w T)).bare=aiQ T (f w).bare
def Xe{s:ô}:xN s.bare↔xN s:=by
 cases s with
 |go g w es=>
  refine⟨λh=>?_,λh=>?_⟩
  ·have:∀s,xN s->s=.go g w #[]->xN (.go g w es):=by
    intro s hs e;cases hs with
    |plain h hn=>cases e;exact .plain h hn
    |ended=>cases e
    |yd hm hd hn=>cases e;exact .yd hm hd hn
   exact this _ h rfl
  ·have:∀s,xN s->s=.go g w es->xN (.go g w #[]):=by
    intro s hs e;cases hs with
    |plain h hn=>cases e;exact .plain h hn
    |ended=>cases e
    |yd hm hd hn=>cases e;exact .yd hm hd hn
   exact this _ h rfl
 |ended o w es=>exact⟨λ_=>.ended,λ_=>.ended⟩
 |_=>exact⟨λh=>(by cases h),λh=>(by cases h)⟩
def Yg(s:ô):zP s.bare=zP s:=by cases s<;>rfl
def Good.congr{f g:Ψ->ô}(h:∀w,(f w).bare=(g w).bare)(x:Good g w):Good f w:=by
 have e:zP (f w)=zP (g w):=by rw[<-Yg,h,Yg]
 refine⟨Xe.1 (by rw[h];exact Xe.2 x.cls),by rw[e];exact x.drawn,by rw[e];exact x.tape,λT hT=>?_⟩
 rw[e] at hT;rw[h,h];exact x.loc T hT
def Good.pure(h:Plain g)(hn:bN w.heap):Good (λw=>.go g w es) w:=⟨.plain h hn,ϊ _,rfl,λ_ _=>rfl⟩
def Good.ended{o:Outcome}{w:Ψ}{es:Array Í}:Good (λw=>.ended o w es) w:=⟨.ended,ϊ _,rfl,λ_ _=>rfl⟩
def Good.yd{fr:ϝ}{cs:List ϝ}{w:Ψ}{es:Array Í}{ch:List Abt}(hm:fr.mode=.panicking ch)(hd:vm (fr::cs))(hn:bN w.heap):Good (λw=>.go (aR fr cs) w es) w:=
 ⟨.yd hm hd hn,ϊ _,rfl,λ_ _=>rfl⟩
def Good.AA{s:Sem α}(hs:az p s){k:Č α->ô}(hn:bN w.heap)
 (cE:∀a ao,s.run p w=.ok a ao->bN ao.heap->Good (λw=>k (.ok a w)) ao)
 (hh:∀h ao,s.run p w=.halt h ao->Da h->bN ao.heap->Good (λw=>k (.halt h w)) ao):Good (λw=>k (s.run p w)) w:=by
 have hd:=abH hs w;have nJ:=aqB hs w hn;cases e:s.run p w with
 |ok a ao=>
  rw[e] at hd nJ;simp only[G6] at hd nJ;have g:=cE a ao e nJ;refine⟨by simp only[e];exact g.cls,by simp only[e];exact ϣ hd.1 g.drawn,by simp only[e];exact g.tape.trans hd.2,λT hT=>?_⟩
  simp only[e] at hT |-
  have l:=abL hs w T (λj q h1 h2=>hT j q h1 (by rw[e] at h2;exact ϟ h2 g.drawn))
  rw[l,e];exact g.loc T λj q h1 h2=>(hT j q (ϣ hd.1 h1) h2).trans (by rw[hd.2])
 |halt h ao=>
  have ho:=aqA hs w h ao e;rw[e] at hd nJ;simp only[G6] at hd nJ;have g:=hh h ao e ho nJ;refine⟨by simp only[e];exact g.cls,by simp only[e];exact ϣ hd.1 g.drawn,by simp only[e];exact g.tape.trans hd.2,λT hT=>?_⟩
  simp only[e] at hT |-
  have l:=abL hs w T (λj q h1 h2=>hT j q h1 (by rw[e] at h2;exact ϟ h2 g.drawn))
  rw[l,e];exact g.loc T λj q h1 h2=>(hT j q (ϣ hd.1 h1) h2).trans (by rw[hd.2])
def agS{ch:List Abt}(hm:fr.mode=.panicking ch)(hd:vm (fr::cs))(hn:bN w.heap):
 (∃o aa,step p (å fr cs w)=.ended o aa)\/∃qh rW aa Dj,step p (å fr cs w)=.next (å qh rW aa)/\qh.mode=.panicking Dj/\vm (qh::rW)/\bN aa.heap:=by
 have JZ:Ϛ p θ (aR fr cs) w=Î p θ fr cs ν w:=by
  unfold Ϛ;simp only[hm]
 have hDL:∃b,DL b fr.defers/\(b=θ->cs=[])/\(b=χ->vm cs):=by
  cases hd with
  |base h=>exact⟨θ,h,λ_=>rfl,λh=>(by cases h)⟩
  |call h t=>exact⟨χ,h,λh=>(by cases h),λ_=>t⟩
 obtain⟨b,hl,h1,h2⟩:=hDL;generalize F8:fr.defers=df at hl;cases hl with
 |nil=>
  have ht:=h2 rfl;have key:∀(c:ϝ) (rest:List ϝ),cs=c::rest->(∃o,Î p θ fr cs ν w=.ended o w)\/Î p θ fr cs ν w=.go {frame:=c.raise ch,callers:=rest,status:=.running,dying:=ν} w:=by
   intro c rest mR;subst mR;unfold Î;simp only[F8,hm];by_cases hc:fr.catches p=θ
   ·rw[if_pos hc];exact .inl ⟨_,rfl⟩
   ·rw[if_neg hc];exact .inr rfl
  have rz:∀c:ϝ,(∃Dj,(c.raise ch).mode=.panicking Dj)/\(c.raise ch).defers=c.defers:=by
   intro c;unfold Ack;split<;>exact⟨⟨_,rfl⟩,rfl⟩
  obtain⟨c,rest,mR⟩:∃c rest,cs=c::rest:=by
   cases ht with
   |base h=>exact⟨_,_,rfl⟩
   |call h t=>exact⟨_,_,rfl⟩
  obtain⟨⟨Dj,DS⟩,YL⟩:=rz c;rcases key c rest mR with⟨o,e⟩ |e
  ·left
   refine⟨o,w,Ab1 ?_⟩
   rw[show Ϛ p θ {frame:=fr,callers:=cs,status:=.running,dying:=ν} w=_ from JZ,e]
   rfl
  ·right
   refine⟨c.raise ch,rest,w,Dj,Ab2 ?_,DS,?_,hn⟩
   ·rw[show Ϛ p θ {frame:=fr,callers:=cs,status:=.running,dying:=ν} w=_ from JZ,e]
    rfl
   ·subst mR
    cases ht with
    |base h=>exact .base (YL▸h)
    |call h t=>exact .call (YL▸h) t
 |stop=>
  left;have e:Î p θ fr cs ν w=ě p {fr with defers:=[]} cs ν b6 w:=by
   unfold Î;simp only[F8,b6]
  have e2:∃o,(ě p {fr with defers:=[]} cs ν b6 w).bare=.ended o w:=by
   unfold ě b6;simp[Go.invoke,Go.stuck,Ϧ,bind,ϫ]
  obtain⟨o,e2⟩:=e2;refine⟨o,w,Ab1 ?_⟩
  rw[show Ϛ p θ {frame:=fr,callers:=cs,status:=.running,dying:=ν} w=_ from JZ,e]
  exact e2
 | @cons _ r ds h=>
   have e:(Î p θ fr cs ν w).bare=(match(Œ r).run p w with
    | .ok calls w=>(.go {frame:={fr with defers:=calls++ds},callers:=cs,status:=.running,dying:=ν} w:ô)
    | .halt _ w=>.ended (.stuck "the deferred calls of a range-over-func loop have been taken" (fr.pos p)) w).bare:=by
    unfold Î;simp only[F8,Ľ,Ady];cases(Œ r).run p w<;>rfl
   have bt:(Œ r).run p w=.ok [] {w with heap:=w.heap.setIfInBounds r (.deferred ν)}\/∃h ao,(Œ r).run p w=.halt h ao:=by
    unfold Œ;simp only[Go.getObj,bind,ϫ,Ϣ];cases ho:w.heap[r]? with
    |none=>right;exact⟨_,_,rfl⟩
    |some o=>
     cases o;case deferred calls=>
      cases calls with
      |none=>right;simp[Go.stuck,Ϣ]
      |some l=>
       cases l with
       |nil=>left;simp[Go.setObj,ϫ,Ϣ,ho,pure]
       |cons x l=>exact absurd (show wm (.deferred (φ (x::l))) from trivial) (hn.get ho)
     all_goals (right;simp[Go.stuck,Ϣ])
   rcases bt with hr| ⟨h',ao,hr⟩
   ·right
    rw[hr] at e;refine⟨{fr with defers:=ds},cs,_,ch,Ab2 (w':={w with heap:=w.heap.setIfInBounds r (.deferred ν)}) ?_,hm,?_,hn.set r (λh=>h)⟩
    ·rw[show Ϛ p θ {frame:=fr,callers:=cs,status:=.running,dying:=ν} w=_ from JZ,e]
     rfl
    ·cases b with
     |true=>rw[h1 rfl];exact .base h
     |false=>exact .call h (h2 rfl)
   ·left
    rw[hr] at e;refine⟨_,_,Ab1 (o:=.stuck "the deferred calls of a range-over-func loop have been taken" (fr.pos p)) (w':=ao) ?_⟩
    rw[show Ϛ p θ {frame:=fr,callers:=cs,status:=.running,dying:=ν} w=_ from JZ,e]
    rfl
def agR:∀(n:Nat) {fr:ϝ} {cs:List ϝ} {w:Ψ} {ch:List Abt},fr.mode=.panicking ch->vm (fr::cs)->bN w.heap->
 ∀ {qh:ϝ} {rW:List ϝ} {aa:Ψ},runN p n (å fr cs w)=.next (å qh rW aa)->∃Dj,qh.mode=.panicking Dj:=by
 intro n;induction n with
 |zero=>
  intro fr cs w ch hm hd hn qh rW aa e;simp only[runN,å,Stepped.next.injEq,Machine.mk.injEq] at e;obtain⟨_,e,_⟩:=e;simp only[Array.mk.injEq,List.cons.injEq,Aco] at e;exact⟨ch,e.1.1▸hm⟩
 |succ n ih=>
  intro fr cs w ch hm hd hn qh rW aa e;simp only[runN] at e;rcases agS (p:=p) hm hd hn with⟨o,aa,h⟩ | ⟨aun,aud,ao,aua,h,xh,mJ,dw⟩
  ·rw[h] at e;cases e
  ·rw[h] at e
   exact ih xh mJ dw e
end Go.Sim
namespace Go.Sim
open Go
section
variable {P:Ϙ}{F:Array Á}{C:bS}{G:Nat->Bool}{ρ:Ren}
def az.val{s:Sem υ}(h:az p s):az p (do ϧ (ş (<-s))):=az.bind' h λ_=>trivial
def az.unit{s:Sem Unit}(h:az p s):az p (do s;ϧ Adn):=az.bind' h λ_=>trivial
def az.K6{t:ό}(h:p.underlying t=φ d){f:ō->Sem α}(hf:az p (f d)):az p (Go.underlying t>>=f):=by
 show az p ((match p.underlying t with
  |some d=>(ϧ d:Sem ō)
  |none=>Go.stuck _)>>=f)
 rw[h];exact hf
def az.convert{s d:ό}(h:Vv P s d)(x:υ):az (tw P F) (Go.convert s d x):=by
 cases h with
 |ints j k h1 h2=>
  unfold Go.convert;refine az.K6 (d:=.int j) (by rw[pT];exact h1) (az.K6 (d:=.int k) (by rw[pT];exact h2) ?_)
  cases x;case int=>exact az.adq _ _
  case float=>exact az.adp _ _ _
  case pointer q=>cases q<;>exact trivial
  all_goals exact trivial
 |bytes e h1 h2 h3=>
  unfold Go.convert;refine az.K6 (d:=.string) (by rw[pT];exact h1) (az.K6 (d:=.slice e) (by rw[pT];exact h2) ?_)
  cases x;case string=>exact az.K6 (d:=.int .u8) (by rw[pT];exact h3) (az.adr _ _)
  case slice q n c=>cases q<;>exact trivial
  all_goals exact trivial
def az.callFunc(E:Env P F C G)(f:Å)(x:Array υ):az (tw P F) (Go.callFunc f x):=by
 have XE:∀fn c,F[f]?=φ fn->fn.body=φ c->(fn.name== "runtime.NumGoroutine")=χ->az (tw P F) (Go.callFunc f x):=by
  intro fn c h1 h3 h5;have e1:(tw P F).funcs[f]?=φ fn:=h1;unfold Go.callFunc;show az (tw P F) (match(tw P F).funcs[f]? with
   |none=>Go.stuck _
   |some fn=>_)
  simp only[e1,h5,h3,Aec,Ì,if_false];trivial
 by_cases hf:C.ok f=θ
 ·obtain⟨fn,c,h1,h2,h3,h4,h5⟩:=E.get f hf
  exact XE fn c h1 h3 h5
 ·by_cases hh:C.hole f=θ
  ·obtain⟨fn,fn',c,c',h1,h2,h3,h4,h5,h6⟩:=E.JL f hh
   exact XE fn c h1 h3 h5
  ·rcases E.dead f (by simpa using hf) (by simpa using hh) with e| ⟨fn,e,D⟩
   ·have e1:(tw P F).funcs[f]?=ν:=e
    unfold Go.callFunc;show az (tw P F) (match(tw P F).funcs[f]? with
     |none=>Go.stuck _
     |some fn=>_)
    simp only[e1];trivial
   ·have e1:(tw P F).funcs[f]?=φ fn:=e
    unfold Go.callFunc;show az (tw P F) (match(tw P F).funcs[f]? with
     |none=>Go.stuck _
     |some fn=>_)
    simp only[e1,D.name,D.body,D.next,D.row,D.init,Option.isNone_none,Ì,if_false,if_true,Bool.false_and];trivial
def az.GB(E:Env P F C G)(hv:ah ρ v v')(x:Array υ):az (tw P F) (do let d <-Acg v x;Go.invoke d.target d.args):=by
 cases hv;case func fn fn' a a' b b' h ha h1 hb h2=>
  cases h with
  |func f=>exact az.callFunc E f _
  |yield hl=>exact az.aez _ _
 case nilFunc=>
  show az (tw P F) (Go.runtimePanic .nilDeref:Sem Next);exact az.runtimePanic _
 case fjunk=>
  have e:(do let d <-Acg (.func (.method "") #[.nilIface] #[]) x;Go.invoke d.target d.args:Sem Next)=Go.runtimePanic .nilDeref:=by
   show Go.invoke (.fn (.method "") #[]) (#[.nilIface]++x)=_;have h0:(#[Value.nilIface]++x)[0]?=φ .nilIface:=by rw[Aaw (by simp)];rfl
   unfold Go.invoke;simp only[h0,Go.callMethod]
  rw[e];exact az.runtimePanic _
 all_goals exact trivial
def az.builtin{p:Ϙ}{Q:Ϙ}(b:Builtin)(ts:Array ό)(t:ό)(cs:Array Bool)(x:Array υ)(n:Nat)(hb:Bg Q ts n b=θ):az p (Go.builtin b ts t cs x):=by
 cases b<;>try(simp[Bg] at hb;done)
 case append=>exact az.val (az.adf _ _ _)
 case clear=>exact az.val (az.adg _ _ _)
 case copy=>exact az.val (az.adh _ _ _)
 case len=>exact az.val (az.adi _ _ _)
 case max=>exact az.val (az.Vk _ _ _)
 case min=>exact az.val (az.Vl _ _ _)
variable {e e':Ç->υ}
def az.execOp(E:Env P F C G)(o:Oper)(ho:qw P G o=θ)(h:wD G ρ e e'):az (tw P F) (Go.execOp e o):=by
 unfold qw at ho;rw[Ϫ] at ho;obtain⟨jy,ae⟩:=ho;have mem:∀x,x∈o.op.operands->ah ρ (e x) (e' x):=λx hx=>h x (LH jy hx)
 unfold Go.execOp;generalize o.op=op at *;cases op<;>try(simp[o5] at ae;done)
 case move x=>exact trivial
 case assign x=>exact trivial
 case pick c a b=>exact az.bind' (az.asBool _) λ_=>trivial
 case alloc t=>exact az.val (az.aee _ _ _)
 case box t x=>exact az.val (az.aeg _ _)
 case build t ps=>exact az.val (az.VW _ _)
 case buildSlice t n ps=>exact az.val (az.aeh _ _ _)
 case load t a=>exact az.val (az.aeq _ _)
 case store t a x=>exact az.unit (az.aex _ _ _)
 case binOp bop t x y yt=>exact az.val (az.bind' (az.eqGuard _ _ _ _ _ _) λ_=>az.binOp _ _ _ _)
 case unOp u t x=>
  cases u<;>try(simp[o5] at ae;done)
  refine az.val ?_
  unfold Op.unary;cases e x<;>exact trivial
 case convert s d x=>
  refine az.val (az.convert (P:=P) ?_ _)
  simp only[o5,FG] at ae;split at ae
  ·exact .ints _ _ (by assumption) (by assumption)
  ·unfold Fx at ae
   split at ae
   ·exact .bytes _ (by assumption) (by assumption) (by assumption)
   ·cases ae
  ·cases ae
 case nilCheck x=>
  have hx:=mem x (by simp[ϻ])
  simp only;generalize e x=v at hx |-
  generalize e' x=v' at hx;cases hx;case func fn fn' _ _ _ _ hf _ _ _ _=>cases hf<;>exact trivial
  all_goals first|exact trivial|exact az.runtimePanic _
 case makeFunc fn a b=>exact az.val (az.aes _ _ _)
 case makeMap t r=>exact az.val (az.aet _ _)
 case makeSlice t l c=>exact az.val (az.aeu _ _ _)
 case slice t x lo hi mx=>exact az.val (az.aew _ _ _ _ _)
 case fieldAddr s x i=>exact az.val (az.aen _ _ _)
 case field t x i=>exact az.val (az.aem _ _ _)
 case indexAddr t x i=>exact az.val (az.aep _ _ _)
 case index t x i=>exact az.val (az.aeo _ _ _)
 case lookup t x i ok=>exact az.val (az.aer _ _ _ _)
 case mapUpdate t m k x=>exact az.unit (az.aev _ _ _ _)
 case extract x i=>exact az.val (az.ael _ _)
 case call c=>
  obtain⟨callee,args,ts⟩:=c;cases callee with
  |invoke=>simp[o5] at ae
  |value f=>exact az.GB E (mem f (by simp[ϻ,Call.operands])) _
  |builtin b=>exact az.builtin (Q:=P) b ts _ _ _ args.size (by simpa [o5] using ae)
end
end Go.Sim
namespace Go.Sim
open Go
def aeM:(Õ p θ fr cs ν s w).bare=(match s.run p w with
 | .ok n ao=>Õ p θ fr cs ν (.pure n) ao
 | .halt h ao=>Õ p θ fr cs ν (.halt h) ao).bare:=by
 have e:s.runT p w #[]=(s.run p w,(s.runT p w #[]).2):=Prod.ext (Ady p s w #[]) rfl;unfold Õ;simp only[if_true];rw[e];cases hr:s.run p w with
 |ok n ao=>simp only[Ľ,Ϧ];try(cases n<;>rfl)
 |halt h ao=>simp only[Ľ,Ϧ];try(cases h<;>first|rfl| (rename_i u;cases u<;>rfl))
def V3:Next->Prop
 | .value _| .skip| .enter .. | .round .. =>True
 |_=>False
section
variable {P:Ϙ}{F:Array Á}{C:bS}{S:Tl}{G:Nat->Bool}{ρ:Ren}
def Uo{s':Sem Next}(hs:gU (tw P F) P C ρ (rh C) s s')(hw:bX C ρ w w'):∀n ao,s.run (tw P F) w=.ok n ao->V3 n:=by
 intro n ao hr;obtain⟨bK,n',_,_,_,k,_⟩:=hs ρ ρ.le_refl w {w' with tape:=w.tape,drawn:=w.drawn} #[] (bX.rel ⟨hw.fx,hw.du,hw.fn,hw.inj,hw.obj⟩ (λ_ _=>rfl)) n ao hr
 cases k<;>trivial
def Xr{d d':List Æ}(h:pW S ρ b d d'):DL b d:=by
 induction h with
 |nil=>exact .nil
 |stop=>exact .stop
 |cons hd _ ih=>cases hd;exact .cons _ ih
def acn(h:gT C S ρ b fr ba)(hL:Below C S ρ b cs bp):vm (fr::cs):=by
 induction hL generalizing fr ba with
 |base=>cases h with|mk f ht hk hd hm hr hf=>exact .base (Xr hd)
 |call hq au _ ih=>
  refine .call ?_ (ih hq)
  cases h with|mk f ht hk hd hm hr hf=>exact Xr hd
def IY(fr:ϝ)(v:υ):(fr.finish v).mode=fr.mode/\(fr.finish v).defers=fr.defers:=by
 unfold Ē;split<;>exact⟨rfl,rfl⟩
def Av(h:fr.mode=.run):Plain (aR fr cs):=⟨⟨fr,cs,rfl⟩,λch e=>by simp only[h] at e;cases e⟩
def NO(h:fr.mode=.returning):Plain (aR fr cs):=⟨⟨fr,cs,rfl⟩,λch e=>by simp only[h] at e;cases e⟩
def P2(E:Env P F C G)(hs:az (tw P F) s)(hn:bN w.heap)(hm:fr.mode=.run)(hd:vm (fr::cs))
 (Ca:∀n ao,s.run (tw P F) w=.ok n ao->V3 n):Good (λw=>Õ (tw P F) θ fr cs ν s w) w:=by
 refine Good.congr (λw=>aeM) ?_
 refine Good.AA hs (k:=λr=>match r with
  | .ok n ao=>Õ (tw P F) θ fr cs ν (.pure n) ao
  | .halt h ao=>Õ (tw P F) θ fr cs ν (.halt h) ao) hn (λn ao hr dw=>?_) λh ao hr ho dw=>?_
 ·have ZS:=Ca n ao hr
  refine Good.congr (g:=λw=>match n with
   | .value v=>.go (aR (fr.finish v) cs) w
   | .skip=>.go (aR (fr.finish ω) cs) w
   | .enter f args=>.go (aR (í (tw P F) f args (match fr.todo with| .call _ θ _ _::_=>.wrapped|_=>.normal)) (fr::cs)) w
   | .round l f tmps a b=>.go (aR (Frame.round l f tmps a b .normal) (fr::cs)) w
   |_=>.ended (.stuck "" "") w) (λw=>?_) ?_
  ·unfold Õ
   simp only[if_true,Ϧ,Ľ];cases n<;>first|rfl|exact ZS.elim
  ·cases n<;>first|exact ZS.elim|skip
   case value v=>exact Good.pure (Av ((IY fr v).1.trans hm)) dw
   case skip=>exact Good.pure (Av ((IY fr ω).1.trans hm)) dw
   case enter f x=>exact Good.pure (Av rfl) dw
   case round l f tm a b=>exact Good.pure (Av rfl) dw
 ·cases h<;>first|exact ho.elim|skip
  case panic v=>
   obtain⟨ch,DS⟩:=raise_mode fr [{v,recovered:=χ}];refine Good.congr (g:=λw=>.go (aR (fr.raise [{v,recovered:=χ}]) cs) w) (λw=>?_) (Good.yd DS ?_ dw)
   ·unfold Õ
    simp only[if_true,Ϧ,Ľ]
   ·have:(fr.raise [{v,recovered:=χ}]).defers=fr.defers:=by unfold Ack;split<;>rfl
    cases hd with
    |base h=>exact .base (this▸h)
    |call h t=>exact .call (this▸h) t
  case stuck why=>
   refine Good.congr (g:=λw=>.ended (.stuck why (fr.pos (tw P F))) w) (λw=>?_) Good.ended
   unfold Õ;simp only[if_true,Ϧ,Ľ]
  case unsupported u=>
   by_cases hu:∃g,u=.initOrder g
   ·obtain⟨g,rfl⟩:=hu
    refine Good.congr (g:=λw=>early (tw P F) fr cs ν g w) (λw=>?_) ?_
    ·unfold Õ
     simp only[if_true,Ϧ,Ľ]
    ·refine Good.congr (g:=λw=>.ended (.unsupported (.initOrder g) (fr.pos (tw P F))) w) (λw=>?_) Good.ended
     unfold early;simp only[E.ahead,E.steps g,Aa4,Ì,if_false]
   ·refine Good.congr (g:=λw=>.ended (.unsupported u (fr.pos (tw P F))) w) (λw=>?_) Good.ended
    unfold Õ;simp only[if_true,Ϧ,Ľ];cases u<;>first|rfl|exact(hu ⟨_,rfl⟩).elim
def Good.KT{s:Sem α}(hs:az p s){q:Ϙ}{k:Č α->ô}(hn:bN w.heap)
 (cE:∀a ao,s.run p w=.ok a ao->bN ao.heap->Good (λw=>k (.ok a w)) ao)
 (hh:∀h ao,s.run p w=.halt h ao->Da h->bN ao.heap->Good (λw=>k (.halt h w)) ao):Good (λw=>Þ (seen q fn (s.runT p w #[]).2) (k (s.runT p w #[]).1)) w:=by
 refine Good.congr (g:=λw=>k (s.run p w)) (λw=>?_) (Good.AA hs hn cE hh)
 rw[Ľ,Ady]
def Xs(hn:bN w.heap)(bY:gT C S ρ χ fr ba)(hL:Below C S ρ χ cs bp)(m:Bool):Good (λw=>ĭ (tw P F) m fr cs ν v w) w:=by
 cases bY with
 |mk f ht hk hd hm hr hf=>
  cases hL with
  |call hq au hL=>
   cases hq with
   |mk f ht hk hd hm hr hf=>
    refine Good.pure (g:=aR (Ē _ v) _) ?_ hn
    cases hm with
    |run=>exact Av (IY _ _).1
    |returning=>exact NO (IY _ _).1
def To{w':Ψ}(hn:bN w.heap)(bY:gT C S ρ b fr ba)(hL:Below C S ρ b cs bp)(m:Bool)(j:Option ϑ):Good (λw=>Kk (tw P F) m fr cs w j) w:=by
 have nH:=bY;cases bY with
 | @mk f t t' ht k k' hk d d' hd md hm ro pd hr kg hf=>
   unfold Kk;cases hr with
   |none=>
    simp only;split
    ·exact Good.pure (NO rfl) hn
    ·exact Good.pure (NO rfl) hn
    ·exact Good.ended
   |some hl=>
    have hb:b=χ:=by
     cases b with
     |false=>rfl
     |true=>exact absurd (hf.base rfl) (by simp)
    subst hb;simp only;refine Good.KT (az.aej _ _) (k:=λr=>match r with
     | .ok v w=>ĭ (tw P F) m _ cs ν v w
     | .halt _ w=>.ended (.stuck "range over a function: no such loop" _) w) hn (λa ao _ dw=>Xs dw nH hL m) λ_ _ _ _ _=>Good.ended
def ahX(E:Env P F C G)(hG:∀g,G g=θ->ρ g g)(hn:bN w.heap)(hw:bX C ρ w w')(bY:gT C S ρ q fr ba)(xj:fr.mode=.run)(hL:Below C S ρ q cs bp)(m:Bool):
 Good (λw=>Θ (tw P F) m θ fr cs ν w) w:=by
 have nH:=bY;have aW:=acn bY hL;have iw:ot C ρ w {w' with tape:=w.tape,drawn:=w.drawn}:=bX.rel ⟨hw.fx,hw.du,hw.fn,hw.inj,hw.obj⟩ (λ_ _=>rfl)
 cases bY with
 | @mk f t t' ht k k' hk d d' hd md hm ro pd hr kg hf=>
   simp only at xj;subst xj;have cl:∀ {c},C.clean c->cy P G c=θ:=λh=>(E.clean _).1 h
   have lc:∀ {c},cy P G c=θ->C.clean c:=λh=>(E.clean _).2 h
   have pu:∀ {k₁:List Item} {d:List Æ},Good (λw=>.go (aR ⟨f,t,k₁,d,.run,.normal,ro⟩ cs) w) w:=Good.pure (Av rfl) hn
   have ev:∀ {k k':List Item} {d d':List Æ} {r r':Option Nat},wD G ρ (Ü ⟨f,t,k,d,.run,.normal,r⟩) (Ü ⟨f,t',k',d',.run,kg,r'⟩):=I3 hG ht
   cases hk with
   |nil=>exact To (w':=w') hn nH hL m ν
   |stop=>exact Good.ended
   | @cons _ i i' k k' hi hk=>
     cases hi with
     |inBlock id=>exact pu
     |inScope c hc=>exact pu
     |inLoop c hc=>exact pu
     |inRangeFunc hl=>exact Good.ended
     |beginRound=>
      refine P2 E (az.unit ?_) hn rfl aW ?_
      ·cases hr with
       |none=>exact trivial
       |some hl=>exact az.aef _
      ·refine Uo (P:=P) (C:=C) (ρ:=ρ) (Sim.UY (s':=pd.elim (Go.stuck "beginRound: no round") Ade) ?_) hw
       cases hr with
       |none=>exact Sim.stuck
       |some hl=>exact Sim.beginRound hl
     |endRangeFunc hl=>
      refine Good.KT (az.aei _) (k:=λr=>match r with
       | .ok jump w=>.go (aR ⟨f,t,(jump.map Item.code).toList++k,d,.run,.normal,ro⟩ cs) w
       | .halt (.panic v) w=>.go (aR ((⟨f,t,_,d,.run,.normal,ro⟩:ϝ).raise [{v,recovered:=χ}]) cs) w
       | .halt _ w=>.ended (.stuck "range over a function: no such loop" _) w) hn (λa ao _ dw=>Good.pure (Av rfl) dw) λh ao _ ho dw=>?_
      cases h with
      |panic v=>
       refine Good.yd (fr:=(⟨f,t,_,d,.run,.normal,ro⟩:ϝ).raise [{v,recovered:=χ}]) (ch:=[{v,recovered:=χ}]) rfl ?_ dw
       cases aW with
       |base h=>exact .base h
       |call h t=>exact .call h t
      |_=>exact Good.ended
     |inRegion id dr ops todo hc=>
      cases todo with
      |nil=>exact pu
      |cons i rest=>
       have D8:ops.all (qw P G)=θ:=cl hc;unfold Θ;simp only;split
       ·unfold stepG.oper
        simp only[Frame.oper?];cases ho:ops[i]? with
        |none=>exact Good.ended
        |some o=>
         have sP:o∈ops:= Ļ ho;have rA:qw P G o=θ:=by simpa using Ě.1 D8 o sP
         have tL:∀q,o.op≠ .defer q:=λq e=>by simp[qw,o5,e] at rA
         have he:=ev (k:=.inRegion ops (i::rest)::k) (k':=.inRegion ops (i::rest)::k') (d:=d) (d':=d') (r:=ro) (r':=pd);have:=P2 E (az.execOp E o rA he) hn rfl aW (Uo (gU.execOp E o rA he) hw);simp only;cases hr with
         |none=>exact this
         |some hl=>
          cases ae:o.op<;>first|exact absurd ae (tL _) |exact this
       ·exact Good.pure (Av (IY _ _).1) hn
     |cut hc=>
      rcases rP.Xo hc with rfl| ⟨x,y,y',rfl,rfl,ha,hb⟩
      ·exact Good.ended
      ·exact pu
     |code cd hc=>
      have mH:=cl hc;cases cd with
      |skip=>exact pu
      |label l=>exact pu
      |ret=>exact To (w':=w') hn nH hL m (φ .ret)
      |seq x y=>exact pu
      |cond x y z=>
       unfold Θ;simp only;split
       ·exact pu
       ·exact Good.ended
      |block id x=>exact pu
      |loop x=>exact pu
      |scope x=>exact pu
      |exit id=>
       have:=To (P:=P) (F:=F) (w':=w') hn nH hL m (φ (.exit id));unfold Θ;simp only;cases exitTo id k with
       |none=>exact this
       |some k₁=>exact pu
      |region id ops dr=>
       unfold Θ;simp only;cases dr with
       |false=>exact pu
       |true=>
        simp only[Aa4,Ì,if_false];refine Good.AA (p:=tw P F) (s:=Go.choose (.order f id)) (az.choose _) (k:=λr=>match r with
         | .ok n w=>.go (aR ⟨f,t,.inRegion ops (Region.schedule ((tw P F).follows .mixedOrders) ops n)::k,d,.run,.normal,ro⟩ cs) w
         | .halt _ w=>.ended (.stuck "order" ((⟨f,t,.code (.region id ops θ)::k,d,.run,.normal,ro⟩:ϝ).pos (tw P F))) w) hn (λa ao _ dw=>?_) (λh ao _ _ _=>?_)
        ·exact Good.pure (Av rfl) dw
        ·exact Good.ended
      |rangeFunc g ps x y=>
       simp only[cy,Ϫ] at mH;refine Good.KT (az.aek _ _ _ _ _ _) (k:=λr=>match r with
        | .ok (l,mark) w=>Õ (tw P F) θ ⟨f,t,.inRangeFunc l::k,mark++d,.run,.normal,ro⟩ cs ν
          (do let d <-resolve (Ü ⟨f,t,.inRangeFunc l::k,mark++d,.run,.normal,ro⟩) {callee:=.value g,args:=#[.const (.func (.yield l) #[] #[])],argTypes:=#[]} 0;Go.invoke d.target d.args) w
        | .halt _ w=>.ended (.stuck "range over a function: no such loop" _) w) hn (λa ao bt dw=>?_) λ_ _ _ _ _=>Good.ended
       obtain⟨bK,y2,ij,iy,k1,⟨hl,Ge⟩,k3,k4,k5⟩:=Sim.enterLoop (P:=P) (F:=F) (C:=C) f ht ps (lc mH.1.2) (lc mH.2) hr ρ ρ.le_refl w {w' with tape:=w.tape,drawn:=w.drawn} #[] iw a ao bt
       obtain⟨l1,Nr⟩:=a;obtain⟨Ev,Ns⟩:=y2;simp only at hl Ge |-
       have he:wD G bK (Ü ⟨f,t,.inRangeFunc l1::k,Nr++d,.run,.normal,ro⟩) (Ü ⟨f,t',.inRangeFunc Ev::k',Ns++d',.run,kg,pd⟩):=I3 (λg hg=>k4.le _ _ (hG g hg)) (ht.mono k4.le)
       have hy:aV bK #[Value.func (.yield l1) #[] #[]] #[Value.func (.yield Ev) #[] #[]]:=bU.one (R:=ah bK) (ah.func (.yield hl) rfl (by simp) rfl (by simp))
       refine P2 E ?_ dw rfl ?_ (Uo (Sim.rH (Sim.GB E (he g mH.1.1) (by simpa [Ü] using hy))) k3.core)
       ·exact az.GB E (he g mH.1.1) _
       ·have sM:gT C S bK q ⟨f,t,.inRangeFunc l1::k,Nr++d,.run,.normal,ro⟩ ⟨f,t',.inRangeFunc Ev::k',Ns++d',.run,kg,pd⟩:=.mk f (ht.mono k4.le) (.cons (.inRangeFunc hl) (hk.mono k4.le)) (pW.app Ge (hd.mono k4.le)) .run (by
         cases hr with
         |none=>exact .none
         |some h=>exact .some (k4.le _ _ h)) hf
        exact acn sM (hL.mono k4.le)
      |goto l=>simp[cy] at mH
      |refuse s=>simp[cy] at mH
def asW(E:Env P F C G)(hn:bN w.heap)(hw:bX C ρ w w')(bY:gT C S ρ b fr ba)(xj:fr.mode=.returning)(hL:Below C S ρ b cs bp)(m:Bool):
 Good (λw=>Î (tw P F) m fr cs ν w) w:=by
 have nH:=bY;cases bY with
 | @mk f t t' ht k k' hk d d' hd md hm ro pd hr kg hf=>
   simp only at xj;subst xj;have JP:ro=ν:=by
    rcases Aed ro with e| ⟨x,e⟩
    ·exact e
    ·exact absurd (hf.round (by simp[e])) (by simp)
   subst JP;cases hd with
   |nil=>
    obtain⟨fn,cd,h1,h2,h3,h4,h5⟩:=E.get f (hf.ok rfl rfl);have e1:(tw P F).funcs[f]?=φ fn:=h1;unfold Î;simp only[e1];refine Good.KT (az.results _ _) (k:=λr=>match r with
     | .ok v w=>ĭ (tw P F) m _ cs ν v w
     | .halt (.stuck s) w=>.ended (.stuck s _) w
     | .halt _ w=>.ended (.stuck "return: the result variables cannot be read" _) w) hn (λa ao _ dw=>Xs dw nH hL m) λh _ _ _ _=>?_
    cases h<;>exact Good.ended
   |stop=>
    refine Good.congr (g:=λw=>.ended (.stuck "call: a method without a receiver" ((⟨f,t,k,[],.returning,.normal,ν⟩:ϝ).pos (tw P F))) w) (λw=>?_) Good.ended
    unfold Î ě b6;simp[Go.invoke,Go.stuck,Ϧ,bind,ϫ]
   |cons hi hd=>
    cases hi with
    | @collected r r' hb=>
      refine Good.KT (az.aey _) (k:=λr=>match r with
       | .ok calls w=>.go {frame:={ (⟨f,t,k,_,.returning,.normal,ν⟩:ϝ) with defers:=calls++_},callers:=cs,status:=.running,dying:=ν} w
       | .halt _ w=>.ended (.stuck "the deferred calls of a range-over-func loop have been taken" _) w) hn (λa ao _ dw=>Good.pure (NO rfl) dw) λ_ _ _ _ _=>Good.ended
def ar7(E:Env P F C G)(hG:∀g,G g=θ->ρ g g)(hn:bN w.heap)(hw:bX C ρ w w')(bY:gT C S ρ q fr ba)(hL:Below C S ρ q cs bp):
 Good (λw=>Ϛ (tw P F) θ (aR fr cs) w) w:=by
 have nH:=bY;cases bY with
 | @mk f t t' ht k k' hk d d' hd md hm ro pd hr kg hf=>
   cases hm with
   |run=>exact ahX E hG hn hw nH rfl hL θ
   |returning=>exact asW E hn hw nH rfl hL θ
end
inductive Safe(p:Ϙ)(Q:ϐ->Ψ->Prop):ϐ->Ψ->Prop
 |stop {g:ϐ} {w:Ψ} (h:Q g w):Safe p Q g w
 |step {g:ϐ} {w:Ψ} (nx:Tape->ϐ×Ψ) (h:∀T:Tape,(∃es,Ϛ p θ g (bh w T)=.go (nx T).1 (nx T).2 es)/\Plain (nx T).1) (hs:∀T,Safe p Q (nx T).1 (nx T).2):Safe p Q g w
section
variable {P:Ϙ}{F:Array Á}{C:bS}{S:Tl}{G:Nat->Bool}
def Inv(C:bS)(S:Tl)(G:Nat->Bool)(g:ϐ)(w:Ψ):Prop:=
 bN w.heap/\∃(ρ:Ren) (b:Bool) (fr ba:ϝ) (cs bp:List ϝ) (w':Ψ),g=aR fr cs/\(∀g,G g=θ->ρ g g)/\gT C S ρ b fr ba/\Below C S ρ b cs bp/\bX C ρ w w'
def bX.left{ρ:Ren}(h:bX C ρ w w')(e:aa.heap=w.heap):bX C ρ aa w':=⟨by rw[e];exact h.fx,h.du,h.fn,h.inj,by rw[e];exact h.obj⟩
def bX.right{ρ:Ren}(h:bX C ρ w w')(e:aa.heap=w'.heap):bX C ρ w aa:=⟨h.fx,by rw[e];exact h.du,h.fn,h.inj,by rw[e];exact h.obj⟩
def Inv.bh{g:ϐ}{w:Ψ}(h:Inv C S G g w)(T:Tape):Inv C S G g (bh w T):=by
 obtain⟨hn,ρ,b,fr,ba,cs,bp,w',e,hG,bY,hL,hw⟩:=h;exact⟨hn,ρ,b,fr,ba,cs,bp,w',e,hG,bY,hL,hw.left rfl⟩
def Inv.Du(E:Env P F C G)(h:Inv C S G g w):Good (λw=>Ϛ (tw P F) θ g w) w:=by
 obtain⟨hn,ρ,b,fr,ba,cs,bp,w',e,hG,bY,hL,hw⟩:=h;subst e;exact ar7 E hG hn hw bY hL
def Inv.step(E:Env P F C G)(hh:∀f,C.hole f=χ){g:ϐ}{w:Ψ}(h:Inv C S G g w){fE:ϐ}{aa:Ψ}{es:Array Í}(e:Ϛ (tw P F) θ g w=.go fE aa es)(hp:Plain fE):Inv C S G fE aa:=by
 have nI:=h.Du E;have sa:bN aa.heap:=by
  have:=nI.cls;simp only[e] at this;cases this with
  |plain h hn=>exact hn
  |yd hm hd hn=>exact hn
 obtain⟨hn,ρ,b,fr,ba,cs,bp,w',rfl,hG,bY,hL,hw⟩:=h;have iw:ot C ρ w {w' with tape:=w.tape,drawn:=w.drawn}:=(hw.right (aa:={w' with tape:=w.tape,drawn:=w.drawn}) rfl).rel λ_ _=>rfl
 obtain⟨bK,ic,aC,es',h1,h2,h3,h4,h5⟩:=acj E hG iw bY hL θ θ θ .running .running ν ν fE aa es e hp;cases h2 with
 |inside sM tF=>exact⟨sa,bK,_,_,_,_,_,aC,rfl,λg hg=>h4.le _ _ (hG g hg),sM,tF,h3⟩
 |hole f hf=>rw[hh f] at hf;cases hf
def ane(h:å fr cs w=å ba bp w'):fr=ba/\cs=bp/\w=w':=by
 simp only[å,Machine.mk.injEq] at h;obtain⟨h1,h2,_⟩:=h;simp only[Array.mk.injEq,List.cons.injEq,Aco] at h2;exact⟨h2.1.1,h2.1.2.1,h1⟩
def Uh(E:Env P F C G)(hh:∀f,C.hole f=χ){Q:ϐ->Ψ->Prop}(hQ:∀g w T,Q g w->Q g (bh w T))(hQm:∀g w,Q g w->∀ch,g.frame.mode≠ .panicking ch)
 {FQ:ϐ}{aO:Ψ}(hi:Inv C S G FQ aO)
 (ak6:∀T:Tape,∃n qh rW aa,runN (tw P F) n (å FQ.frame FQ.callers (bh aO T))=.next (å qh rW aa)/\Q (aR qh rW) aa):Safe (tw P F) Q FQ aO:=by
 apply Ø;intro ajD
 let St:=ϐ×Ψ
 let E0:St->Prop:=λx=>Inv C S G x.1 x.2/\¬Safe (tw P F) Q x.1 x.2
 have ag:∀x:St,E0 x->∃T:Tape,∀y:St,(∃es,Ϛ (tw P F) θ x.1 (bh x.2 T)=.go y.1 y.2 es)->Plain y.1->¬Safe (tw P F) Q y.1 y.2:=by
  intro x hx;apply Ø;intro br;apply hx.2;have jy:∀T:Tape,∃y:St,(∃es,Ϛ (tw P F) θ x.1 (bh x.2 T)=.go y.1 y.2 es)/\Plain y.1/\Safe (tw P F) Q y.1 y.2:=by
   intro T;apply Ø;intro h;exact br ⟨T,λy h1 h2 h3=>h ⟨y,h1,h2,h3⟩⟩
  exact .step (λT=>ã (jy T)) (λT=>⟨(É (jy T)).1,(É (jy T)).2.1⟩) (λT=>(É (jy T)).2.2)
 have ak:∀x:St,∃T:Tape,E0 x->∀y:St,(∃es,Ϛ (tw P F) θ x.1 (bh x.2 T)=.go y.1 y.2 es)->Plain y.1->¬Safe (tw P F) Q y.1 y.2:=by
  intro x;by_cases hx:E0 x
  ·obtain⟨T,h⟩:=ag x hx
   exact⟨T,λ_=>h⟩
  ·exact⟨λ_ _=>0,λh=>absurd h hx⟩
 obtain⟨τ,hτ⟩:∃τ:St->Tape,∀x,E0 x->∀y:St,(∃es,Ϛ (tw P F) θ x.1 (bh x.2 (τ x))=.go y.1 y.2 es)->Plain y.1->¬Safe (tw P F) Q y.1 y.2:=
  ⟨λx=>ã (ak x),λx=>É (ak x)⟩
 let Live:St->Prop:=λx=>∃y:St,(∃es,Ϛ (tw P F) θ x.1 (bh x.2 (τ x))=.go y.1 y.2 es)/\Plain y.1
 obtain⟨nx,Sq,Sr⟩:∃nx:St->St,(∀x,Live x->(∃es,Ϛ (tw P F) θ x.1 (bh x.2 (τ x))=.go (nx x).1 (nx x).2 es)/\Plain (nx x).1)/\∀x,¬Live x->nx x=x:=by
  refine⟨λx=> @dite _ (Live x) (Aa8 _) (λh=>ã h) (λ_=>x),λx h=>?_,λx h=>?_⟩
  ·simp only[h,dite_true];exact É h
  ·simp only[h,dite_false]
 let sq:Nat->St:=λi=>Nat.rec (FQ,aO) (λ_ x=>nx x) i
 have sq0:sq 0=(FQ,aO):=rfl;have Oh:∀i,sq (i+1)=nx (sq i):=λ_=>rfl
 have Jv:∀x:St,E0 x->Good (λw=>Ϛ (tw P F) θ x.1 w) (bh x.2 (τ x)):=λx hx=>(hx.1.bh (τ x)).Du E
 have Jj:∀i,E0 (sq i):=by
  intro i;induction i with
  |zero=>exact⟨hi,ajD⟩
  |succ i ih=>
   rw[Oh];by_cases hl:Live (sq i)
   ·obtain⟨⟨es,h1⟩,h2⟩:=Sq _ hl
    exact⟨(ih.1.bh (τ (sq i))).step E hh h1 h2,hτ _ ih _ ⟨es,h1⟩ h2⟩
   ·rw[Sr _ hl];exact ih
 have hdr:∀i,(sq i).2.drawn<=(sq (i+1)).2.drawn:=by
  intro i;rw[Oh];by_cases hl:Live (sq i)
  ·obtain⟨⟨es,h1⟩,h2⟩:=Sq _ hl
   have:=(Jv _ (Jj i)).drawn;simp only[h1,zP] at this;exact this
  ·rw[Sr _ hl];exact ϊ _
 have Sj:∀i j,i<=j->(sq i).2.drawn<=(sq j).2.drawn:=by
  intro i j h;induction h with
  |refl=>exact ϊ _
  |step _ ih=>exact ϣ ih (hdr _)
 let At:Nat->Nat->Prop:=λj i=>(sq i).2.drawn<=j/\j<(sq (i+1)).2.drawn
 have hAt:∀j i k,At j i->At j k->i=k:=by
  intro j i k h1 h2;rcases Nat.lt_trichotomy i k with h|h|h
  ·have:=Sj (i+1) k h;have:=h1.2;have:=h2.1;omega
  ·exact h
  ·have:=Sj (k+1) i h;have:=h2.2;have:=h1.1;omega
 let T:Tape:=λj q=> @dite _ (∃i,At j i) (Aa8 _) (λh=>τ (sq (ã h)) j q) λ_=>
  @dite _ (∃i,¬Live (sq i)) (Aa8 _) (λh=>τ (sq (ã h)) j q) λ_=>0
 have DK:∀i j q,At j i->T j q=τ (sq i) j q:=by
  intro i j q h;have hex:∃i,At j i:=⟨i,h⟩
  show @dite _ (∃i,At j i) (Aa8 _) _ _=_
  simp only[hex,dite_true];rw[hAt j _ i (É hex) h]
 have RM:∀i,¬Live (sq i)->∀k,i<=k->sq k=sq i:=by
  intro i hl k hk;induction hk with
  |refl=>rfl
  |step _ ih=>rw[Oh,ih,Sr _ hl]
 have Ri:∀i j q,¬Live (sq i)->(sq i).2.drawn<=j->T j q=τ (sq i) j q:=by
  intro i j q hl hj;have br:¬ ∃k,At j k:=by
   rintro⟨k,h1,h2⟩;rcases Nat.lt_or_ge k i with h|h
   ·have:=Sj (k+1) i h;omega
   ·have e1:=RM i hl (k+1) (by omega)
    rw[e1] at h2;omega
  have hex:∃i,¬Live (sq i):=⟨i,hl⟩
  show @dite _ (∃i,At j i) (Aa8 _) _ _=_
  simp only[br,dite_false,hex,dite_true];have hc:=É hex;have:sq (ã hex)=sq i:=by
   rcases Nat.le_total i (ã hex) with h|h
   ·exact RM i hl _ h
   ·exact(RM _ hc _ h).symm
  rw[this]
 have SJ:∀i,∃fr cs,(sq i).1=aR fr cs:=by
  intro i;obtain⟨_,_,_,fr,_,cs,_,_,e,_⟩:=(Jj i).1;exact⟨fr,cs,e⟩
 have akz:∀i,Live (sq i)->step (tw P F) (å (sq i).1.frame (sq i).1.callers (bh (sq i).2 T))=.next (å (sq (i+1)).1.frame (sq (i+1)).1.callers (bh (sq (i+1)).2 T)):=by
  intro i hl;obtain⟨⟨es,h1⟩,h2⟩:=Sq _ hl;rw[<-Oh] at h1 h2;have hg:=Jv _ (Jj i);have yv:=hg.loc T (λj q a b=>by
   simp only[h1,zP] at b;exact DK i j q ⟨a,b⟩)
  simp only[h1] at yv;obtain⟨fr,cs,e⟩:=SJ i;obtain⟨⟨XR,Bn,e1⟩,_⟩:=h2;rw[e] at yv |-
  rw[e1] at yv |-
  exact Ab2 yv
 have ajZ:∀i,¬Live (sq i)->(∃o aa,step (tw P F) (å (sq i).1.frame (sq i).1.callers (bh (sq i).2 T))=.ended o aa)\/∃qh rW aa ch,step (tw P F) (å (sq i).1.frame (sq i).1.callers (bh (sq i).2 T))=.next (å qh rW aa)/\qh.mode=.panicking ch/\vm (qh::rW)/\bN aa.heap:=by
  intro i hl;have hg:=Jv _ (Jj i);have yv:=hg.loc T (λj q a _=>Ri i j q hl a)
  have YF:=hg.cls;obtain⟨fr,cs,e⟩:=SJ i;generalize hs:Ϛ (tw P F) θ (sq i).1 (bh (sq i).2 (τ (sq i)))=s at yv YF;cases YF with
  |plain h hn=>exact absurd ⟨(_,_),⟨_,hs⟩,h⟩ hl
  | @ended o w es=>
    left;rw[e] at yv |-
    exact⟨o,_,Ab1 yv⟩
  | @yd XR Bn w1 es ch hm hd hn=>
    right;rw[e] at yv |-
    exact⟨XR,Bn,bh w1 T,ch,Ab2 yv,hm,hd,hn⟩
 have ZN:∀n,(∀i,i<n->Live (sq i))->runN (tw P F) n (å (sq 0).1.frame (sq 0).1.callers (bh (sq 0).2 T))=.next (å (sq n).1.frame (sq n).1.callers (bh (sq n).2 T)):=by
  intro n hl;induction n with
  |zero=>rfl
  |succ n ih=>
   rw[runN_add,ih λi hi=>hl i (by omega)]
   simp only[runN,akz n (hl n (by omega))]
 obtain⟨n,qh,rW,aa,bt,hq⟩:=ak6 T;have bt:runN (tw P F) n (å (sq 0).1.frame (sq 0).1.callers (bh (sq 0).2 T))=.next (å qh rW aa):=bt;have hnQ:∀i,Q (aR (sq i).1.frame (sq i).1.callers) (bh (sq i).2 T)->False:=by
  intro i h;apply(Jj i).2;obtain⟨fr,cs,e⟩:=SJ i;have:=hQ _ _ (sq i).2.tape h;rw[e] at this |-
  exact .stop this
 by_cases jy:∀i,i<n->Live (sq i)
 ·have:=ZN n jy
  rw[this] at bt;simp only[Stepped.next.injEq] at bt;obtain⟨e1,e2,e3⟩:=ane bt;subst e1 e2 e3;exact hnQ n hq
 ·
  have:∃i,i<n/\¬Live (sq i)/\∀k,k<i->Live (sq k):=by
   have hex:∃i,i<n/\¬Live (sq i):=by
    apply Ø;intro h;exact jy λi hi=>Ø λhl=>h ⟨i,hi,hl⟩
   obtain⟨i,hi⟩:=hex;induction i using Nat.strongRecOn with
   |_ i ih=>
    by_cases hk:∃k,k<i/\¬Live (sq k)
    ·obtain⟨k,h1,h2⟩:=hk
     exact ih k h1 ⟨by omega,h2⟩
    ·exact⟨i,hi.1,hi.2,λk xf=>Ø λhl=>hk ⟨k,xf,hl⟩⟩
  obtain⟨i,fP,hl,Rs⟩:=this;have h1:=ZN i Rs;obtain⟨m,rfl⟩:∃m,n=i+(m+1):=⟨n - i - 1,by omega⟩
  have Gp:runN (tw P F) (i+(m+1)) (å (sq 0).1.frame (sq 0).1.callers (bh (sq 0).2 T))=.next (å qh rW aa):=bt;rw[runN_add,h1] at Gp;simp only[runN] at Gp;rcases ajZ i hl with⟨o,w2,h2⟩ | ⟨oV,qf,w2,ch,h2,hm,hd,hn⟩
  ·rw[h2] at Gp;cases Gp
  ·rw[h2] at Gp
   obtain⟨ch1,yy⟩:=agR m hm hd hn Gp;exact hQm _ _ hq ch1 yy
end
structure ay where
 O:Nat->Prop
 R:Nat->Prop
def ay.has(M:ay)(b:Nat):Prop:=M.O b\/M.R b
def ay.grow(M:ay)(w w':Ψ):ay:=⟨λb=>M.O b\/(w.heap.size<=b/\b<w'.heap.size),M.R⟩
structure bQ(M:ay)(w w':Ψ):Prop where
 size:w.heap.size<=w'.heap.size
 kept:∀b,M.has b->w'.heap[b]?=w.heap[b]?
 tape:w'.tape=w.tape
 os:w'.os=w.os
 e:w'.output=w.output
def bQ.refl(M:ay)(w:Ψ):bQ M w w:=⟨ϊ _,λ_ _=>rfl,rfl,rfl,rfl⟩
def bQ.trans{M:ay}{w aa ao:Ψ}(h:bQ M w aa)(k:bQ M aa ao):bQ M w ao:=
 ⟨ϣ h.size k.size,λb hb=>(k.kept b hb).trans (h.kept b hb),k.tape.trans h.tape,k.os.trans h.os,k.e.trans h.e⟩
def bQ.of_heap{M:ay}(h:w'.heap=w.heap)(ht:w'.tape=w.tape)(ho:w'.os=w.os)(hp:w'.output=w.output):bQ M w w':=⟨by rw[h];exact ϊ _,λ_ _=>by rw[h],ht,ho,hp⟩
def C6(M:ay)(e:Í):Prop:=
 (∃b:Nat,(e.loc=.obj b\/∃c:ϖ,e.loc=.cell c/\c.block=b)/\e.sync=χ/\M.has b/\(e.write=θ->M.O b))\/e.loc=.mark .noRoom\/∃f,e.loc=.mark (.extern f)
structure j4(M:ay)(w w':Ψ)(es:Array Í):Prop where
 size:w.heap.size<=w'.heap.size
 kept:∀b,b<w.heap.size->¬M.O b->w'.heap[b]?=w.heap[b]?
 tape:w'.tape=w.tape
 os:w'.os=w.os
 e:w'.output=w.output
 ev:∀e∈es,C6 (M.grow w w') e
def j4.idle(M:ay)(w:Ψ):j4 M w w #[]:=⟨ϊ _,λ_ _ _=>rfl,rfl,rfl,rfl,by simp⟩
inductive Walk(P:Ϙ)(main:Bool)(Stop:ay->ϐ->Ψ->Prop):ay->ϐ->Ψ->Prop
 |stop {M:ay} {g:ϐ} {w:Ψ} (h:∀aa,bQ M w aa->Stop M g aa):Walk P main Stop M g w
 |step {M:ay} {g:ϐ} {w:Ψ} (run:g.status=.running) (nx:Ψ->ϐ×Ψ×Array Í)
   (h:∀aa,bQ M w aa->Ϛ P main g aa=.go (nx aa).1 (nx aa).2.1 (nx aa).2.2/\j4 M aa (nx aa).2.1 (nx aa).2.2)
   (hs:∀aa,bQ M w aa->Walk P main Stop (M.grow aa (nx aa).2.1) (nx aa).1 (nx aa).2.1):Walk P main Stop M g w
def Walk.rely{Stop:ay->ϐ->Ψ->Prop}{M:ay}(h:Walk P main Stop M g w)(k:bQ M w aa):Walk P main Stop M g aa:=by
 cases h with
 |stop h=>exact .stop λao k2=>h ao (k.trans k2)
 |step run nx h hs=>exact .step run nx (λao k2=>h ao (k.trans k2)) λao k2=>hs ao (k.trans k2)
def Walk.bind{S1 S2:ay->ϐ->Ψ->Prop}{M:ay}(h:Walk P main S1 M g w)(k:∀M g w,S1 M g w->Walk P main S2 M g w):Walk P main S2 M g w:=by
 induction h with
 | @stop M g w h=>
   have:=k M g w (h w (bQ.refl M w));exact this
 |step run nx h _ ih=>exact .step run nx h ih
def Walk.mono{S1 S2:ay->ϐ->Ψ->Prop}{M:ay}(h:Walk P main S1 M g w)(k:∀M g w,S1 M g w->S2 M g w):Walk P main S2 M g w:=by
 induction h with
 |stop h=>exact .stop λaa k1=>k _ _ _ (h aa k1)
 |step run nx h _ ih=>exact .step run nx h ih
def Ch(p:Ϙ)(y x:ϐ×Ψ):Prop:=∃(T:Tape) (es:Array Í),Ϛ p θ x.1 (bh x.2 T)=.go y.1 y.2 es
inductive zp(p:Ϙ)(x:ϐ×Ψ):ϐ×Ψ->Prop
 |refl:zp p x x
 |step {y z:ϐ×Ψ} (h:zp p x y) (k:Ch p z y):zp p x z
def zp.trans{x y z:ϐ×Ψ}(h:zp p x y)(k:zp p y z):zp p x z:=by
 induction k with
 |refl=>exact h
 |step _ k ih=>exact .step ih k
structure oq(M:ay)(ρ:Ren)(w w':Ψ)(bT:ay)(aI:Ren)(aa aC:Ψ):Prop where
 le:ρ.le aI
 new:∀a b,aI a b->ρ a b\/(w.heap.size<=a/\w'.heap.size<=b)
 ta:w.heap.size<=aa.heap.size
 ng:w'.heap.size<=aC.heap.size
 qR:∀(a:Nat) (o:Obj),w.heap[a]?=φ o->rM o->aa.heap[a]?=φ o
 oJ:∀b:Nat,M.has b->(∀a,ρ a b->∃o,w.heap[a]?=φ o/\rM o)->aC.heap[b]?=w'.heap[b]?
 R:bT.R=M.R
 O:∀b,M.O b->bT.O b
 On:∀b,bT.O b->M.O b\/(w'.heap.size<=b/\b<aC.heap.size)
 tape:aC.tape=w'.tape
 os:aC.os=w'.os
 e:aC.output=w'.output
def ay.zT{M bT:ay}(hR:bT.R=M.R)(hO:∀b,M.O b->bT.O b){b:Nat}(h:M.has b):bT.has b:=h.imp (hO b) λx=>by rw[hR];exact x
def oq.trans{M bT wN:ay}{ρ aI bK:Ren}{w w' aa aC ao ij:Ψ}(h:oq M ρ w w' bT aI aa aC)(k:oq bT aI aa aC wN bK ao ij)(hM:∀b,M.has b->b<w'.heap.size):oq M ρ w w' wN bK ao ij where
 le:=Ren.le_trans h.le k.le
 new a b x:=by
  rcases k.new a b x with x| ⟨x,y⟩
  ·exact h.new a b x
  ·exact .inr ⟨ϣ h.ta x,ϣ h.ng y⟩
 ta:=ϣ h.ta k.ta
 ng:=ϣ h.ng k.ng
 qR a o x f:=k.qR a o (h.qR a o x f) f
 oJ b hb hf:=by
  refine(k.oJ b (ay.zT h.R h.O hb) λa ha=>?_).trans (h.oJ b hb hf)
  rcases h.new a b ha with x| ⟨_,y⟩
  ·obtain⟨o,ho,fo⟩:=hf a x
   exact⟨o,h.qR a o ho fo,fo⟩
  ·have:=hM b hb;omega
 R:=k.R.trans h.R
 O b x:=k.O b (h.O b x)
 On b x:=by
  rcases k.On b x with x| ⟨x,y⟩
  ·rcases h.On b x with x| ⟨x,y⟩
   ·exact .inl x
   ·exact .inr ⟨x,ϟ y k.ng⟩
  ·exact .inr ⟨ϣ h.ng x,y⟩
 tape:=k.tape.trans h.tape
 os:=k.os.trans h.os
 e:=k.e.trans h.e
def oq.keep{M:ay}{ρ:Ren}(h:bQ M w' aC):oq M ρ w w' M ρ w aC:=
 ⟨ρ.le_refl,λ_ _ h=>.inl h,ϊ _,h.size,λ_ _ h _=>h,λb hb _=>h.kept b hb,rfl,λ_ h=>h,λ_ h=>.inl h,h.tape,h.os,h.e⟩
def Fits(M:ay)(ρ:Ren)(w:Ψ):Prop:=∀a b,ρ a b->M.O b\/(M.R b/\∃o,w.heap[a]?=φ o/\rM o)
def bX.keep{C:bS}{M:ay}{ρ:Ren}(h:bX C ρ w w')(f:Fits M ρ w)(k:bQ M w' aC):bX C ρ w aC where
 fx:=h.fx
 du a b x:=ϟ (h.du a b x) k.size
 fn:=h.fn
 inj:=h.inj
 obj a b o x e:=by
  obtain⟨o',h1,h2⟩:=h.obj a b o x e;exact⟨o',by rw[k.kept b ((f a b x).imp id (·.1))];exact h1,h2⟩
section
variable {P:Ϙ}{F:Array Á}{C:bS}{S:Tl}{G:Nat->Bool}
structure Rel(P:Ϙ)(F:Array Á)(C:bS)(S:Tl)(G:Nat->Bool)(M:ay)(ρ:Ren)(g:ϐ)(w:Ψ)(g':ϐ)(w':Ψ):Prop where
 gr:zu P (tw P F) C S ρ g g'
 core:bX C ρ w w'
 nU:∀g,G g=θ->ρ g g
 fits:Fits M ρ w
 low:∀b,M.has b->b<w'.heap.size
def Rel.keep{M:ay}{ρ:Ren}{g g':ϐ}{w w' aC:Ψ}(h:Rel P F C S G M ρ g w g' w')(k:bQ M w' aC):Rel P F C S G M ρ g w g' aC:=
 ⟨h.gr,h.core.keep h.fits k,h.nU,h.fits,λb hb=>ϟ (h.low b hb) k.size⟩
def abA(E:Env P F C G){M:ay}{ρ:Ren}(h:Rel P F C S G M ρ g w g' w')
 (fP:∃b fr ba cs bp,g=aR fr cs/\g'=aR ba bp/\gT C S ρ b fr ba/\Below C S ρ b cs bp)
 {nx:Tape->ϐ×Ψ}(hn:∀T:Tape,(∃es,Ϛ (tw P F) θ g (bh w T)=.go (nx T).1 (nx T).2 es)/\Plain (nx T).1)(main:Bool):
 ∃(T:Tape) (aI:Ren) (ic:ϐ) (aC:Ψ) (es:Array Í),Ϛ P main g' w'=.go ic aC es/\j4 M w' aC es/\
  Rel P F C S G (M.grow w' aC) aI (nx T).1 (nx T).2 ic aC/\oq M ρ w w' (M.grow w' aC) aI (nx T).2 aC:=by
 obtain⟨b,fr,ba,cs,bp,rfl,rfl,bY,hL⟩:=fP
 let T:Tape:=λj q=>w'.tape (w'.drawn+(j - w.drawn)) q
 obtain⟨⟨es0,h1⟩,h2⟩:=hn T;have hw:ot C ρ (bh w T) w':=(h.core.left (aa:=bh w T) rfl).rel λj q=>by
  show w'.tape (w'.drawn+(w.drawn+j - w.drawn)) q=w'.tape (w'.drawn+j) q;rw[Nat.add_sub_cancel_left]
 obtain⟨aI,ic,aC,es,k1,k2,k3,k4,k5⟩:=acj E h.nU hw bY hL θ main θ .running .running ν ν _ _ _ h1 h2;have QQ:∀b,b<w'.heap.size->¬M.O b->∀a,ρ a b->∃o,w.heap[a]?=φ o/\rM o:=λb _ hb a ha=>((h.fits a b ha).resolve_left hb).2
 have aL:(bh w T).heap.size=w.heap.size:=rfl;have L5:j4 M w' aC es:=by
  refine⟨k4.ng,λb hb hO=>k4.oJ b hb (QQ b hb hO),k4.CO,k4.Cs,k4.Ct,λe he=>?_⟩
  rcases k5 e he with⟨b,a,e1,e2,e3,e4⟩ |x
  ·refine .inl ⟨b,e1,e2,?_⟩
   rcases k4.new a b e3 with x| ⟨x,y⟩
   ·rcases h.fits a b x with o| ⟨r,o,ho,fo⟩
    ·exact⟨.inl (.inl o),λ_=>.inl o⟩
    ·refine⟨.inr r,λJ3=>?_⟩
     rcases e4 with e4| ⟨o',uU,e4⟩
     ·have:=h.core.fx a b x;rw[aL] at e4;omega
     ·have e5:w.heap[a]?=φ o':=uU
      rw[ho] at e5;obtain rfl:=Ϟ e5;exact absurd fo (e4 J3)
   ·have hb:=k3.du a b e3
    exact⟨.inl (.inr ⟨y,hb⟩),λ_=>.inr ⟨y,hb⟩⟩
  ·exact .inr x
 refine⟨T,aI,ic,aC,es,k1,L5,⟨k2,k3,λg hg=>k4.le _ _ (h.nU g hg),λa b hab=>?_,λb hb=>?_⟩,⟨k4.le,k4.new,k4.ta,k4.ng,k4.qR,λb hb hf=>k4.oJ b (h.low b hb) hf,rfl,λ_ x=>.inl x,λ_ x=>x,k4.CO,k4.Cs,k4.Ct⟩⟩
 ·rcases k4.new a b hab with x| ⟨x,y⟩
  ·rcases h.fits a b x with o| ⟨r,o,ho,fo⟩
   ·exact .inl (.inl o)
   ·exact .inr ⟨r,o,k4.qR a o ho fo,fo⟩
  ·exact .inl (.inr ⟨y,k3.du a b hab⟩)
 ·rcases hb with(hb|hb) |hb
  ·exact ϟ (h.low b (.inl hb)) k4.ng
  ·exact hb.2
  ·exact ϟ (h.low b (.inr hb)) k4.ng
def acW(E:Env P F C G)(main:Bool){Q:ϐ->Ψ->Prop}{Stop:ay->ϐ->Ψ->Prop}(hs:Safe (tw P F) Q g w):
 ∀ {M:ay} {ρ:Ren} {g':ϐ} {w':Ψ},Rel P F C S G M ρ g w g' w'->
  (∀(bT:ay) (aI:Ren) (fE:ϐ) (aa:Ψ) (ic:ϐ) (aC:Ψ),Rel P F C S G bT aI fE aa ic aC->oq M ρ w w' bT aI aa aC->Safe (tw P F) Q fE aa->zp (tw P F) (g,w) (fE,aa)->
     (Q fE aa\/¬ ∃b fr ba cs bp,fE=aR fr cs/\ic=aR ba bp/\gT C S aI b fr ba/\Below C S aI b cs bp)->Stop bT ic aC)->Walk P main Stop M g' w':=by
 induction hs with
 | @stop g w h=>
   intro M ρ g' w' hR aW;exact .stop λaa k=>aW M ρ g w g' aa (hR.keep k) (.keep k) (.stop h) .refl (.inl h)
 | @step g w nx h hs ih=>
   intro M ρ g' w' hR aW;by_cases fP:∃b fr ba cs bp,g=aR fr cs/\g'=aR ba bp/\gT C S ρ b fr ba/\Below C S ρ b cs bp
   ·have key:∀aa:Ψ,∃y:ϐ×Ψ×Array Í,bQ M w' aa->∃(T:Tape) (aI:Ren),Ϛ P main g' aa=.go y.1 y.2.1 y.2.2/\j4 M aa y.2.1 y.2.2/\
     Rel P F C S G (M.grow aa y.2.1) aI (nx T).1 (nx T).2 y.1 y.2.1/\oq M ρ w aa (M.grow aa y.2.1) aI (nx T).2 y.2.1:=by
     intro aa;by_cases k:bQ M w' aa
     ·obtain⟨T,aI,ic,aC,es,a1,a2,a3,a4⟩:=abA E (hR.keep k) fP h main
      exact⟨(ic,aC,es),λ_=>⟨T,aI,a1,a2,a3,a4⟩⟩
     ·exact⟨(g',aa,#[]),λx=>absurd x k⟩
    have bt:g'.status=.running:=by obtain⟨b,fr,ba,cs,bp,_,rfl,_⟩:=fP;rfl
    refine .step bt (λaa=>ã (key aa)) (λaa k=>?_) λaa k=>?_
    ·obtain⟨T,aI,a1,a2,a3,a4⟩:=É (key aa) k
     exact⟨a1,a2⟩
    ·obtain⟨T,aI,a1,a2,a3,a4⟩:=É (key aa) k
     refine ih T a3 λwN bK cr ao I6 ij b1 b2 b3 b4 b5=>aW wN bK cr ao I6 ij b1 (((oq.keep k).trans a4 hR.low).trans b2 hR.low) b3 ?_ b5
     obtain⟨⟨es,h1⟩,_⟩:=h T;exact zp.trans (.step .refl ⟨T,es,h1⟩) b4
   ·exact .stop λaa k=>aW M ρ g w g' aa (hR.keep k) (.keep k) (.step nx h hs) .refl (.inr fP)
end
end Go.Sim
namespace Go.Sim
open Go Go.Conc
open Go.ConcN (sumTo upd sumTo_upd upd_ne upd_same)
def NA:Loc->Prop:=λ_=>False
def QK{M:ay}{B:Nat}(h:C6 M e)(hB:∀b,M.has b->b<B):EvL NA B e:=by
 obtain⟨loc,wr,sy⟩:=e;rcases h with⟨b,e1,e2,e3,e4⟩ |e1| ⟨f,e1⟩
 ·simp only at e1 e2 e4
  subst e2;rcases e1 with e1| ⟨c,e1,e5⟩
  ·subst e1
   refine⟨λ_ _ h=>h.elim,by simp,by simp,?_⟩
   cases wr<;>exact hB _ e3
  ·subst e1
   refine⟨λ_ _ h=>h.elim,by simp,by simp,?_⟩
   have:=hB _ e3;rw[<-e5] at this;cases wr<;>exact this
 ·simp only at e1
  subst e1;exact⟨λ_ _ h=>h.elim,by simp,by simp,by cases wr<;>cases sy<;>exact trivial⟩
 ·simp only at e1
  subst e1;exact⟨λ_ _ h=>h.elim,by simp,by simp,by cases wr<;>cases sy<;>exact trivial⟩
def vt(t:Trace):Prop:=∀op∈t,op.act≠ .mark .disable/\op.act≠ .mark .enable
def aa8(h:vt t)(g:Nat):∀i,t.deaf g i=0:=by
 intro i;induction i with
 |zero=>rfl
 |succ i ih=>
  unfold Trace.deaf;split
  ·rename_i ae
   exact absurd rfl (h _ (Ļ ae)).1
  ·rename_i ae
   exact absurd rfl (h _ (Ļ ae)).2
  ·exact ih
def NC(h:vt t){op:MemOp}(hi:t[i]?=φ op):t.heard i:=⟨op.g,by simp[Trace.g?,hi],aa8 h _ _⟩
def Ku(h:vt t)(g:Nat):Deaf t g=0:=aa8 h g _
def vt.app{u:Trace}(h:vt t)(k:vt u):vt (t++u):=λop ae=>(Aad.1 ae).elim (h op) (k op)
def TQ{M:ay}{g:Nat}{pos:String}(h:∀e∈es,C6 M e):vt (MemOp.ofEvents g fn pos es):=by
 intro op ae;obtain⟨e,he,rfl⟩:=Go.Conc.mem_ofEvents ae;obtain⟨loc,wr,sy⟩:=e;rcases h _ he with⟨b,e1,e2,_⟩ |e1| ⟨f,e1⟩
 ·simp only at e1 e2
  subst e2;rcases e1 with e1| ⟨c,e1,_⟩<;>subst e1<;>cases wr<;>exact⟨by simp[ē],by simp[ē]⟩
 ·simp only at e1
  subst e1;exact⟨by simp[ē],by simp[ē]⟩
 ·simp only at e1
  subst e1;exact⟨by simp[ē],by simp[ē]⟩
section
variable {P:Ϙ}
structure Fr(P:Ϙ)(gs:Array ϐ)(w:Ψ)(t:Trace)(q:Nat->Nat)(g:ϐ):Prop where
 zero:gs[0]?=φ g
 lv:∀i x,0<i->gs[i]?=φ x->QuitsIn P (q i) x
 nO:Past NA w.heap.size t
 nd:vt t
 gb:∀op∈t,op.g<gs.size
def Fr.amV{q:Nat->Nat}(h:Fr P gs w t q g):Leavers P t gs q:=
 ⟨λi x hi hx=>by rw[Ku h.nd];exact QuitsD.of_quitsIn (h.lv i x hi hx),λj _=>Ku h.nd j⟩
def woken_quits{b:ϐ}{k:Nat}(hB:QuitsIn P k b):woken P g g' w' b=b:=woken_quitsD (QuitsD.of_quitsIn hB)
def tU(g:Nat)(fn:Å)(pos:String):MemOp.ofEvents g fn pos #[]=#[]:=by simp[MemOp.ofEvents]
def Es(M:ay)(w:Ψ)(d:Nat):bQ M w (w.at d):=bQ.of_heap rfl rfl rfl rfl
def XV{sl:Option (Nat×Nat)}{q:Nat->Nat}(h:Fr P gs w t q g)(bt:g.status=.running):
 (∃d bz,stepT P (crowd gs w sl)=runT P (crowd gs (w.at d) bz) 0)\/
 ∃aY d bz ops q',stepT P (crowd gs w sl)=(.next (crowd aY (w.at d) bz),ops)/\aY.size=gs.size/\sumTo aY.size q'<sumTo gs.size q/\Fr P aY (w.at d) (t++ops) q' g:=by
 obtain⟨h0,hL,hP,hN,hG⟩:=h;have zU:∀g∈gs,awake g:=by
  intro x hx;obtain⟨i,hi,rfl⟩:=Aay.1 hx;rcases Nat.eq_zero_or_pos i with rfl|yC
  ·have:gs[0]=g:=by simpa [â hi] using h0
   rw[this];exact awake_of (.inl bt)
  ·exact awake_of ((hL i _ yC (â hi)).status.elim .inl λx=>.inr (.inr x))
 obtain⟨i,x,d,bz,hi,hg,aW⟩:=crowd_pick (P:=P) (w:=w) (sl:=sl) zU ⟨0,g,h0,bt⟩;rcases Nat.eq_zero_or_pos i with rfl|yC
 ·exact .inl ⟨d,bz,aW⟩
 ·right
  have hq:=hL i x yC hi;have di:(i==0)=χ:=by simp;omega
  have aj:i<gs.size:=(Ϝ.1 hi).1
  cases vL:q i with
  |zero=>rw[vL] at hq;rw[show x.status=.finished from hq] at hg;cases hg
  |succ k=>
   rw[vL] at hq;rcases hq with hf| ⟨_,g',JU,vK⟩
   ·rw[hf] at hg;cases hg
   have Ai:=runT_crowd_go (P:=P) (sl:=bz) (i:=i) hi (by rw[di];exact JU (w.at d))
   rw[tU] at Ai;have aL:((gs.map (woken P x g' (w.at d))).setIfInBounds i g').size=gs.size:=by simp
   have M8:sumTo gs.size (upd q i k)+(k+1)=sumTo gs.size q+k:=by
    have:=sumTo_upd q k id aj;simpa [vL] using this
   refine⟨(gs.map (woken P x g' (w.at d))).setIfInBounds i g',d,bz,#[],upd q i k,aW.trans Ai,aL,by rw[aL];omega,?_,λj y hj hy=>?_,by rw[á];exact hP,by rw[á];exact hN,by rw[á];exactλop ae=>by rw[aL];exact hG op ae⟩
   ·have au:i≠0:=by omega
    rw[ċ au,Ć,h0]
    simp[woken_run bt]
   ·by_cases vG:i=j
    ·subst vG
     rw[Array.getElem?_setIfInBounds_self_of_lt (by simpa using aj)] at hy
     obtain rfl:=Ϟ hy;rw[upd_same];exact vK
    ·rw[ċ vG,Ć] at hy
     obtain⟨z,hz,rfl⟩:=Ă.1 hy;have Eb:=hL j z hj hz;rw[woken_quits Eb,upd_ne q k (Ne.symm vG)];exact Eb
def XT{sl:Option (Nat×Nat)}{q:Nat->Nat}{fE:ϐ}{M:ay}(h:Fr P gs w t q g)(hs:Ϛ P θ g w=.go fE aa es)(hd:j4 M w aa es)(hM:∀b,M.has b->b<w.heap.size):
 ∃aY ops,runT P (crowd gs w sl) 0=(.next (crowd aY aa sl),ops)/\aY.size=gs.size/\Fr P aY aa (t++ops) q fE:=by
 obtain⟨h0,hL,hP,hN,hG⟩:=h;have Ai:=runT_crowd_go (P:=P) (sl:=sl) (i:=0) h0 (show Ϛ P (0==0) g w=_ from hs)
 have aj:0<gs.size:=(Ϝ.1 h0).1
 refine⟨_,_,Ai,by simp,by simp[aj],λj x hj hx=>?_,(hP.mono hd.size).own λe he=>QK (hd.ev e he) λb hb=>?_,hN.app (TQ hd.ev),λop ae=>?_⟩
 ·have au:0≠j:=by omega
  rw[ċ au,Ć] at hx
  obtain⟨y,hy,rfl⟩:=Ă.1 hx;have hq:=hL j y hj hy;rw[woken_quits hq];exact hq
 ·rcases hb with(hb|hb) |hb
  ·exact ϟ (hM b (.inl hb)) hd.size
  ·exact hb.2
  ·exact ϟ (hM b (.inr hb)) hd.size
 ·rw[Array.size_setIfInBounds,Array.size_map]
  rcases Aad.1 ae with ae|ae
  ·exact hG op ae
  ·obtain⟨e,_,rfl⟩:=Go.Conc.mem_ofEvents ae
   exact aj
def FO{M:ay}(hd:j4 M w aa es)(hM:∀b,M.has b->b<w.heap.size):∀b,(M.grow w aa).has b->b<aa.heap.size:=by
 intro b hb;rcases hb with(hb|hb) |hb
 ·exact ϟ (hM b (.inl hb)) hd.size
 ·exact hb.2
 ·exact ϟ (hM b (.inr hb)) hd.size
def IE{Stop:ay->ϐ->Ψ->Prop}{M:ay}(h:Walk P θ Stop M g w):
 ∀(gs:Array ϐ) (sl:Option (Nat×Nat)) (t:Trace) (q:Nat->Nat),Fr P gs w t q g->(∀b,M.has b->b<w.heap.size)->
  ∃(N:Nat) (aY:Array ϐ) (M':ay) (g':ϐ) (w':Ψ) (bz:Option (Nat×Nat)) (t':Trace) (q':Nat->Nat),
    runNT P N (crowd gs w sl) t=(.next (crowd aY w' bz),t')/\aY.size=gs.size/\Stop M' g' w'/\Fr P aY w' t' q' g':=by
 induction h with
 | @stop M g w h=>exactλgs sl t q hF hM=>⟨0,gs,M,g,w,sl,t,q,rfl,rfl,h w (bQ.refl M w),hF⟩
 | @step M g w run nx h hs ih=>
   have key:∀(n:Nat) (gs:Array ϐ) (sl:Option (Nat×Nat)) (t:Trace) (q:Nat->Nat) (ao:Ψ),sumTo gs.size q<=n->bQ M w ao->Fr P gs ao t q g->(∀b,M.has b->b<ao.heap.size)->
    ∃(N:Nat) (aY:Array ϐ) (M':ay) (g':ϐ) (w':Ψ) (bz:Option (Nat×Nat)) (t':Trace) (q':Nat->Nat),
     runNT P N (crowd gs ao sl) t=(.next (crowd aY w' bz),t')/\aY.size=gs.size/\Stop M' g' w'/\Fr P aY w' t' q' g':=by
    intro n;induction n with
    |zero=>
     intro gs sl t q ao hn k hF hM;rcases XV (sl:=sl) hF run with⟨d,bz,aW⟩ | ⟨aY,d,bz,ops,q',_,_,aj,_⟩
     ·have k2:=k.trans (Es M ao d)
      obtain⟨h1,h2⟩:=h _ k2;obtain⟨oX,ops,hr,aL,qi⟩:=XT (sl:=bz) (w:=ao.at d) (M:=M) ⟨hF.zero,hF.lv,hF.nO,hF.nd,hF.gb⟩ h1 h2 hM;obtain⟨N,aY,M',g',w',td,t',q',r1,r2,r3,r4⟩:=ih _ k2 oX bz _ q qi (FO h2 hM);exact⟨N+1,aY,M',g',w',td,t',q',by simp only[runNT,aW,hr];exact r1,r2.trans aL,r3,r4⟩
     ·omega
    |succ n Kd=>
     intro gs sl t q ao hn k hF hM;rcases XV (sl:=sl) hF run with⟨d,bz,aW⟩ | ⟨aY,d,bz,ops,q',aW,aL,aj,qi⟩
     ·have k2:=k.trans (Es M ao d)
      obtain⟨h1,h2⟩:=h _ k2;obtain⟨oX,ops,hr,aL,qi⟩:=XT (sl:=bz) (w:=ao.at d) (M:=M) ⟨hF.zero,hF.lv,hF.nO,hF.nd,hF.gb⟩ h1 h2 hM;obtain⟨N,aY,M',g',w',td,t',q',r1,r2,r3,r4⟩:=ih _ k2 oX bz _ q qi (FO h2 hM);exact⟨N+1,aY,M',g',w',td,t',q',by simp only[runNT,aW,hr];exact r1,r2.trans aL,r3,r4⟩
     ·obtain⟨N,Dy,M',g',w',td,t',T1,r1,r2,r3,r4⟩:=Kd aY bz (t++ops) q' (ao.at d) (by omega) (k.trans (Es M ao d)) qi hM
      exact⟨N+1,Dy,M',g',w',td,t',T1,by simp only[runNT,aW];exact r1,r2.trans aL,r3,r4⟩
   exactλgs sl t q hF hM=>key _ gs sl t q w (ϊ _) (bQ.refl M w) hF hM
end
end Go.Sim
