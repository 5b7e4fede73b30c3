import Derived.Conc.Beside
set_option linter.all false
set_option maxHeartbeats 0
set_option maxRecDepth 100000
abbrev Go.RowKit.φ(w v:Go.World):Prop:=Go.RowKit.Below w.heap.size w v
open Array renaming getD_eq_getD_getElem? -> æ, getElem_mem -> Aab, append_assoc -> Aac, mem_append -> Aad, push_eq_append -> ŕ, getElem?_eq_some_iff -> Ϝ, append_empty -> ç, getElem?_push -> Š, getElem?_setIfInBounds -> Ü, forIn_toList -> Aaj, mapM_eq_mapM_toList -> ķ, all_eq_true_iff_forall_mem -> ħ, getElem!_eq_getD -> Aam, getElem?_eq_none -> ę, range -> Ŗ, getElem_map -> Aap, getElem_range -> Aaq, foldl_toList -> Aar, toList_zipIdx -> Aas, ext -> Aat, getElem_modify -> Aau, mem_replicate -> Aav, getElem?_append_left -> Aaw, mem_of_getElem? -> Ń, mem_iff_getElem -> Aay, getElem?_eq_getElem -> ā, getElem?_setIfInBounds_ne -> Ě, getElem?_map -> Ē
open Bool renaming false_eq_true -> è, and_eq_true -> Ä, not_true -> Aa4
open Classical renaming byContradiction -> ä, choose -> ì, choose_spec -> Ï, propDecidable -> Aa8
open Go renaming Addr -> ϖ, FuncId -> Æ, IntKind -> í, TypeId -> ώ, Code -> Ϙ, MapEntry -> Ğ, Deferred -> Ê, Event -> Ø, Program -> ϗ, Func -> Ç, BoundsCode -> Abj, boundsPanic -> Abk, TypeDesc -> ŗ, byteOfCell -> Ű, cellOfByte -> Abn, BinOp -> ß, Operand -> î, Frame -> ϝ, Goroutine -> ϐ, GStep -> Ą, PanicEntry -> Abt, Result -> ě, doReturn -> ĸ, callDeferred -> Ĩ, unwind -> Ð, stepG -> ϙ, FloatKind -> Ĺ, lone -> ï, step_lone_ended -> Ab1, step_lone_go -> Ab2
open Go.Builtin renaming unsafeAdd_ -> ń, lenOf -> ű, firstCells -> ą, zeroCells -> Ř, len_ -> Ab7, max_ -> Ab8, min_ -> Ab9, copy_ -> Aca, clear_ -> Acb, nextslicecap -> Acd, mayShare -> Ace, append_ -> Acf
open Go.Deferred renaming ofValue -> Acg
open Go.Frame renaming enter -> à, finish -> ē, eval -> á, raise -> Ack
open Go.GStep renaming after -> â, bare_after -> Ņ
open Go.GStep.go renaming injEq -> Ĭ
open Go.Goroutine.mk renaming injEq -> Aco
open Go.Instr renaming sliceBound -> š, sliceBounds -> Ų, slice -> Acs, sliceAt -> Acu, extract -> Acv, makeMap -> Acw, makeSlice -> Acx, fill -> ĭ, build -> Acz, buildSlice -> ĺ, checkKey -> Ac1, findAsking -> Ac2, sameNow -> ř, findNow -> ņ, findKey -> Ac5, lookup -> Ś, sameBits -> ċ, keyThatStays -> Ac8, mapUpdate -> ś, getLoop -> Ada, yield -> Adb, enterLoop -> Adc, beginRound -> Ade, endRound -> Adf, endLoop -> Adg, takeDeferred -> Ŝ
open Go.IntKind renaming i64 -> Ϛ
open Go.Made renaming infoAt -> ų
open Go.MemAct renaming ofEvent -> ğ
open Go.Mode renaming atomic -> Ŵ
open Go.Next renaming value -> Ţ, skip -> Adn
open Go.Op renaming equalIn -> Ň, equal -> ŵ, addrMod -> Adq, eqGuardIn -> Ŷ, maxDepth -> ŷ, operands -> Ã
open Go.Result.ok renaming injEq -> Ĝ
open Go.Sem renaming run -> ϥ, runT -> ϧ, bind -> Ϭ, runT_fst -> Ady, store -> ň
open Go.World renaming noCell -> Ad0, setCell -> ü, farStore -> Ad2, shape? -> Ad3, freeze -> Ad4, viewStore -> Ad5
open Go.stepG renaming apply -> Ù, exec -> ϻ
open Nat renaming le_refl -> ϊ, le_trans -> Ϥ, lt_of_lt_of_le -> Ϣ, zero_mul -> Aeb
open Option renaming isNone_some -> Aec, eq_none_or_eq_some -> Aed, map_eq_some_iff -> ď
open Option.some renaming inj -> ϟ, injEq -> Đ
open Pure renaming pure -> Ϩ
open Std.Legacy.Range renaming forIn_eq_forIn_range' -> Aei
open Bool renaming true -> D, false -> U
open Go renaming Value -> z, undef -> L, World -> N
open Go.Value renaming slice -> E, pointer -> π, tuple -> μ
open Option renaming some -> J, none -> H
variable{α σ β ι:Type}{es:Array Go.Event}{gs:Array Go.Goroutine}{c t':Array z}{b q main:Bool}{a:Go.Addr}{e:Go.Event}{fr ba:Go.Frame}{fn:Go.FuncId}{g g':Go.Goroutine}{h:Go.Halt}{o:Go.Obj}{p P' P:Go.Program}{s:Go.Sem Go.Next}{t:Go.Trace}{d:Go.TypeDesc}{cs bu:List Go.Frame}{n i:Nat}{l l':Option z}{m:String}{w w' aa aF:N}{v x x' y y' v' a' b' s':z}
namespace Go.Sim
open Go
abbrev Ren:=Nat->Nat->Prop
def Ren.le(Z ax:Ren):Prop:=∀a b,Z a b->ax a b
def Ren.le_refl(Z:Ren):Z.le Z:=λ_ _ h=>h
def Ren.le_trans{Z ax fw:Ren}(h:Z.le ax)(h':ax.le fw):Z.le fw:=λa b x=>h' a b (h a b x)
def eh(Z:Ren)(a b:ϖ):Prop:=Z a.block b.block/\a.off=b.off/\a.spot=b.spot
def eh.mono{Z ax:Ren}(h:Z.le ax){b:ϖ}(x:eh Z a b):eh ax a b:=⟨h _ _ x.1,x.2⟩
def eh.add{Z:Ren}{a b:ϖ}(h:eh Z a b)(n:Nat):eh Z (a.add n) (b.add n):=by
 obtain⟨h1,h2,h3⟩:=h;unfold Addr.add;split
 ·exact⟨h1,h2,h3⟩
 ·exact⟨h1,by simp[h2],rfl⟩
inductive Bf(Z:Ren):Fn->Fn->Prop
 |func (f:Æ):Bf Z (.func f) (.func f)
 |yield {l l':Nat} (h:Z l l'):Bf Z (.yield l) (.yield l')
inductive aj(Z:Ren):z->z->Prop
 |bool (b:Bool):aj Z (.bool b) (.bool b)
 |int (k:í) (n:Int):aj Z (.int k n) (.int k n)
 |string (s:ByteArray):aj Z (.string s) (.string s)
 |ptrNone:aj Z (π H) (π H)
 |ptr {a b:ϖ} (h:eh Z a b):aj Z (π (J a)) (π (J b))
 |sliceNone (n c:Nat):aj Z (E H n c) (E H n c)
 |slice {a b:ϖ} (n c:Nat) (h:eh Z a b):aj Z (E (J a) n c) (E (J b) n c)
 |sliceDead (a b:ϖ):aj Z (E (J a) 0 0) (E (J b) 0 0)
 |mapNone:aj Z (.map H) (.map H)
 |map {r r':Nat} (h:Z r r'):aj Z (.map (J r)) (.map (J r'))
 |chanNone:aj Z (.chan H) (.chan H)
 |chan {r r':Nat} (h:Z r r'):aj Z (.chan (J r)) (.chan (J r'))
 |func {fn fn':Fn} {x x' y y':Array z} (h:Bf Z fn fn') (hx:x.size=x'.size) (h1:∀i (h:i<x.size) (h':i<x'.size),aj Z x[i] x'[i])
   (hy:y.size=y'.size) (h2:∀i (h:i<y.size) (h':i<y'.size),aj Z y[i] y'[i]):aj Z (.func fn x y) (.func fn' x' y')
 |nilFunc:aj Z .nilFunc .nilFunc
 |iface (t:ώ) {v v':z} (h:aj Z v v'):aj Z (.iface t v) (.iface t v')
 |nilIface:aj Z .nilIface .nilIface
 |agg {x x':Array z} (hx:x.size=x'.size) (h1:∀i (h:i<x.size) (h':i<x'.size),aj Z x[i] x'[i]):aj Z (.agg x) (.agg x')
 |tuple {x x':Array z} (hx:x.size=x'.size) (h1:∀i (h:i<x.size) (h':i<x'.size),aj Z x[i] x'[i]):aj Z (.tuple x) (.tuple x')
 |junk {v':z} (h:v'.cells=#[v']) (hb:∀b,v'≠ .bool b) (hc:v'≠ π H/\v'≠ .nilIface/\v'≠ .nilFunc/\∀f x y,v'≠ .func f x y):aj Z (μ #[]) v'
 |fjunk (fn':Fn) (x' y':Array z):aj Z (.func (.method "") #[.nilIface] #[]) (.func fn' x' y')
def cf(R:α->β->Prop)(x:Array α)(y:Array β):Prop:=x.size=y.size/\∀i (h:i<x.size) (h':i<y.size),R x[i] y[i]
abbrev aV(Z:Ren):Array z->Array z->Prop:=cf (aj Z)
def Bf.mono{Z ax:Ren}(h:Z.le ax){f g:Fn}(x:Bf Z f g):Bf ax f g:=by
 cases x with
 |func f=>exact .func f
 |yield hl=>exact .yield (h _ _ hl)
def aj.mono{Z ax:Ren}(h:Z.le ax){v v':z}(x:aj Z v v'):aj ax v v':=by
 induction x with
 |bool b=>exact .bool b
 |int k n=>exact .int k n
 |string s=>exact .string s
 |ptrNone=>exact .ptrNone
 |ptr ha=>exact .ptr (ha.mono h)
 |sliceNone n c=>exact .sliceNone n c
 |slice n c ha=>exact .slice n c (ha.mono h)
 |sliceDead a b=>exact .sliceDead a b
 |mapNone=>exact .mapNone
 |map T=>exact .map (h _ _ T)
 |chanNone=>exact .chanNone
 |chan T=>exact .chan (h _ _ T)
 |func hf hx _ hy _ i1 i2=>exact .func (hf.mono h) hx i1 hy i2
 |nilFunc=>exact .nilFunc
 |iface t _ ih=>exact .iface t ih
 |nilIface=>exact .nilIface
 |agg hx _ ih=>exact .agg hx ih
 |tuple hx _ ih=>exact .tuple hx ih
 |junk h hb hc=>exact .junk h hb hc
 |fjunk f x y=>exact .fjunk f x y
inductive gR{α β:Type}(R:α->β->Prop):List α->List β->Prop
 |nil:gR R [] []
 |cons {a:α} {b:β} {x:List α} {y:List β} (h:R a b) (t:gR R x y):gR R (a::x) (b::y)
section arr
variable {α β:Type}{R:α->β->Prop}
def cf.mono{R':α->β->Prop}(h:∀a b,R a b->R' a b){x:Array α}{y:Array β}(hx:cf R x y):cf R' x y:=⟨hx.1,λi a b=>h _ _ (hx.2 i a b)⟩
def cf.empty:cf R #[] #[]:=⟨rfl,λi h=>by simp at h⟩
def cf.push{x:Array α}{y:Array β}(h:cf R x y){a:α}{b:β}(hab:R a b):cf R (x.push a) (y.push b):=by
 refine⟨by simp[h.1],λi hi bG=>?_⟩;simp only[Array.getElem_push];have V:=h.1;by_cases ao:i<x.size
 ·rw[dif_pos ao,dif_pos (V▸ao)];exact h.2 i _ _
 ·rw[dif_neg ao,dif_neg (V▸ao)];exact hab
def cf.append{x x':Array α}{y y':Array β}(h:cf R x y)(h':cf R x' y'):cf R (x++x') (y++y'):=by
 refine⟨by simp[h.1,h'.1],λi hi bG=>?_⟩;have V:=h.1;simp only[Array.getElem_append];by_cases ao:i<x.size
 ·rw[dif_pos ao,dif_pos (V▸ao)];exact h.2 i _ _
 ·rw[dif_neg ao,dif_neg (V▸ao)];have:=h'.2 (i - x.size) (by simp at hi;omega) (by simp at bG;omega);simpa [V] using this
def cf.set{x:Array α}{y:Array β}(h:cf R x y)(i:Nat){a:α}{b:β}(hab:R a b):cf R (x.setIfInBounds i a) (y.setIfInBounds i b):=by
 refine⟨by simp[h.1],λj hj rQ=>?_⟩;rw[Array.getElem_setIfInBounds (by simpa using hj),Array.getElem_setIfInBounds (by simpa using rQ)];split
 ·exact hab
 ·exact h.2 j _ _
def cf.get? {x:Array α}{y:Array β}(h:cf R x y)(i:Nat):(x[i]?=H/\y[i]?=H)\/∃a b,x[i]?=J a/\y[i]?=J b/\R a b:=by
 by_cases ao:i<x.size
 ·exact .inr ⟨x[i],y[i]'(h.1▸ao),by simp[ao],by simp[h.1▸ao],h.2 i _ _⟩
 ·refine .inl ⟨by simp;omega,?_⟩;have:=h.1;simp;omega
def cf.getD{x:Array α}{y:Array β}(h:cf R x y)(i:Nat){a:α}{b:β}(hab:R a b):R (x.getD i a) (y.getD i b):=by
 rcases h.get? i with⟨h1,h2⟩ | ⟨u,v,h1,h2,h3⟩
 ·simpa [æ,h1,h2] using hab
 ·simpa [æ,h1,h2] using h3
def cf.extract{x:Array α}{y:Array β}(h:cf R x y)(i j:Nat):cf R (x.extract i j) (y.extract i j):=by refine⟨by simp[h.1],λk hk kU=>?_⟩;simp only[Array.getElem_extract];exact h.2 _ _ _
def cf.refl{R:α->α->Prop}{x:Array α}(h:∀a∈x,R a a):cf R x x:=⟨rfl,λ_ hi _=>h _ (Aab hi)⟩
def cf.one{a:α}{b:β}(h:R a b):cf R #[a] #[b]:=⟨rfl,λi hi _=>by
 have:i=0:=by simp at hi;omega
 subst this;exact h⟩
def cf.pQ{x:Array α}{y:Array β}(h:cf R x y):gR R x.toList y.toList:=by
 obtain⟨x⟩:=x;obtain⟨y⟩:=y;obtain⟨h1,h2⟩:=h;simp only[List.size_toArray,List.getElem_toArray] at h1 h2;simp only;induction x generalizing y with
 |nil=>cases y with
  |nil=>exact .nil|cons=>simp at h1
 |cons a x ih=>cases y with
  |nil=>simp at h1
  |cons b y=>refine .cons (h2 0 (by simp) (by simp)) (ih y (by simpa using h1) λi hi bG=>?_);have:=h2 (i+1) (by simpa using hi) (by simpa using bG);simpa using this
def cf.amA{x:List α}{y:List β}(h:gR R x y):cf R x.toArray y.toArray:=by
 induction h with
 |nil=>exact .empty
 |cons hab _ ih=>
  refine⟨by have:=ih.1;simp at this;simp[this],λi hi bG=>?_⟩;cases i with
  |zero=>simpa using hab
  |succ i=>have:=ih.2 i (by simpa using hi) (by simpa using bG);simpa using this
end arr
def aj.wH{Z:Ren}{x y:Array z}(h:aV Z x y):aj Z (.agg x) (.agg y):=.agg h.1 h.2
def aj.tuple'{Z:Ren}{x y:Array z}(h:aV Z x y):aj Z (.tuple x) (.tuple y):=.tuple h.1 h.2
def aj.undef{Z:Ren}:aj Z L L:=.tuple' .empty
def aV.mono{Z ax:Ren}(h:Z.le ax){x y:Array z}(hx:aV Z x y):aV ax x y:=cf.mono (λ_ _=>aj.mono h) hx
def aj.cells{Z:Ren}{v v':z}(h:aj Z v v'):aV Z v.cells v'.cells:=by
 have h0:=h;cases h;case agg hx h1=>exact⟨hx,h1⟩
 case junk h hb _=>rw[h];exact cf.one h0
 all_goals exact cf.one h0
structure bX where
 ok:Æ->Bool
 hole:Æ->Bool
 clean:Ϙ->Prop
def Full(c:Array z)(fr:Nat×Nat):Prop:=fr.1=0/\c.size<=fr.2
inductive j5(Z:Ren):Ğ->Ğ->Prop
 |mk {k k' v v':z} (b:Nat) (hk:aj Z k k') (hv:aj Z v v'):j5 Z ⟨k,v,b⟩ ⟨k',v',b⟩
inductive uD(Z:Ren):Ê->Ê->Prop
 |collected {r r':Nat} (h:Z r r'):uD Z ⟨.collected r,#[]⟩ ⟨.collected r',#[]⟩
inductive Bn(C:bX)(Z:Ren):Loop->Loop->Prop
 |mk (st:LoopState) (qP:Option Ϙ) (fn:Æ) {tm Y5:Array z} (ps:Array Tmp) (qi body:Ϙ) {d d':Nat} (ht:aV Z tm Y5) (hd:Z d d')
   (ha:C.clean qi) (hb:C.clean body) (hp:∀c,qP=J c->C.clean c):Bn C Z ⟨st,qP,fn,tm,ps,qi,body,d⟩ ⟨st,qP,fn,Y5,ps,qi,body,d'⟩
inductive jq(C:bX)(Z:Ren):Obj->Obj->Prop
 |cells {c c':Array z} (e:ώ) {fr ba:Nat×Nat} (h:aV Z c c') (hf:ba=fr\/Full c fr):jq C Z (.cells c e fr) (.cells c' e ba)
 |map {es es':Array Ğ} (clock:Nat) (h:cf (j5 Z) es es'):jq C Z (.map es clock) (.map es' clock)
 |loop {l l':Loop} (h:Bn C Z l l'):jq C Z (.loop l) (.loop l')
 |FY:jq C Z (.deferred H) (.deferred H)
 |calls:jq C Z (.deferred (J [])) (.deferred (J []))
 |stringIter (s:ByteArray) (p:Nat):jq C Z (.stringIter s p) (.stringIter s p)
 |number {a b:ϖ} (lost:Bool) (h:eh Z a b):jq C Z (.number a lost) (.number b lost)
def j5.mono{Z ax:Ren}(h:Z.le ax){a b:Ğ}(x:j5 Z a b):j5 ax a b:=by
 cases x with|mk b hk hv=>exact .mk b (hk.mono h) (hv.mono h)
def Bn.mono{C:bX}{Z ax:Ren}(h:Z.le ax){a b:Loop}(x:Bn C Z a b):Bn C ax a b:=by
 cases x with|mk st qP fn ps qi body ht hd ha hb hp=>exact .mk st qP fn ps qi body (ht.mono h) (h _ _ hd) ha hb hp
def jq.mono{C:bX}{Z ax:Ren}(h:Z.le ax){a b:Obj}(x:jq C Z a b):jq C ax a b:=by
 cases x with
 |cells e hc hf=>exact .cells e (hc.mono h) hf
 |map clock hm=>exact .map clock (cf.mono (λ_ _=>j5.mono h) hm)
 |loop hl=>exact .loop (hl.mono h)
 |FY=>exact .FY
 |calls=>exact .calls
 |stringIter s p=>exact .stringIter s p
 |number l ha=>exact .number l (ha.mono h)
def mw:Obj->Prop
 | .cells c _ fr=>Full c fr
 |_=>False
structure iP(C:bX)(Z:Ren)(w w':N):Prop where
 dL:∀a b,Z a b->a<w.heap.size
 dq:∀a b,Z a b->b<w'.heap.size
 fn:∀a b b',Z a b->Z a b'->b=b'
 inj:∀a a' b,Z a b->Z a' b->a=a'
 obj:∀a b o,Z a b->w.heap[a]?=J o->∃o',w'.heap[b]?=J o'/\jq C Z o o'
 tape:∀j q,w.tape (w.drawn+j) q=w'.tape (w'.drawn+j) q
structure Trans(Z ax:Ren)(w w' aa aF:N):Prop where
 le:Z.le ax
 new:∀a b,ax a b->Z a b\/(w.heap.size<=a/\w'.heap.size<=b)
 oa:w.heap.size<=aa.heap.size
 gO:w'.heap.size<=aF.heap.size
 lD:∀(a:Nat) (o:Obj),w.heap[a]?=J o->mw o->aa.heap[a]?=J o
 jd:∀b:Nat,b<w'.heap.size->(∀a,Z a b->∃o,w.heap[a]?=J o/\mw o)->aF.heap[b]?=w'.heap[b]?
 Xh:∀b:Nat,w'.heap.size<=b->b<aF.heap.size->∃a,ax a b
 Kc:aa.tape=w.tape
 nf:aF.tape=w'.tape
 yo:aF.os=w'.os
 yp:aF.output=w'.output
def Trans.refl(Z:Ren)(w w':N):Trans Z Z w w' w w':=
 ⟨Z.le_refl,λ_ _ h=>.inl h,ϊ _,ϊ _,λ_ _ h _=>h,λ_ _ _=>rfl,λb h h'=>by omega,rfl,rfl,rfl,rfl⟩
def Trans.trans{Z ax fw:Ren}{w w' aa aF au eF:N}(h:Trans Z ax w w' aa aF)(k:Trans ax fw aa aF au eF):Trans Z fw w w' au eF where
 le:=Ren.le_trans h.le k.le
 new a b x:=by
  rcases k.new a b x with x| ⟨x,y⟩
  ·exact h.new a b x
  ·exact .inr ⟨Ϥ h.oa x,Ϥ h.gO y⟩
 oa:=Ϥ h.oa k.oa
 gO:=Ϥ h.gO k.gO
 lD a o x f:=k.lD a o (h.lD a o x f) f
 jd b hb hf:=by
  have e:=h.jd b hb hf;rw[<-e];refine k.jd b (Ϣ hb h.gO) λa ha=>?_;rcases h.new a b ha with x| ⟨_,y⟩
  ·obtain⟨o,ho,fo⟩:=hf a x;exact⟨o,h.lD a o ho fo,fo⟩
  ·omega
 Xh b hb dv:=by
  by_cases ao:b<aF.heap.size
  ·obtain⟨a,ha⟩:=h.Xh b hb ao;exact⟨a,k.le _ _ ha⟩
  ·exact k.Xh b (by omega) dv
 Kc:=k.Kc.trans h.Kc
 nf:=k.nf.trans h.nf
 yo:=k.yo.trans h.yo
 yp:=k.yp.trans h.yp
def rf(Z:Ren)(w:N)(e:Ø):Prop:=
 (∃(b a:Nat),(e.loc=.obj b\/∃c:ϖ,e.loc=.cell c/\c.block=b)/\e.sync=U/\Z a b/\(w.heap.size<=a\/∃o,w.heap[a]?=J o/\(e.write=D->¬mw o)))
 \/e.loc=.mark .noRoom\/∃f,e.loc=.mark (.extern f)
def rf.mono{Z ax:Ren}(h:Z.le ax)(x:rf Z w e):rf ax w e:=by
 rcases x with⟨b,a,h1,h2,h3,h4⟩ |x
 ·exact .inl ⟨b,a,h1,h2,h _ _ h3,h4⟩
 ·exact .inr x
def rf.back{Z ax fw:Ren}(h:Trans Z ax w w' aa aF)(x:rf fw aa e):rf fw w e:=by
 rcases x with⟨b,a,h1,h2,h3,h4⟩ |x
 ·refine .inl ⟨b,a,h1,h2,h3,?_⟩;by_cases ao:w.heap.size<=a
  ·exact .inl ao
  ·right;rcases h4 with h4| ⟨o,ho,hf⟩
   ·have:=h.oa;omega
   ·obtain⟨JH,V5⟩:∃JH,w.heap[a]?=J JH:=⟨w.heap[a]'(by omega),by simp⟩
    refine⟨JH,V5,λhw mP=>?_⟩;have:=h.lD a JH V5 mP;rw[ho] at this;obtain rfl:=ϟ this;exact hf hw mP
 ·exact .inr x
def Sim(P' P:ϗ)(C:bX)(Z:Ren)(R:Ren->α->β->Prop)(s:Sem α)(s':Sem β):Prop:=
 ∀aM,Z.le aM->∀(w w':N) (es:Array Ø),iP C aM w w'->∀a aa,s.run P' w=.ok a aa->
  ∃bM b aF eM,s'.runT P w' es=(.ok b aF,es++eM)/\R bM a b/\iP C bM aa aF/\Trans aM bM w w' aa aF/\∀e∈eM,rf bM w e
section
variable {P' P:ϗ}{C:bX}{Z:Ren}{α β γ δ:Type}{R:Ren->α->β->Prop}{S:Ren->γ->δ->Prop}
def Sim.mono{ax:Ren}(h:Z.le ax){s:Sem α}{s':Sem β}(x:Sim P' P C Z R s s'):Sim P' P C ax R s s':=λaM h1=>x aM (Ren.le_trans h h1)
def Sim.TI{R':Ren->α->β->Prop}{s:Sem α}{s':Sem β}(x:Sim P' P C Z R s s')(h:∀ax a b,Z.le ax->R ax a b->R' ax a b):Sim P' P C Z R' s s':=by intro aM h1 w w' es hw a aa T;obtain⟨bM,b,aF,eM,h2,h3,h4,h5,h6⟩:=x aM h1 w w' es hw a aa T;exact⟨bM,b,aF,eM,h2,h _ _ _ (Ren.le_trans h1 h5.le) h3,h4,h5,h6⟩
def Sim.pure{a:α}{b:β}(h:∀ax,Z.le ax->R ax a b):Sim P' P C Z R (.pure a) (.pure b):=by intro aM h1 w w' es hw a' aa T;simp only[ϥ,Ĝ] at T;obtain⟨rfl,rfl⟩:=T;exact⟨aM,b,w',#[],by simp[ϧ],h _ h1,hw,Trans.refl ..,by simp⟩
def Sim.halt{h:Halt}{s':Sem β}:Sim P' P C Z R (.halt h) s':=by intro aM h1 w w' es hw a aa T;simp[ϥ] at T
def run_bind{s:Sem α}{f:α->Sem γ}:(s.bind f).run p w=match s.run p w with| .ok a w=>(f a).run p w| .halt h w=>.halt h w:=by
 induction s generalizing w with
 |pure a=>rfl
 |load m a k ih=>
  simp only[Ϭ,ϥ]
  (repeat' split)<;>simp_all
 |store m a v k ih=>
  cases v<;>simp only[Ϭ,ϥ]<;>(repeat' split)<;>simp_all
 |new o k ih=>simp only[Ϭ,ϥ,ih]
 |shape r k ih=>simp only[Ϭ,ϥ,ih]
 |freeze a n k ih=>simp only[Ϭ,ϥ,ih]
 |frozen a k ih=>simp only[Ϭ,ϥ,ih]
 |getObj r k ih=>
  simp only[Ϭ,ϥ]
  (repeat' split)<;>simp_all
 |setObj r o k ih=>
  simp only[Ϭ,ϥ]
  (repeat' split)<;>simp_all
 |choose q k ih=>
  simp only[Ϭ,ϥ]
  (repeat' split)<;>simp_all
 |sys c k ih=>simp only[Ϭ,ϥ,ih]
 |program k ih=>simp only[Ϭ,ϥ,ih]
 |mark m k ih=>simp only[Ϭ,ϥ,ih]
 |halt h=>rfl
def qR{s:Sem α}{f:α->Sem γ}:
 (s.bind f).runT p w es=match s.runT p w es with| (.ok a w,es)=>(f a).runT p w es| (.halt h w,es)=>(.halt h w,es):=by
 induction s generalizing w es with
 |pure a=>rfl
 |load m a k ih=>
  simp only[Ϭ,ϧ]
  (repeat' split)<;>simp_all
 |store m a v k ih=>
  cases v<;>simp only[Ϭ,ϧ]<;>(repeat' split)<;>simp_all
 |new o k ih=>simp only[Ϭ,ϧ,ih]
 |shape r k ih=>simp only[Ϭ,ϧ,ih]
 |freeze a n k ih=>simp only[Ϭ,ϧ,ih]
 |frozen a k ih=>simp only[Ϭ,ϧ,ih]
 |getObj r k ih=>
  simp only[Ϭ,ϧ]
  (repeat' split)<;>simp_all
 |setObj r o k ih=>
  simp only[Ϭ,ϧ]
  (repeat' split)<;>simp_all
 |choose q k ih=>
  simp only[Ϭ,ϧ]
  (repeat' split)<;>simp_all
 |sys c k ih=>simp only[Ϭ,ϧ,ih]
 |program k ih=>simp only[Ϭ,ϧ,ih]
 |mark m k ih=>simp only[Ϭ,ϧ,ih]
 |halt h=>rfl
def Sim.bind{s:Sem α}{s':Sem β}{f:α->Sem γ}{g:β->Sem δ}(h:Sim P' P C Z R s s')(hf:∀ax,Z.le ax->∀a b,R ax a b->Sim P' P C ax S (f a) (g b)):
 Sim P' P C Z S (s.bind f) (s'.bind g):=by
 intro aM h1 w w' es hw c au T;rw[run_bind] at T;cases e:s.run P' w with
 |halt h w=>rw[e] at T;cases T
 |ok a aa=>
  rw[e] at T;obtain⟨bM,b,aF,eM,h2,h3,h4,h5,h6⟩:=h aM h1 w w' es hw a aa e;obtain⟨Dj,d,eF,PX,k2,k3,k4,k5,k6⟩:=hf bM (Ren.le_trans h1 h5.le) a b h3 bM bM.le_refl aa aF (es++eM) h4 c au T;refine⟨Dj,d,eF,eM++PX,?_,k3,k4,h5.trans k5,λx hx=>?_⟩
  ·rw[qR,h2];simp only[k2,Aac]
  ·rcases Aad.1 hx with hx|hx
   ·exact(h6 x hx).mono k5.le
   ·exact(k6 x hx).back h5
end
end Go.Sim
namespace Go.Sim
open Go
section
variable {P' P:ϗ}{C:bX}{Z:Ren}
def T8:z->Bool
 | .agg _| .tuple _=>U
 |_=>D
def iP.N6(h:iP C Z w w'){a b:Nat}(hab:Z a b):∃o,w.heap[a]?=J o/\∃o',w'.heap[b]?=J o'/\jq C Z o o':=by
 have:=h.dL a b hab;have e:w.heap[a]?=J w.heap[a]:=by simp[this]
 exact⟨_,e,h.obj a b _ hab e⟩
def To(h: w.cell? a=J v):∃c e fr,w.heap[a.block]?=J (.cells c e fr)/\a.spot=H/\c[a.off]?=J v:=by
 unfold World.cell? at h;split at h
 ·rename_i c e fr hh;split at h
  ·cases h
  ·rename_i V;exact⟨c,e,_,hh,by cases mQ:a.spot<;>simp_all,h⟩
 ·cases h
def mH{e:ώ}{fr:Nat×Nat}(h:w.heap[a.block]?=J (.cells c e fr))(V:a.spot=H)(hc:c[a.off]?=J v): w.cell? a=J v:=by unfold World.cell?;simp[h,V,hc]
def iP.cell{w w':N}(h:iP C Z w w'){a b:ϖ}(hab:eh Z a b){v:z}(hv: w.cell? a=J v):
 ∃c c' e fr ba v',w.heap[a.block]?=J (.cells c e fr)/\w'.heap[b.block]?=J (.cells c' e ba)/\aV Z c c'/\(ba=fr\/Full c fr)/\c[a.off]?=J v/\c'[b.off]?=J v'/\aj Z v v'/\ w'.cell? b=J v':=by
 obtain⟨c,e,fr,hh,V,hc⟩:=To hv;obtain⟨ag5,UP,ag6⟩:=hab;obtain⟨o',pJ,T⟩:=h.obj _ _ _ ag5 hh
 ·cases T with
  | @cells _ c' _ _ ba dg hf=>
    rcases dg.get? a.off with⟨x,_⟩ | ⟨u,u',x,y,υ⟩
    ·rw[hc] at x;cases x
    ·rw[hc] at x;obtain rfl:=ϟ x;exact⟨c,c',e,fr,ba,u',hh,pJ,dg,hf,hc,by rw[<-UP];exact y,υ,mH pJ (ag6▸V) (by rw[<-UP];exact y)⟩
def Sim.load{a b:ϖ}(h:eh Z a b):Sim P' P C Z aj (Go.load a) (Go.load b):=by
 intro aM h1 w w' es hw v aa T;have h:=h.mono h1;unfold Go.load at T |-
 simp only[ϥ] at T;split at T
 ·rename_i v' hv;simp only[Ĝ] at T;obtain⟨rfl,rfl⟩:=T;obtain⟨c,c',e,fr,ba,v2,q1,q2,q3,q4,q5,q6,q7,q8⟩:=hw.cell h hv;refine⟨aM,v2,w',#[⟨.cell b,U,U⟩],?_,q7,hw,Trans.refl ..,λx hx=>?_⟩
  ·simp only[ϧ,q8,ŕ];rfl
  ·simp at hx;subst hx;exact .inl ⟨b.block,a.block,.inr ⟨b,rfl,rfl⟩,rfl,h.1,.inr ⟨_,q1,λx=>by cases x⟩⟩
 ·rename_i hn;unfold World.farLoad at T;obtain⟨o,ho,Ca⟩:=hw.N6 h.1;rw[ho] at T;cases o<;>simp_all [Ad0]<;>(obtain⟨o',_,x⟩:=Ca;cases x)
def zp{e:ώ}{fr:Nat×Nat}(h:w.heap[a.block]?=J (.cells c e fr)): w.frozen? a=(decide (fr.1<=a.off) && decide (a.off<fr.2)):=by unfold World.frozen?;rw[h]
def C4{e:ώ}{fr:Nat×Nat}(h:w.heap[a.block]?=J (.cells c e fr))(V:a.spot=H)(i:Nat):
 (w.setCell a v).heap[i]?=if i=a.block then J (.cells (c.setIfInBounds a.off v) e fr) else w.heap[i]?:=by
 unfold ü;simp only[Array.getElem?_modify,V];by_cases hi:i=a.block
 ·subst hi;simp[h]
 ·rw[if_neg (λe=>hi e.symm),if_neg hi]
def Sim.store{a b:ϖ}{v v':z}(h:eh Z a b)(hv:aj Z v v'):Sim P' P C Z (λ_ _ _=>True) (Go.store a v) (Go.store b v'):=by
 intro aM h1 w w' es hw u aa T;have h:=h.mono h1;have hv:=hv.mono h1;have Cm:∀(p:ϗ) (w:N),T8 v=D->(Go.store a v).run p w=match w.cell? a with
  |some _=>if w.frozen? a then .halt (.unsupported (.unsafePointer "a write to bytes that a string shares")) w else .ok () (w.setCell a v)
  |none=>match w.farStore p a v U with| .ok (w,_)=>.ok () w| .error h=>.halt h w:=by
  intro p w ho;cases v<;>first|rfl|cases ho
 have ain:∀(p:ϗ) (w:N) (es:Array Ø),T8 v'=D-> w.frozen? b=U->(w.cell? b).isSome->(Go.store b v').runT p w es=(.ok () (w.setCell b v'),es.push ⟨.cell b,D,U⟩):=by
  intro p w es ho hf hc;obtain⟨x,hx⟩:=Option.isSome_iff_exists.1 hc;cases v'<;>first| (unfold Go.store;simp only[ϧ,hx,hf,è,if_false];rfl) |cases ho
 have xN:T8 v=D:=by
  cases v<;>first|rfl| (unfold Go.store at T;simp[ϥ] at T)
 have aip:T8 v'=D:=by cases hv<;>first|rfl|cases xN
 rw[Cm _ _ xN] at T;split at T
 ·rename_i x hx;split at T
  ·cases T
  ·rename_i Vc;simp only[Ĝ] at T;obtain⟨_,rfl⟩:=T;obtain⟨c,c',e,fr,ba,v2,q1,q2,q3,q4,q5,q6,q7,q8⟩:=hw.cell h hx;obtain⟨_,_,_,hh,mQ,_⟩:=To hx;have ao:=(Ϝ.1 q5).1
   have Ob: w.frozen? a=U:=(by simpa using Vc);rw[zp q1] at Ob;have xM:¬Full c fr:=λ⟨x,y⟩=>by have:decide (a.off<fr.2)=D:=(by simp;omega);simp[x,this] at Ob
   have cq:ba=fr:=q4.resolve_right xM;subst cq;have Wm:b.spot=H:=h.2.2▸mQ;have hfb: w'.frozen? b=U:=by rw[zp q2,<-h.2.1];exact Ob
   refine⟨aM,(),w'.setCell b v',#[⟨.cell b,D,U⟩],?_,trivial,?_,?_,λy hy=>?_⟩
   ·rw[ain _ _ _ aip hfb (by rw[q8];rfl)];simp
   ·refine⟨λi j x=>by simpa [ü] using hw.dL i j x,λi j x=>by simpa [ü] using hw.dq i j x,hw.fn,hw.inj,λi j o xE ho=>?_,hw.tape⟩;rw[C4 q1 mQ] at ho;rw[C4 q2 Wm];by_cases hi:i=a.block
    ·subst hi;rw[if_pos rfl] at ho;obtain rfl:=ϟ ho;have:j=b.block:=hw.fn _ _ _ xE h.1;subst this;exact⟨_,if_pos rfl,.cells e (by rw[h.2.1];exact q3.set _ hv) (.inl rfl)⟩
    ·rw[if_neg hi] at ho;have:j≠b.block:=λe=>hi (hw.inj _ _ _ xE (e▸h.1));rw[if_neg this];exact hw.obj i j o xE ho
   ·refine⟨aM.le_refl,λ_ _ x=>.inl x,by simp[ü],by simp[ü],λi o ho hf=>?_,λj hj hk=>?_,λj hj rQ=>by simp[ü] at rQ;omega,rfl,rfl,rfl,rfl⟩
    ·rw[C4 q1 mQ];by_cases hi:i=a.block
     ·subst hi;rw[q1] at ho;obtain rfl:=ϟ ho;exact absurd hf xM
     ·rw[if_neg hi];exact ho
    ·rw[C4 q2 Wm];by_cases hi:j=b.block
     ·subst hi;obtain⟨o,ho,hf⟩:=hk _ h.1;rw[q1] at ho;obtain rfl:=ϟ ho;exact absurd hf xM
     ·rw[if_neg hi]
   ·simp at hy;subst hy;exact .inl ⟨b.block,a.block,.inr ⟨b,rfl,rfl⟩,rfl,h.1,.inr ⟨_,q1,λ_=>xM⟩⟩
 ·rename_i hn;unfold Ad2 at T;obtain⟨o,ho,Ca⟩:=hw.N6 h.1;rw[ho] at T;cases o<;>simp_all [Ad0]<;>(obtain⟨o',_,x⟩:=Ca;cases x)
def Ren.add(Z:Ren)(a b:Nat):Ren:=λx y=>Z x y\/(x=a/\y=b)
def Ren.Px(Z:Ren)(a b:Nat):Z.le (Z.add a b):=λ_ _ h=>.inl h
def Sim.newObj{o o':Obj}(h:jq C Z o o'):Sim P' P C Z (λax a b=>ax a b) (Go.newObj o) (Go.newObj o'):=by
 intro aM h1 w w' es hw u aa T;have h:=h.mono h1;unfold Go.newObj at T |-
 simp only[ϥ,Ĝ] at T;obtain⟨rfl,rfl⟩:=T;refine⟨aM.add w.heap.size w'.heap.size,w'.heap.size,{w' with heap:=w'.heap.push o'},#[],by simp only[ϧ,ç],.inr ⟨rfl,rfl⟩,?_,?_,by simp⟩
 ·refine⟨λa b x=>?_,λa b x=>?_,λa b b' x y=>?_,λa a' b x y=>?_,λa b q x hq=>?_,hw.tape⟩
  ·rcases x with x| ⟨x,_⟩
   ·have:=hw.dL _ _ x;simp;omega
   ·simp;omega
  ·rcases x with x| ⟨_,x⟩
   ·have:=hw.dq _ _ x;simp;omega
   ·simp;omega
  ·rcases x with x| ⟨x,x'⟩<;>rcases y with y| ⟨y,y'⟩
   ·exact hw.fn _ _ _ x y
   ·have:=hw.dL _ _ x;omega
   ·have:=hw.dL _ _ y;omega
   ·omega
  ·rcases x with x| ⟨x,x'⟩<;>rcases y with y| ⟨y,y'⟩
   ·exact hw.inj _ _ _ x y
   ·have:=hw.dq _ _ x;omega
   ·have:=hw.dq _ _ y;omega
   ·omega
  ·rcases x with x| ⟨rfl,rfl⟩
   ·have ao:=hw.dL _ _ x;have xI:=hw.dq _ _ x;simp only[Š] at hq |-;rw[if_neg (by omega)] at hq;rw[if_neg (by omega)];obtain⟨q',e,r⟩:=hw.obj _ _ _ x hq;exact⟨q',e,r.mono (aM.Px _ _)⟩
   ·simp only[Š] at hq |-;simp only[if_true] at hq;obtain rfl:=ϟ hq;exact⟨o',by simp,h.mono (aM.Px _ _)⟩
 ·refine⟨aM.Px _ _,λa b x=>?_,by simp,by simp,λa q hq hf=>?_,λb hb _=>?_,λb hb dv=>?_,rfl,rfl,rfl,rfl⟩
  ·rcases x with x| ⟨rfl,rfl⟩
   ·exact .inl x
   ·exact .inr ⟨ϊ _,ϊ _⟩
  ·have:=(Ϝ.1 hq).1;simp only[Š];rw[if_neg (by omega)];exact hq
  ·simp only[Š];rw[if_neg (by omega)]
  ·simp at dv;exact⟨w.heap.size,.inr ⟨rfl,by omega⟩⟩
def Sim.getObj{a b:Nat}(h:Z a b):Sim P' P C Z (jq C) (Go.getObj a) (Go.getObj b):=by
 intro aM h1 w w' es hw u aa T;have h:=h1 _ _ h;unfold Go.getObj at T |-
 simp only[ϥ] at T;split at T
 ·cases T
 ·rename_i o br ho;simp only[Ĝ] at T;obtain⟨rfl,rfl⟩:=T;obtain⟨o',e,r⟩:=hw.obj _ _ _ h ho
  ·refine⟨aM,o',w',#[⟨.obj b,U,U⟩],?_,r,hw,Trans.refl ..,λx hx=>?_⟩
   ·cases r<;>first|exact(br _ _ _ rfl).elim| (simp only[ϧ,e,ŕ];rfl)
   ·simp at hx;subst hx;exact .inl ⟨b,a,.inl rfl,rfl,h,.inr ⟨o,ho,λx=>by cases x⟩⟩
 ·cases T
def Sim.setObj{a b:Nat}{o o':Obj}(h:Z a b)(IS:jq C Z o o'):Sim P' P C Z (λ_ _ _=>True) (Go.setObj a o) (Go.setObj b o'):=by
 intro aM h1 w w' es hw u aa T;have h:=h1 _ _ h;have IS:=IS.mono h1;unfold Go.setObj at T |-
 simp only[ϥ] at T;split at T
 ·cases T
 ·rename_i q EX hq;simp only[Ĝ] at T;obtain⟨_,rfl⟩:=T;have xM:¬mw q:=by
   intro hf;cases q<;>first|exact hf.elim|exact(EX _ _ _ rfl).elim
  have ao:=hw.dL _ _ h;have xI:=hw.dq _ _ h;obtain⟨q',e,r⟩:=hw.obj _ _ _ h hq;refine⟨aM,(),{w' with heap:=w'.heap.setIfInBounds b o'},#[⟨.obj b,D,U⟩],?_,trivial,?_,?_,λx hx=>?_⟩
  ·cases r<;>first|exact(EX _ _ _ rfl).elim| (cases IS<;>(simp only[ϧ,e,ŕ];rfl))
  ·refine⟨λi j x=>by simpa using hw.dL i j x,λi j x=>by simpa using hw.dq i j x,hw.fn,hw.inj,λi j x xE hx=>?_,hw.tape⟩;simp only[Ü] at hx |-;by_cases hi:a=i
   ·subst hi;rw[if_pos rfl,if_pos ao] at hx;obtain rfl:=ϟ hx;obtain rfl:b=j:=hw.fn _ _ _ h xE;exact⟨o',by simp[xI],IS⟩
   ·rw[if_neg hi] at hx;have:b≠j:=λe=>hi (hw.inj _ _ _ h (e▸xE));rw[if_neg this];exact hw.obj i j x xE hx
  ·refine⟨aM.le_refl,λ_ _ x=>.inl x,by simp,by simp,λi x hx hf=>?_,λj hj hk=>?_,λj hj rQ=>by simp at rQ;omega,rfl,rfl,rfl,rfl⟩
   ·simp only[Ü];by_cases hi:a=i
    ·subst hi;rw[hq] at hx;obtain rfl:=ϟ hx;exact absurd hf xM
    ·rw[if_neg hi];exact hx
   ·simp only[Ü];by_cases hi:b=j
    ·subst hi;obtain⟨x,hx,hf⟩:=hk _ h;rw[hq] at hx;obtain rfl:=ϟ hx;exact absurd hf xM
    ·rw[if_neg hi]
  ·simp at hx;subst hx;exact .inl ⟨b,a,.inl rfl,rfl,h,.inr ⟨q,hq,λ_=>xM⟩⟩
 ·cases T
def Sim.choose(q:Question):Sim P' P C Z (λ_ a b=>a=b) (Go.choose q) (Go.choose q):=by
 intro aM h1 w w' es hw u aa T;unfold Go.choose at T |-;simp only[ϥ] at T;split at T
 ·rename_i hf;simp only[Ĝ] at T;obtain⟨rfl,rfl⟩:=T;exact⟨aM,0,w',#[],by simp only[ϧ,hf,if_true,ç],rfl,hw,Trans.refl ..,by simp⟩
 ·rename_i hf;simp only[Ĝ] at T;obtain⟨rfl,rfl⟩:=T;have ht:=hw.tape 0 q;simp only[Nat.add_zero] at ht;refine⟨aM,q.cut (w'.tape w'.drawn q),{w' with drawn:=w'.drawn+1},#[],by simp only[ϧ,hf,è,if_false,ç],by rw[ht],⟨hw.dL,hw.dq,hw.fn,hw.inj,hw.obj,λj r=>?_⟩,⟨aM.le_refl,λ_ _ x=>.inl x,ϊ _,ϊ _,λ_ _ x _=>x,λ_ _ _=>rfl,λb hb dv=>by simp at dv;omega,rfl,rfl,rfl,rfl⟩,by simp⟩
  have:=hw.tape (1+j) r;simpa [Nat.add_assoc] using this
def Sim.program:Sim P' P C Z (λ_ a b=>a=P'/\b=P) Go.program Go.program:=by
 intro aM h1 w w' es hw u aa T;unfold Go.program at T |-;simp only[ϥ,Ĝ] at T;obtain⟨rfl,rfl⟩:=T;exact⟨aM,P,w',#[],by simp only[ϧ,ç],⟨rfl,rfl⟩,hw,Trans.refl ..,by simp⟩
def Sim.shape{a b:Nat}(h:Z a b):Sim P' P C Z (λ_ a b=>a=b) (Go.shape a) (Go.shape b):=by
 intro aM h1 w w' es hw u aa T;have h:=h1 _ _ h;unfold Go.shape at T |-
 simp only[ϥ,Ĝ] at T;obtain⟨rfl,rfl⟩:=T;refine⟨aM,w'.shape? b,w',#[],by simp only[ϧ,ç],?_,hw,Trans.refl ..,by simp⟩;obtain⟨o,ho,o',pJ,r⟩:=hw.N6 h;unfold Ad3;rw[ho,pJ];cases r with
 |cells e hc hf=>simp[hc.1]
 |_=>rfl
def Sim.noRoom:Sim P' P C Z (λ_ _ _=>True) (Go.mark .noRoom) (Go.mark .noRoom):=by
 intro aM h1 w w' es hw u aa T;unfold Go.mark at T |-;simp only[ϥ,Ĝ] at T;obtain⟨_,rfl⟩:=T;exact⟨aM,(),w',#[⟨.mark .noRoom,U,D⟩],by simp only[ϧ,ŕ],trivial,hw,Trans.refl ..,λx hx=>by simp at hx;subst hx;exact .inr (.inl rfl)⟩
end
end Go.Sim
namespace Go.Sim
open Go
def Flat(v:z):Prop:=aj (λ_ _=>False) v v
def Flat.rel(h:Flat v)(Z:Ren):aj Z v v:=aj.mono (λ_ _ x=>x.elim) h
def tw(P:ϗ)(F:Array Ç):ϗ:={P with funcs:=F,globals:=#[]}
def Zd(P:ϗ)(F:Array Ç):∀(f:Nat) (t:ώ),ų (tw P F).toTables f t=ų P.toTables f t
 |0,t=>rfl
 |f+1,t=>by have e:ų (tw P F).toTables f=ų P.toTables f:=funext λt=>Zd P F f t;show(if t<P.types.size then P.types[t]? else(Made.decode (t - P.types.size)).bind (Made.reckon (ų (tw P F).toTables f)))=_;rw[e];rfl
def wx(P:ϗ)(F:Array Ç)(t:ώ):(tw P F).info? t= P.info? t:=by show(if t<P.types.size then P.types[t]? else ų (tw P F).toTables Made.depth t)=_;rw[Zd];rfl
def kJ(P:ϗ)(F:Array Ç)(t:ώ):(tw P F).underlying t=P.underlying t:=by
 unfold Program.underlying;rw[wx];cases h: P.info? t with
 |none=>rfl
 |some i=>
  obtain⟨d,_⟩:=i;cases d;case named n u=>exact congrArg (Option.map _) (wx P F u)
  all_goals rfl
structure pA(P:ϗ):Prop where
 zero:∀t i v,P.info? t=J i->i.zero=J v->Flat v
section
variable {P:ϗ}{F:Array Ç}{C:bX}{Z:Ren}{α β γ δ:Type}
variable {R:Ren->α->β->Prop}{S:Ren->γ->δ->Prop}
def Sim.bind'{s:Sem α}{s':Sem β}{f:α->Sem γ}{g:β->Sem δ}(h:Sim P' P C Z R s s')(hf:∀ax,Z.le ax->∀a b,R ax a b->Sim P' P C ax S (f a) (g b)):
 Sim P' P C Z S (s>>=f) (s'>>=g):=Sim.bind h hf
def Sim.pure'{a:α}{b:β}(h:∀ax,Z.le ax->R ax a b):Sim P' P C Z R (Ϩ a) (Ϩ b):=Sim.pure h
def Sim.stuck{P':ϗ}{why:String}{s':Sem β}:Sim P' P C Z R (Go.stuck why:Sem α) s':=Sim.halt
def Sim.AW{why:String}{f:α->Sem γ}{s':Sem δ}:Sim P' P C Z S ((Go.stuck why:Sem α)>>=f) s':=Sim.halt
def Sim.unsupported{P':ϗ}{u:Unsupported}{s':Sem β}:Sim P' P C Z R (Go.unsupported u:Sem α) s':=Sim.halt
def Sim.Dc{u:Unsupported}{f:α->Sem γ}{s':Sem δ}:Sim P' P C Z S ((Go.unsupported u:Sem α)>>=f) s':=Sim.halt
def bH(P':ϗ)(s:Sem α):Prop:=∀w a aa,s.run P' w≠ .ok a aa
def Sim.never{s:Sem α}{s':Sem β}(h:bH P' s):Sim P' P C Z R s s':=λ_ _ w _ _ _ a aa T=>absurd T (h w a aa)
def bH.bind{P':ϗ}{s:Sem α}{f:α->Sem γ}(h:bH P' s):bH P' (s>>=f):=by
 intro w a aa T;have T:(s.bind f).run P' w=.ok a aa:=T;rw[run_bind] at T;cases e:s.run P' w with
 |ok b au=>exact h _ _ _ e
 |halt h' au=>rw[e] at T;cases T
def bH.lH{s:Sem α}{f:α->Sem γ}(h:∀a,bH P' (f a)):bH P' (s>>=f):=by
 intro w a aa T;have T:(s.bind f).run P' w=.ok a aa:=T;rw[run_bind] at T;cases e:s.run P' w with
 |ok b au=>rw[e] at T;exact h b _ _ _ T
 |halt h' au=>rw[e] at T;cases T
def bH.halt{P':ϗ}{h:Halt}:bH P' (.halt h:Sem α):=λw a aa T=>by simp[ϥ] at T
def oV(e:RuntimeError):bH P' (runtimePanic e:Sem α):=by
 unfold runtimePanic;refine bH.lH λp=>?_;cases e<;>simp only<;>first|exact bH.halt|exact bH.lH λ_=>bH.lH λ_=>bH.halt|exact bH.lH λ_=>bH.halt
def vJ(k:í)(x y:Int)(c:Abj):bH P' (Abk k x y c:Sem α):=by unfold Abk;simp only;split<;>exact bH.lH λ_=>oV _
def Sim.typeInfo(t:ώ):Sim (tw P F) P C Z (λ_ a b=>a=b/\ P.info? t=J b) (typeInfo t) (typeInfo t):=by
 unfold Go.typeInfo;refine Sim.bind' Sim.program λax _ a b h=>?_;obtain⟨rfl,rfl⟩:=h;rw[wx];cases h: b.info? t with
 |none=>exact Sim.stuck
 |some i=>exact Sim.pure' λ_ _=>⟨rfl,rfl⟩
def Sim.underlying(t:ώ):Sim (tw P F) P C Z (λ_ a b=>a=b/\P.underlying t=J b) (underlying t) (underlying t):=by
 unfold Go.underlying;refine Sim.bind' Sim.program λax _ a b h=>?_;obtain⟨rfl,rfl⟩:=h;rw[kJ];cases h:b.underlying t with
 |none=>exact Sim.stuck
 |some i=>exact Sim.pure' λ_ _=>⟨rfl,rfl⟩
def Sim.zeroValue(hr:pA P)(t:ώ):Sim (tw P F) P C Z aj (zeroValue t) (zeroValue t):=by
 unfold Go.zeroValue;refine Sim.bind' (Sim.typeInfo t) λax _ a b h=>?_;obtain⟨rfl,hi⟩:=h;cases hz:a.zero with
 |none=>exact Sim.unsupported
 |some v=>exact Sim.pure' λ_ _=>(hr.zero t a v hi hz).rel _
def Sim.sizeOf(t:ώ):Sim (tw P F) P C Z (λ_ a b=>a=b) (sizeOf t) (sizeOf t):=by unfold Go.sizeOf;refine Sim.bind' (Sim.typeInfo t) λax _ a b h=>?_;obtain⟨rfl,_⟩:=h;exact Sim.pure' λ_ _=>rfl
def Sim.isAgg(t:ώ):Sim (tw P F) P C Z (λ_ a b=>a=b) (isAgg t) (isAgg t):=by unfold Go.isAgg;refine Sim.bind' (Sim.underlying t) λax _ a b h=>?_;obtain⟨rfl,_⟩:=h;cases a<;>exact Sim.pure' λ_ _=>rfl
def Sim.loadCellsFrom{a b:ϖ}(h:eh Z a b)(n:Nat):∀(i:Nat) {acc GZ:Array z} {ax:Ren},Z.le ax->aV ax acc GZ->Sim (tw P F) P C ax aV (loadCellsFrom a i n acc) (loadCellsFrom b i n GZ):=by
 induction n with
 |zero=>intro i acc GZ ax hl Ep;exact Sim.pure' λfw ed=>Ep.mono ed
 |succ n ih=>intro i acc GZ ax hl Ep;unfold Go.loadCellsFrom;exact Sim.bind' (Sim.load ((h.mono hl).add i)) λfw ed v v' hv=>ih (i+1) (Ren.le_trans hl ed) ((Ep.mono ed).push hv)
def Sim.loadCells{a b:ϖ}(h:eh Z a b)(n:Nat):Sim (tw P F) P C Z aV (loadCells a n) (loadCells b n):=
 Sim.loadCellsFrom h n 0 Z.le_refl .empty
def Sim.storeCells{a b:ϖ}{vs Zp:List z}(h:eh Z a b)(hv:gR (aj Z) vs Zp):∀(i:Nat),Sim (tw P F) P C Z (λ_ _ _=>True) (storeCells a vs i) (storeCells b Zp i):=by
 induction hv with
 |nil=>intro i;exact Sim.pure' λ_ _=>trivial
 |cons hv _ ih=>intro i;unfold Go.storeCells;exact Sim.bind' (Sim.store (h.add i) hv) λax h' _ _ _=>(ih (i+1)).mono h'
def Sim.loadVar(t:ώ){a b:ϖ}(h:eh Z a b):Sim (tw P F) P C Z aj (loadVar t a) (loadVar t b):=by
 unfold Go.loadVar;refine Sim.bind' (Sim.isAgg t) λax h' x y e=>?_;subst e;have h:=h.mono h';cases x with
 |true=>simp only[if_true];refine Sim.bind' (Sim.sizeOf t) λfw ed x y e=>?_;subst e;exact Sim.bind' (Sim.loadCells (h.mono ed) x) λeA _ c c' hc=>Sim.pure' λ_ h4=>aj.wH (hc.mono h4)
 |false=>exact Sim.load h
def Sim.storeVar(t:ώ){a b:ϖ}{v v':z}(h:eh Z a b)(hv:aj Z v v'):Sim (tw P F) P C Z (λ_ _ _=>True) (storeVar t a v) (storeVar t b v'):=by
 unfold Go.storeVar;refine Sim.bind' (Sim.sizeOf t) λax h' x y e=>?_;subst e;have hc:=(hv.mono h').cells;rw[<-hc.1];split
 ·exact Sim.stuck
 ·exact Sim.storeCells (h.mono h') hc.pQ 0
def Sim.newRow(e:ώ){c c':Array z}(h:aV Z c c'):Sim (tw P F) P C Z eh (newRow e c) (newRow e c'):=by unfold Go.newRow;exact Sim.bind' (Sim.newObj (.cells e h (.inl rfl))) λax _ a b hab=>Sim.pure' λ_ h2=>⟨h2 _ _ hab,rfl,rfl⟩
def Sim.newVar(t:ώ){v v':z}(h:aj Z v v'):Sim (tw P F) P C Z eh (newVar t v) (newVar t v'):=Sim.newRow t h.cells
def Sim.part(t:ώ){c c':Array z}(h:aV Z c c')(off:Nat):Sim (tw P F) P C Z aj (part t c off) (part t c' off):=by
 unfold Go.part;refine Sim.bind' (Sim.isAgg t) λax h' x y e=>?_;subst e;have h:=h.mono h';cases x with
 |true=>simp only[if_true];refine Sim.bind' (Sim.sizeOf t) λfw ed x y e=>?_;subst e;exact Sim.pure' λ_ h4=>aj.wH ((h.mono (Ren.le_trans ed h4)).extract _ _)
 |false=>
  simp only[è,if_false];rcases h.get? off with⟨e1,_⟩ | ⟨u,v,e1,e2,I5⟩
  ·rw[e1];exact Sim.stuck
  ·rw[e1,e2];exact Sim.pure' λ_ h4=>I5.mono h4
def Sim.asIntOf{v v':z}(h:aj Z v v'):Sim (tw P F) P C Z (λ_ a b=>a=b) (asIntOf v) (asIntOf v'):=by
 cases h<;>first|exact Sim.pure' λ_ _=>rfl|exact Sim.halt
def Sim.asInt{v v':z}(h:aj Z v v'):Sim (tw P F) P C Z (λ_ a b=>a=b) (asInt v) (asInt v'):=
 Sim.bind' (Sim.asIntOf h) λ_ _ a b e=>by subst e;exact Sim.pure' λ_ _=>rfl
def Sim.asBool{v v':z}(h:aj Z v v'):Sim (tw P F) P C Z (λ_ a b=>a=b) (asBool v) (asBool v'):=by
 cases h<;>first|exact Sim.pure' λ_ _=>rfl|exact Sim.halt
def Sim.asAgg{v v':z}(h:aj Z v v'):Sim (tw P F) P C Z aV (asAgg v) (asAgg v'):=by
 cases h;case agg hx h1=>exact Sim.pure' λ_ h'=>aV.mono h' ⟨hx,h1⟩
 all_goals exact Sim.halt
def Sim.asAddr{v v':z}(h:aj Z v v'):Sim (tw P F) P C Z eh (asAddr v) (asAddr v'):=by
 cases h;case ptr hx=>exact Sim.pure' λ_ h'=>eh.mono h' hx
 case ptrNone=>exact Sim.never (show bH (tw P F) (Go.asAddr (π H)) from oV .nilDeref)
 all_goals exact Sim.halt
def Sim.sureAddr{v v':z}(h:aj Z v v'):Sim (tw P F) P C Z eh (Instr.sureAddr v) (Instr.sureAddr v'):=by
 cases h;case ptr hx=>exact Sim.pure' λ_ h'=>eh.mono h' hx
 all_goals exact Sim.halt
end
end Go.Sim
namespace Go.Sim
open Go
section
variable {P:ϗ}{F:Array Ç}{C:bX}{Z:Ren}{α β γ δ:Type}
variable {R:Ren->α->β->Prop}{S:Ren->γ->δ->Prop}
def KH(Z:Ren):Prop:=(∀a b b',Z a b->Z a b'->b=b')/\(∀a a' b,Z a b->Z a' b->a=a')
def Sim.cO{s:Sem σ}{s':Sem σ}{f:σ->Sem γ}{g:σ->Sem δ}(h:Sim P' P C Z (λ_ a b=>a=b) s s')(hf:∀ax,Z.le ax->∀a,Sim P' P C ax S (f a) (g a)):
 Sim P' P C Z S (s>>=f) (s'>>=g):=Sim.bind' h λax h' a b e=>by subst e;exact hf ax h' a
def Sim.map{s:Sem α}{s':Sem β}{f:α->γ}{g:β->δ}(h:Sim P' P C Z R s s')(hf:∀ax,Z.le ax->∀a b,R ax a b->∀fw,ax.le fw->S fw (f a) (g b)):
 Sim P' P C Z S (f<$>s) (g<$>s'):=by
 rw[map_eq_pure_bind,map_eq_pure_bind];exact Sim.bind' h λax h' a b r=>Sim.pure' λfw ed=>hf ax h' a b r fw ed
def Sim.fR{t:ώ}{f:ŗ->Sem γ}{g:ŗ->Sem δ}(hf:∀ax,Z.le ax->∀a,P.underlying t=J a->Sim (tw P F) P C ax S (f a) (g a)):
 Sim (tw P F) P C Z S (Go.underlying t>>=f) (Go.underlying t>>=g):=Sim.bind' (Sim.underlying t) λax h' a b e=>by obtain⟨rfl,e⟩:=e;exact hf ax h' a e
def Sim.Db{t:ώ}{f:TypeInfo->Sem γ}{g:TypeInfo->Sem δ}(hf:∀ax,Z.le ax->∀a,P.info? t=J a->Sim (tw P F) P C ax S (f a) (g a)):
 Sim (tw P F) P C Z S (Go.typeInfo t>>=f) (Go.typeInfo t>>=g):=Sim.bind' (Sim.typeInfo t) λax h' a b e=>by obtain⟨rfl,e⟩:=e;exact hf ax h' a e
def Sim.sO(l:List ι){f g:ι->σ->Sem (ForInStep σ)}(h:∀x∈l,∀s,Sim P' P C Z (λ_ a b=>a=b) (f x s) (g x s)):
 ∀s,Sim P' P C Z (λ_ a b=>a=b) (forIn l s f) (forIn l s g):=by
 induction l with
 |nil=>intro s;exact Sim.pure' λ_ _=>rfl
 |cons x l ih=>
  intro s;rw[List.forIn_cons,List.forIn_cons];refine Sim.cO (h x (by simp) s) λax h' r=>?_;cases r with
  |done s=>exact Sim.pure' λ_ _=>rfl|yield s=>exact(ih (λy hy s=>h y (by simp[hy]) s) s).mono h'
def Sim.zm(l:Array ι){f g:ι->σ->Sem (ForInStep σ)}(h:∀x∈l,∀s,Sim P' P C Z (λ_ a b=>a=b) (f x s) (g x s))(s:σ):
 Sim P' P C Z (λ_ a b=>a=b) (forIn l s f) (forIn l s g):=by
 rw[<-Aaj,<-Aaj];exact Sim.sO _ (λx hx s=>h x (by simpa using hx) s) s
def Sim.AJ(l:List ι){f g:ι->Sem σ}(h:∀x∈l,Sim P' P C Z (λ_ a b=>a=b) (f x) (g x)):
 Sim P' P C Z (λ_ a b=>a=b) (l.mapM f) (l.mapM g):=by
 induction l with
 |nil=>simp only[List.mapM_nil];exact Sim.pure' λ_ _=>rfl
 |cons x l ih=>simp only[List.mapM_cons];refine Sim.cO (h x (by simp)) λax h' a=>?_;refine Sim.cO ((ih λy hy=>h y (by simp[hy])).mono h') λfw ed b=>Sim.pure' λ_ _=>rfl
def Sim.yb(l:Array ι){f g:ι->Sem σ}(h:∀x∈l,Sim P' P C Z (λ_ a b=>a=b) (f x) (g x)):
 Sim P' P C Z (λ_ a b=>a=b) (l.mapM f) (l.mapM g):=by
 rw[ķ,ķ];exact Sim.map (Sim.AJ _ λx hx=>h x (by simpa using hx)) λ_ _ a b e _ _=>by rw[e]
def Sim.alloc(hr:pA P)(t:ώ):Sim (tw P F) P C Z aj (Instr.alloc t D (μ #[])) (Instr.alloc t D (μ #[])):=by unfold Instr.alloc;refine Sim.bind' (Sim.zeroValue hr t) λax h' v v' hv=>?_;exact Sim.bind' (Sim.newVar t hv) λfw ed a b hab=>Sim.pure' λ_ h=>.ptr (hab.mono h)
def Sim.box(t:ώ){v v':z}(h:aj Z v v'):Sim (tw P F) P C Z aj (Instr.box t v) (Instr.box t v'):=by unfold Instr.box;exact Sim.bind' (Sim.newVar t h) λfw ed a b hab=>Sim.pure' λ_ h=>.ptr (hab.mono h)
def Sim.loadAt(t:ώ){v v':z}(h:aj Z v v'):Sim (tw P F) P C Z aj (Instr.loadAt t v) (Instr.loadAt t v'):=
 Sim.bind' (Sim.sureAddr h) λ_ _ _ _ hab=>Sim.loadVar t hab
def Sim.storeAt(t:ώ){v v' x x':z}(h:aj Z v v')(hx:aj Z x x'):Sim (tw P F) P C Z (λ_ _ _=>True) (Instr.storeAt t v x) (Instr.storeAt t v' x'):=
 Sim.bind' (Sim.sureAddr h) λ_ h' _ _ hab=>Sim.storeVar t hab (hx.mono h')
def Sim.fieldAt(s:ώ){v v':z}(h:aj Z v v')(i:Nat)(cD:∀fs f,P.underlying s=J (.struct fs)->fs[i]?=J f->∃info,P.info? f.type=J info/\info.size≠0):
 Sim (tw P F) P C Z aj (Instr.fieldAt s v i) (Instr.fieldAt s v' i):=by
 unfold Instr.fieldAt;refine Sim.fR λax h' d hd=>?_;cases d;case struct fs=>
  simp only;cases hf:fs[i]? with
  |none=>exact Sim.stuck|some f=>simp only;refine Sim.bind' (Sim.sureAddr (h.mono h')) λfw ed a b hab=>?_;refine Sim.bind' (R:=eh) ?_ λeA h3 a b hab=>Sim.pure' λ_ h4=>.ptr (hab.mono h4);unfold Go.fieldPlace;unfold Go.sizeOf;obtain⟨info,hi,hz⟩:=cD fs f hd hf;simp only[bind_assoc,pure_bind];refine Sim.Db λeA h3 i bG=>?_;rw[hi] at bG;obtain rfl:=ϟ bG;simp only[if_neg hz];exact Sim.pure' λ_ h4=>(hab.mono (Ren.le_trans h3 h4)).add _
 all_goals exact Sim.stuck
inductive fK{α β:Type}(R:α->β->Prop):Option α->Option β->Prop
 |none:fK R H H
 |some {a:α} {b:β} (h:R a b):fK R (J a) (J b)
def fK.mono{α β:Type}{R R':α->β->Prop}(h:∀a b,R a b->R' a b){x:Option α}{y:Option β}(k:fK R x y):fK R' x y:=by
 cases k with
 |none=>exact .none
 |some k=>exact .some (h _ _ k)
def tq(t:ώ)(k:í)(i:Int)(base:Option ϖ)(len:Nat)(elem:ώ):Sem z:=do
 let apV:=len<=1 && (match <-Go.underlying t with| .array .. =>D|_=>U)
 match base with
 |some a=>
  if 0<=i/\i<len then pure (π (J (a.add (i.toNat * (<-Go.sizeOf elem)))))
  else if apV then Go.unsupported (.noEntry "op/indexAddr.an index out of range at an array of length 0 or 1 (ledger 616)")
  else Abk k i len .index
 |none=>Abk k i 0 .index
def Sim.tq(t:ώ)(k:í)(i:Int){x y:Option ϖ}(hxy:fK (eh Z) x y)(len:Nat)(e:ώ):
 Sim (tw P F) P C Z aj (tq t k i x len e) (tq t k i y len e):=by
 unfold Go.Sim.tq;refine Sim.fR λmq h4 d' Ez=>?_;cases hxy with
 |none=>exact Sim.never (vJ _ _ _ _)
 |some hxy=>
  simp only;split
  ·exact Sim.cO (Sim.sizeOf _) λv8 h5 n=>Sim.pure' λ_ h6=>.ptr ((hxy.mono (Ren.le_trans h4 (Ren.le_trans h5 h6))).add _)
  ·split
   ·split
    ·exact Sim.unsupported
    ·exact Sim.never (vJ _ _ _ _)
   ·split
    ·exact Sim.unsupported
    ·exact Sim.never (vJ _ _ _ _)
def Sim.ajb(t:ώ)(k:í)(i:Int)(x y:ϖ)(e:ώ):Sim (tw P F) P C Z aj (Go.Sim.tq t k i (J x) 0 e) (Go.Sim.tq t k i (J y) 0 e):=by
 unfold Go.Sim.tq;refine Sim.fR λmq h4 d' Ez=>?_;have hn:¬ (0<=i/\i<((0:Nat):Int)):=by omega
 simp only[if_neg hn];split
 ·split
  ·exact Sim.unsupported
  ·exact Sim.never (vJ _ _ _ _)
 ·split
  ·exact Sim.unsupported
  ·exact Sim.never (vJ _ _ _ _)
def Sim.indexAt(t:ώ){v v' x x':z}(h:aj Z v v')(hx:aj Z x x'):Sim (tw P F) P C Z aj (Instr.indexAt t v x) (Instr.indexAt t v' x'):=by
 unfold Instr.indexAt;refine Sim.cO (Sim.asIntOf hx) λax h' ki=>?_;obtain⟨k,i⟩:=ki;simp only;refine Sim.fR λfw ed d hd=>?_;have h:=h.mono (Ren.le_trans h' ed);cases d;case array n e=>simp only;refine Sim.bind' (Sim.sureAddr h) λeA h3 a b hab=>?_;exact Sim.tq t k i (.some hab) n e
 case slice e=>
  cases h;case slice n c hab=>exact Sim.tq t k i (.some hab) n e
  case sliceNone n c=>exact Sim.tq t k i .none n e
  case sliceDead a b=>exact Sim.ajb t k i a b e
  all_goals exact Sim.AW
 all_goals (cases h<;>exact Sim.AW)
def Sim.field(t:ώ){v v':z}(h:aj Z v v')(i:Nat):Sim (tw P F) P C Z aj (Instr.field t v i) (Instr.field t v' i):=by
 unfold Instr.field;refine Sim.fR λax h' d hd=>?_;cases d;case struct fs=>
  simp only;cases hf:fs[i]? with
  |none=>exact Sim.stuck|some f=>exact Sim.bind' (Sim.asAgg (h.mono h')) λ_ _ _ _ hab=>Sim.part _ hab _
 all_goals exact Sim.stuck
def Sim.index(t:ώ){v v' x x':z}(h:aj Z v v')(hx:aj Z x x'):Sim (tw P F) P C Z aj (Instr.index t v x) (Instr.index t v' x'):=by
 unfold Instr.index;refine Sim.cO (Sim.asIntOf hx) λax h' ki=>?_;obtain⟨k,i⟩:=ki;simp only;refine Sim.fR λfw ed d hd=>?_;have h:=h.mono (Ren.le_trans h' ed);cases d;case array n e=>
  cases h;case agg hx h1=>
   simp only;split
   ·exact Sim.cO (Sim.sizeOf _) λv8 h5 n=>Sim.part _ (aV.mono h5 ⟨hx,h1⟩) _
   ·exact Sim.never (vJ _ _ _ _)
  all_goals exact Sim.stuck
 case string=>
  cases h;case string s=>
   simp only;split
   ·exact Sim.pure' λ_ _=>.int _ _
   ·exact Sim.never (vJ _ _ _ _)
  all_goals exact Sim.stuck
 all_goals (cases h<;>exact Sim.stuck)
def Sim.sliceBound{v v':z}(h:aj Z v v')(y:Nat)(c:Abj):Sim (tw P F) P C Z (λ_ a b=>a=b) (š v y c) (š v' y c):=by
 unfold š;refine Sim.cO (Sim.asIntOf h) λax h' ki=>?_;obtain⟨k,i⟩:=ki;simp only;split
 ·exact Sim.pure' λ_ _=>rfl
 ·exact Sim.never (vJ _ _ _ _)
def wM(l:Option z)(mx:Bool)(y x:Nat):Sem (Nat×Nat×Nat):=
 match l with
 |some v=>š v y (if mx=D then BoundsCode.slice3C else BoundsCode.sliceB)>>=λl=>Ϩ (l,y,x)
 |none=>Ϩ 0>>=λl=>Ϩ (l,y,x)
def Sim.aoD(hl:fK (aj Z) l l')(mx:Bool)(y x:Nat):Sim (tw P F) P C Z (λ_ a b=>a=b) (wM l mx y x) (wM l' mx y x):=by
 cases hl with
 |none=>exact Sim.pure' λ_ _=>rfl
 |some hl=>exact Sim.cO (Sim.sliceBound hl _ _) λ_ _ _=>Sim.pure' λ_ _=>rfl
def Sim.sliceBounds(b:Bool)(n c:Nat){l l' h h' m m':Option z}(hl:fK (aj Z) l l')(hh:fK (aj Z) h h')(hm:fK (aj Z) m m'):
 Sim (tw P F) P C Z (λ_ a b=>a=b) (Ų b n c l h m) (Ų b n c l' h' m'):=by
 have tl:∀(ax:Ren),Z.le ax->∀(mx:Bool) (x y:Nat),Sim (tw P F) P C ax (λ_ a b=>a=b) (wM l mx y x) (wM l' mx y x):=
  λax h' mx x y=>Sim.aoD (hl.mono λ_ _ x=>aj.mono h' x) mx y x
 unfold Ų;cases hm with
 |none=>
  cases hh with
  |none=>exact tl Z Z.le_refl U c n|some hh=>simp only[pure_bind];exact Sim.cO (Sim.sliceBound hh _ _) λax h' y=>tl ax h' U c y
 |some hm=>
  refine Sim.cO (Sim.sliceBound hm _ _) λax h' x=>?_;cases hh with
  |none=>exact Sim.AW|some hh=>exact Sim.cO (Sim.sliceBound (hh.mono h') _ _) λfw ed y=>tl fw (Ren.le_trans h' ed) D x y
def Sim.J4(h:aj Z v v')(c:Abj):Sim (tw P F) P C Z (λ_ a b=>a=0/\b=0) (š v 0 c) (š v' 0 c):=by
 unfold š;refine Sim.cO (Sim.asIntOf h) λax h' ki=>?_;obtain⟨k,i⟩:=ki;simp only;split
 ·have:i.toNat=0:=by omega
  exact Sim.pure' λ_ _=>⟨this,this⟩
 ·exact Sim.never (vJ _ _ _ _)
def Sim.aoE(hl:fK (aj Z) l l')(mx:Bool):Sim (tw P F) P C Z (λ_ a b=>a=(0,0,0)/\b=(0,0,0)) (wM l mx 0 0) (wM l' mx 0 0):=by
 cases hl with
 |none=>exact Sim.pure' λ_ _=>⟨rfl,rfl⟩
 |some hl=>exact Sim.bind' (Sim.J4 hl _) λ_ _ a b ⟨ha,hb⟩=>by subst ha hb;exact Sim.pure' λ_ _=>⟨rfl,rfl⟩
def Sim.ao4(b:Bool){h h' m m':Option z}(hl:fK (aj Z) l l')(hh:fK (aj Z) h h')(hm:fK (aj Z) m m'):
 Sim (tw P F) P C Z (λ_ a b=>a=(0,0,0)/\b=(0,0,0)) (Ų b 0 0 l h m) (Ų b 0 0 l' h' m'):=by
 have tl:∀(ax:Ren),Z.le ax->∀(mx:Bool),Sim (tw P F) P C ax (λ_ a b=>a=(0,0,0)/\b=(0,0,0)) (wM l mx 0 0) (wM l' mx 0 0):=
  λax h' mx=>Sim.aoE (hl.mono λ_ _ x=>aj.mono h' x) mx
 unfold Ų;cases hm with
 |none=>
  cases hh with
  |none=>exact tl Z Z.le_refl U|some hh=>simp only[pure_bind];exact Sim.bind' (Sim.J4 hh _) λax h' x y hxy=>by obtain⟨rfl,rfl⟩:=hxy;exact tl ax h' U
 |some hm=>
  refine Sim.bind' (Sim.J4 hm _) λax h' x y hxy=>?_;obtain⟨rfl,rfl⟩:=hxy;cases hh with
  |none=>exact Sim.AW|some hh=>exact Sim.bind' (Sim.J4 (hh.mono h') _) λfw ed x y hxy=>by obtain⟨rfl,rfl⟩:=hxy;exact tl fw (Ren.le_trans h' ed) D
def Sim.slice(t:ώ){v v':z}{l l' h h' m m':Option z}(hv:aj Z v v')(hl:fK (aj Z) l l')(hh:fK (aj Z) h h')(hm:fK (aj Z) m m'):
 Sim (tw P F) P C Z aj (Acs t v l h m) (Acs t v' l' h' m'):=by
 unfold Acs;refine Sim.fR λcF h1 d hd=>?_;have hv:=hv.mono h1;have hl:=hl.mono λ_ _ x=>aj.mono h1 x
 have hh:=hh.mono λ_ _ x=>aj.mono h1 x;have hm:=hm.mono λ_ _ x=>aj.mono h1 x;cases d;case string=>
  cases hv;case string s=>
   cases hm with
   |some _=>exact Sim.AW|none=>refine Sim.cO (Sim.sliceBounds _ _ _ hl hh .none) λbQ h2 x=>Sim.pure' λ_ _=>.string _
  all_goals exact Sim.stuck
 case slice e=>
  cases hv;case slice n c hab=>
   refine Sim.cO (Sim.sliceBounds _ _ _ hl hh hm) λbQ h2 x=>?_;obtain⟨x1,x2,x3⟩:=x;simp only;refine Sim.cO (Sim.sizeOf _) λeA h3 n=>?_;refine Sim.pure' λmq h4=>?_;have hab:=hab.mono (Ren.le_trans h2 (Ren.le_trans h3 h4));split
   ·exact .slice _ _ hab
   ·exact .slice _ _ (hab.add _)
  case sliceNone n c=>refine Sim.cO (Sim.sliceBounds _ _ _ hl hh hm) λbQ h2 x=>?_;obtain⟨x1,x2,x3⟩:=x;simp only;refine Sim.cO (Sim.sizeOf _) λeA h3 n=>?_;refine Sim.pure' λmq h4=>?_;split<;>exact .sliceNone _ _
  case sliceDead a b=>refine Sim.bind' (Sim.ao4 _ hl hh hm) λbQ h2 x y hxy=>?_;obtain⟨rfl,rfl⟩:=hxy;simp only;refine Sim.cO (Sim.sizeOf _) λeA h3 n=>?_;refine Sim.pure' λmq h4=>?_;split<;>exact .sliceDead _ _
  all_goals exact Sim.stuck
 case pointer arr=>
  simp only;refine Sim.bind' (Sim.asAddr hv) λbQ h2 a b hab=>?_;refine Sim.fR λeA h3 d' Ez=>?_;cases d';case array n e=>
   simp only;refine Sim.cO (Sim.sliceBounds _ _ _ (hl.mono λ_ _ x=>aj.mono (Ren.le_trans h2 h3) x) (hh.mono λ_ _ x=>aj.mono (Ren.le_trans h2 h3) x) (hm.mono λ_ _ x=>aj.mono (Ren.le_trans h2 h3) x)) λmq h4 x=>?_;obtain⟨x1,x2,x3⟩:=x;simp only;refine Sim.cO (Sim.sizeOf _) λv8 h5 n=>?_;refine Sim.pure' λRl h6=>?_;have hab:=hab.mono (Ren.le_trans h3 (Ren.le_trans h4 (Ren.le_trans h5 h6)));split
   ·exact .slice _ _ hab
   ·exact .slice _ _ (hab.add _)
  all_goals exact Sim.stuck
 all_goals (cases hv<;>exact Sim.stuck)
def Sim.sliceAt(t:ώ){v v':z}{l l' h h' m m':Option z}(hv:aj Z v v')(hl:fK (aj Z) l l')(hh:fK (aj Z) h h')(hm:fK (aj Z) m m'):
 Sim (tw P F) P C Z aj (Acu t v l h m) (Acu t v' l' h' m'):=by
 unfold Acu;refine Sim.fR λcF h1 d hd=>?_;have hv:=hv.mono h1;have hl:=hl.mono λ_ _ x=>aj.mono h1 x
 have hh:=hh.mono λ_ _ x=>aj.mono h1 x;have hm:=hm.mono λ_ _ x=>aj.mono h1 x;cases d;case array n e=>
  simp only;refine Sim.bind' (Sim.sureAddr hv) λbQ h2 a b hab=>?_;refine Sim.cO (Sim.sliceBounds _ _ _ (hl.mono λ_ _ x=>aj.mono h2 x) (hh.mono λ_ _ x=>aj.mono h2 x) (hm.mono λ_ _ x=>aj.mono h2 x)) λmq h4 x=>?_;obtain⟨x1,x2,x3⟩:=x;simp only;refine Sim.cO (Sim.sizeOf _) λv8 h5 n=>?_;refine Sim.pure' λRl h6=>?_;have hab:=hab.mono (Ren.le_trans h4 (Ren.le_trans h5 h6));split
  ·exact .slice _ _ hab
  ·exact .slice _ _ (hab.add _)
 all_goals exact Sim.slice t hv hl hh hm
def bH.program{P':ϗ}{f:ϗ->Sem γ}(h:bH P' (f P')):bH P' (Go.program>>=f):=by intro w a aa T;exact h w a aa T
def bH.typeInfo{t:ώ}{f:TypeInfo->Sem γ}(h:∀i,P.info? t=J i->bH (tw P F) (f i)):bH (tw P F) (Go.typeInfo t>>=f):=by
 unfold Go.typeInfo;rw[bind_assoc];refine bH.program ?_;rw[wx];cases e: P.info? t with
 |none=>exact bH.halt
 |some i=>exact h i e
def Za(P:ϗ)(F:Array Ç):∀(n:Nat) (t u:ώ),(tw P F).alikeButTags n t u=P.alikeButTags n t u
 |0,_,_=>rfl
 |n+1,t,u=>by have e:(tw P F).alikeButTags n=P.alikeButTags n:=funext λt=>funext λu=>Za P F n t u;unfold Program.alikeButTags;rw[e,wx,wx]
def aqh(P:ϗ)(F:Array Ç)(t:ώ):(tw P F).underlyingId t=P.underlyingId t:=by unfold Program.underlyingId;rw[wx]
def C9(P:ϗ)(F:Array Ç):(tw P F).depth=P.depth:=rfl
def aqg(P:ϗ)(F:Array Ç)(t:ώ):(tw P F).stoodInAs t=P.stoodInAs t:=by unfold Program.stoodInAs;simp only[kJ,Za,aqh,C9];rfl
def Zf(P:ϗ)(F:Array Ç)(t:ώ):(tw P F).stoodInHeld t=P.stoodInHeld t:=by unfold Program.stoodInHeld;rw[aqg,wx]
def Kh(P:ϗ)(F:Array Ç):∀(d:Nat) (t:ώ),(tw P F).eqGuardType d t=P.eqGuardType d t
 |0,_=>rfl
 |d+1,t=>by have e:(tw P F).eqGuardType d=P.eqGuardType d:=funext λt=>Kh P F d t;unfold Program.eqGuardType;rw[kJ,e]
def ix(P:ϗ):Nat->ώ->Bool
 |0,_=>U
 |d+1,t=>
  match P.info? t with
  |none=>U
  |some i=>
   (match i.desc with| .named "sync.copyChecker" _=>U|_=>D) &&
   match P.underlying t with
   |some .bool|some (.int _) |some .string|some (.slice _) |some (.map _ _) |some (.func _ _ _)=>D
   |some (.struct fs)=>fs.all λf=>ix P d f.type
   |some (.array _ e)=>ix P d e
   |_=>U
def Sim.equalIn:∀(d n:Nat) (t:ώ) {x x' y y':z} {Z:Ren},ix P n t=D->aj Z x x'->aj Z y y'->
 Sim (tw P F) P C Z (λ_ a b=>a=b) (Ň d t x y) (Ň d t x' y'):=by
 intro d;induction d with
 |zero=>intro n t x x' y y' Z _ _ _;exact Sim.halt
 |succ d ih=>
  intro n t x x' y y' Z h hx hy;cases n with
  |zero=>cases h
  |succ n=>
  unfold Ň;refine Sim.fR λcF h1 ds hd=>?_;have hx:=hx.mono h1;have hy:=hy.mono h1;unfold ix at h;cases hi: P.info? t with
  |none=>rw[hi] at h;cases h
  |some info=>
  rw[hi,hd] at h;simp only[Ä] at h;obtain⟨dg,h⟩:=h;cases ds;case bool=>
   cases hx<;>first|exact Sim.stuck| (cases hy<;>first|exact Sim.pure' λ_ _=>rfl|exact Sim.stuck)
  case string=>
   cases hx<;>first|exact Sim.stuck| (cases hy<;>first|exact Sim.pure' λ_ _=>rfl|exact Sim.stuck)
  case int k=>
   cases hx;case int k a=>
    cases hy;case int k' b=>
     have key:Sim (tw P F) P C cF (λ_ a b=>a=b) (if k=k' then Ϩ (a==b) else Go.stuck "==: kinds differ") (if k=k' then Ϩ (a==b) else Go.stuck "==: kinds differ"):=by
      split
      ·exact Sim.pure' λ_ _=>rfl
      ·exact Sim.stuck
     cases a with
     |ofNat a=>cases a<;>(cases b with|ofNat b=>cases b<;>exact key|negSucc b=>exact key)
     |negSucc a=>cases b with|ofNat b=>cases b<;>exact key|negSucc b=>exact key
    case ptr hab=>
     cases a with
     |ofNat a=>cases a<;>first|exact Sim.pure' λ_ _=>rfl|exact Sim.unsupported
     |negSucc a=>exact Sim.unsupported
    all_goals first|exact Sim.unsupported|exact Sim.stuck
   case ptr hab=>
    cases hy;case ptr hab'=>
     refine Sim.never ?_;refine bH.lH λ_=>bH.lH λ_=>bH.program ?_;split
     ·rename_i hc;simp[tw] at hc
     ·refine bH.typeInfo λi bG=>?_;rw[hi] at bG;obtain rfl:=ϟ bG;split
      ·rename_i dD;rw[dD] at dg;cases dg
      ·exact bH.halt
    case int k' b=>
     cases b with
     |ofNat b=>cases b<;>first|exact Sim.pure' λ_ _=>rfl|exact Sim.unsupported
     |negSucc b=>exact Sim.unsupported
    all_goals first|exact Sim.unsupported|exact Sim.stuck
   case ptrNone=>cases hy<;>exact Sim.unsupported
   all_goals (cases hy<;>first|exact Sim.unsupported|exact Sim.stuck)
  case slice e=>
   cases hx<;>first|exact Sim.stuck| (cases hy<;>first|exact Sim.pure' λ_ _=>rfl|exact Sim.stuck)
  case map k e=>
   cases hx<;>first|exact Sim.stuck| (cases hy<;>first|exact Sim.pure' λ_ _=>rfl|exact Sim.stuck)
  case func a b c=>
   cases hx<;>first|exact Sim.stuck| (cases hy<;>first|exact Sim.pure' λ_ _=>rfl|exact Sim.stuck)
  case struct fs=>
   cases hx;case agg hxs hxs'=>
    cases hy;case agg hys hys'=>
     simp only;refine Sim.bind' Sim.program λbQ h2 p p' hp=>?_;obtain⟨rfl,rfl⟩:=hp;rw[Zf];split
     ·exact Sim.unsupported
     ·refine Sim.cO (Sim.zm fs (λf hf s=>?_) _) λeA h3 r=>?_
      ·have Oa:ix p' n f.type=D:=by
        simp only[ħ] at h;exact h f hf
       split
       ·refine Sim.bind' (Sim.part f.type (aV.mono h2 ⟨hxs,hxs'⟩) _) λeA h3 a a' ha=>?_;refine Sim.bind' (Sim.part f.type (aV.mono (Ren.le_trans h2 h3) ⟨hys,hys'⟩) _) λmq h4 b b' hb=>?_;refine Sim.cO (ih n f.type Oa (ha.mono h4) hb) λv8 h5 r=>?_;cases r<;>exact Sim.pure' λ_ _=>rfl
       ·exact Sim.pure' λ_ _=>rfl
      ·obtain⟨r,_⟩:=r;cases r<;>exact Sim.pure' λ_ _=>rfl
    all_goals exact Sim.stuck
   all_goals (cases hy<;>exact Sim.stuck)
  case array len e=>
   cases hx;case agg hxs hxs'=>
    cases hy;case agg hys hys'=>
     simp only;refine Sim.cO (Sim.sizeOf e) λbQ h2 m=>?_;simp only[Aei];refine Sim.cO (Sim.sO _ (λi hi s=>?_) _) λeA h3 r=>?_
     ·refine Sim.bind' (Sim.part e (aV.mono h2 ⟨hxs,hxs'⟩) _) λeA h3 a a' ha=>?_;refine Sim.bind' (Sim.part e (aV.mono (Ren.le_trans h2 h3) ⟨hys,hys'⟩) _) λmq h4 b b' hb=>?_;refine Sim.cO (ih n e h (ha.mono h4) hb) λv8 h5 r=>?_;cases r<;>exact Sim.pure' λ_ _=>rfl
     ·obtain⟨r,_⟩:=r;cases r<;>exact Sim.pure' λ_ _=>rfl
    all_goals exact Sim.stuck
   all_goals (cases hy<;>exact Sim.stuck)
  all_goals cases h
def Gl(P:ϗ)(F:Array Ç)(t:ώ):(tw P F).cellsOf t=P.cellsOf t:=by unfold Program.cellsOf;rw[wx]
def Kg(P:ϗ)(F:Array Ç)(t:ώ):(tw P F).bytesOf t=P.bytesOf t:=by unfold Program.bytesOf;rw[wx]
def QV(P:ϗ)(F:Array Ç):∀(d:Nat) (t:ώ) (o:Nat),Ű (tw P F) d t o=Ű P d t o
 |0,_,_=>rfl
 |d+1,t,o=>by have e:Ű (tw P F) d=Ű P d:=funext λt=>funext λo=>QV P F d t o;unfold Ű;simp only[kJ,e,Gl,Kg]
def Zb(P:ϗ)(F:Array Ç):∀(d:Nat) (t:ώ) (o:Nat),Abn (tw P F) d t o=Abn P d t o
 |0,_,_=>rfl
 |d+1,t,o=>by have e:Abn (tw P F) d=Abn P d:=funext λt=>funext λo=>Zb P F d t o;unfold Abn;simp only[kJ,e,Gl,Kg]
def aqc(P:ϗ)(F:Array Ç)(d:Nat)(e:ώ)(c o:Nat)(b:Int):cellAtBytes (tw P F) d e c o b=cellAtBytes P d e c o b:=by unfold cellAtBytes;simp only[Gl,Kg,QV,Zb]
def Sim.Gc{a b:Nat}{f:Option (ώ×Nat)->Sem γ}{g:Option (ώ×Nat)->Sem δ}(h:Z a b)(hf:∀ax,Z.le ax->∀x,Sim P' P C ax S (f x) (g x)):
 Sim P' P C Z S (Go.shape a>>=f) (Go.shape b>>=g):=Sim.cO (Sim.shape h) hf
def Sim.viewAt{P':ϗ}{a b:Nat}(h:Z a b):Sim P' P C Z (λ_ x y=>x=H/\y=H) (Go.viewAt a) (Go.viewAt b):=by
 unfold Go.viewAt;refine Sim.Gc h λax h' x=>?_;cases x with
 |some x=>exact Sim.pure' λ_ _=>⟨rfl,rfl⟩
 |none=>refine Sim.bind' (Sim.getObj (h' _ _ h)) λfw ed o o' r=>?_;cases r<;>exact Sim.pure' λ_ _=>⟨rfl,rfl⟩
def Sim.numberAt{P':ϗ}{a b:Nat}(h:Z a b):Sim P' P C Z (λZ x y=>fK (λp q=>eh Z p.1 q.1/\p.2=q.2) x y) (Go.numberAt a) (Go.numberAt b):=by
 unfold Go.numberAt;refine Sim.Gc h λax h' x=>?_;cases x with
 |some x=>exact Sim.pure' λ_ _=>.none
 |none=>
  refine Sim.bind' (Sim.getObj (h' _ _ h)) λfw ed o o' r=>?_;cases r;case number l hab=>exact Sim.pure' λ_ h3=>.some ⟨hab.mono h3,rfl⟩
  all_goals exact Sim.pure' λ_ _=>.none
def Sim.behindNumber{P':ϗ}{a b:ϖ}(h:eh Z a b):Sim P' P C Z (λZ x y=>eh Z x.1 y.1/\x.2=y.2) (Go.behindNumber a) (Go.behindNumber b):=by
 unfold Go.behindNumber;refine Sim.bind' (Sim.numberAt h.1) λax h' x y r=>?_;cases r with
 |none=>exact Sim.pure' λ_ h3=>⟨(h.mono h').mono h3,rfl⟩
 |some r=>exact Sim.pure' λ_ h3=>⟨r.1.mono h3,r.2⟩
def Sim.asNumber{P':ϗ}{a b:ϖ}(h:eh Z a b)(l:Bool):Sim P' P C Z aj (Go.asNumber a l) (Go.asNumber b l):=by unfold Go.asNumber;exact Sim.bind' (Sim.newObj (.number l h)) λax _ a b hab=>Sim.pure' λ_ h3=>.ptr ⟨h3 _ _ hab,rfl,rfl⟩
def Sim.noView{P':ϗ}{a b:ϖ}(h:eh Z a b):Sim P' P C Z (λ_ _ _=>True) (Go.noView a) (Go.noView b):=by unfold Go.noView;refine Sim.bind' (Sim.viewAt h.1) λax h' x y r=>?_;obtain⟨rfl,rfl⟩:=r;exact Sim.pure' λ_ _=>trivial
def Sim.byteOf{a b:ϖ}(h:eh Z a b):Sim (tw P F) P C Z (λ_ x y=>x=y) (Go.byteOf a) (Go.byteOf b):=by
 unfold Go.byteOf;rw[<-h.2.2,<-h.2.1];cases a.spot with
 |some s=>exact Sim.pure' λ_ _=>rfl
 |none=>
  refine Sim.bind' Sim.program λcF h1 p p' hp=>?_;obtain⟨rfl,rfl⟩:=hp;refine Sim.bind' (Sim.noView (h.mono h1)) λbQ h2 _ _ _=>?_;refine Sim.Gc (h.mono (Ren.le_trans h1 h2)).1 λeA h3 x=>?_;cases x with
  |none=>exact Sim.stuck
  |some x=>
   simp only[Gl,Kg,QV,C9];split
   ·exact Sim.pure' λ_ _=>rfl
   ·cases Ű p' p'.depth x.1 (a.off % p'.cellsOf x.1) with
    |none=>exact Sim.stuck|some _=>exact Sim.pure' λ_ _=>rfl
def Sim.unsafeAdd(t:ώ)(hx:aj Z x x')(hy:aj Z y y'):Sim (tw P F) P C Z (λZ u u'=>∃a b,u=π (J a)/\u'=π (J b)/\eh Z a b) (ń #[] t #[x,y]) (ń #[] t #[x',y']):=by
 unfold ń;cases hx;case ptrNone=>
  refine Sim.cO (Sim.asInt hy) λcF h1 n=>?_;simp only;split
  ·exact Sim.unsupported
  ·split
   ·exact Sim.Dc
   ·exact Sim.unsupported
 case ptr hab=>
  refine Sim.cO (Sim.asInt hy) λcF h1 n=>?_;have hab:=hab.mono h1;simp only;split
  ·refine Sim.bind' (Sim.viewAt hab.1) λbQ h2 x y r=>?_;obtain⟨rfl,rfl⟩:=r;exact Sim.pure' λ_ h3=>⟨_,_,rfl,rfl,hab.mono (Ren.le_trans h2 h3)⟩
  ·split
   ·exact Sim.Dc
   ·refine Sim.Gc hab.1 λeA h3 x=>?_;cases x with
    |none=>exact Sim.unsupported
    |some x=>
     refine Sim.bind' Sim.program λmq h4 p p' hp=>?_;obtain⟨rfl,rfl⟩:=hp;simp only[aqc,C9,Gl,hab.2.1];split
     ·exact Sim.pure' λ_ h5=>⟨_,_,rfl,rfl,(hab.mono (Ren.le_trans h3 (Ren.le_trans h4 h5))).1,rfl,hab.2.2⟩
     ·exact Sim.unsupported
 all_goals exact Sim.stuck
def FP(t:ώ)(x y:z):Sem z:=do
 let π (J n):=x|ń #[] t #[x,y]
 let (a,lost) <-Go.behindNumber n
 match <-ń #[] t #[π (J a),y] with
 | .pointer (J b)=>Go.asNumber b lost
 |v=>pure v
def Sim.FP(t:ώ){x x' y y':z}(hx:aj Z x x')(hy:aj Z y y'):Sim (tw P F) P C Z aj (FP t x y) (FP t x' y'):=by
 unfold Go.Sim.FP;have gen:Sim (tw P F) P C Z aj (ń #[] t #[x,y]) (ń #[] t #[x',y']):=(Sim.unsafeAdd t hx hy).TI λ_ _ _ _ ⟨a,b,e1,e2,h⟩=>by subst e1 e2;exact .ptr h
 cases hx;case ptr hab=>
  refine Sim.bind' (Sim.behindNumber hab) λbQ h2 a b r=>?_;obtain⟨a,l⟩:=a;obtain⟨b,l'⟩:=b;obtain⟨r,e⟩:=r;simp only at r e |-;subst e;refine Sim.bind' (Sim.unsafeAdd t (.ptr r) (hy.mono h2)) λeA h3 u u' hu=>?_;obtain⟨a,b,rfl,rfl,hab⟩:=hu;exact Sim.asNumber hab _
 case junk=>exact Sim.stuck
 all_goals exact gen
def Sim.movedNumber(t:ώ){x x' y y':z}(hx:aj Z x x')(hy:aj Z y y'):Sim (tw P F) P C Z aj (Go.movedNumber t x y) (Go.movedNumber t x' y'):=by
 unfold Go.movedNumber;refine Sim.fR λcF h1 d _=>?_;have hx:=hx.mono h1;have hy:=hy.mono h1;cases d<;>first|exact Sim.Dc|exact Sim.FP t hx hy
def Sim.Ax(op:ß)(t:ώ)(k:í)(a:Int)(k':í)(b:Int):Sim (tw P F) P C Z aj (Go.binOp op t (.int k a) (.int k' b)) (Go.binOp op t (.int k a) (.int k' b)):=by
 have shift:∀op,Sim (tw P F) P C Z aj (Op.shift op k a k' b) (Op.shift op k a k' b):=by
  intro op;unfold Op.shift;split
  ·exact Sim.never (oV _)
  ·cases op<;>first|exact Sim.stuck|exact Sim.pure' λ_ _=>.int _ _
 have div:∀op,Sim (tw P F) P C Z aj (Op.intDiv op k a b) (Op.intDiv op k a b):=by
  intro op;unfold Op.intDiv;split
  ·exact Sim.never (oV _)
  ·cases op<;>first|exact Sim.stuck|exact Sim.pure' λ_ _=>.int _ _
 cases op;case shl=>exact shift .shl
 case shr=>exact shift .shr
 all_goals
  simp only[Go.binOp];split
  ·exact Sim.stuck
  ·first|exact div _|exact Sim.pure' λ_ _=>.int _ _|exact Sim.pure' λ_ _=>.bool _
def Sim.AV(op:ß)(t:ώ)(a b:ByteArray):Sim (tw P F) P C Z aj (Go.binOp op t (.string a) (.string b)) (Go.binOp op t (.string a) (.string b)):=by
 cases op;case add=>
  simp only[Go.binOp,Op.stringOp];split
  ·exact Sim.unsupported
  ·exact Sim.pure' λ_ _=>.string _
 all_goals first|exact Sim.pure' λ_ _=>.bool _|exact Sim.stuck
def Sim.Te{x y:Sem Bool}(h:Sim (tw P F) P C Z (λ_ a b=>a=b) x y)(f:Bool->Bool):Sim (tw P F) P C Z aj (x>>=λb=>Ϩ (Value.bool (f b))) (y>>=λb=>Ϩ (Value.bool (f b))):=
 Sim.cO h λ_ _ _=>Sim.pure' λ_ _=>.bool _
def Pj(t:ώ)(y:z):bH (tw P F) (ŵ t (μ #[]) y):=by
 show bH _ (Ň (9999+1) t (μ #[]) y);unfold Ň;refine bH.lH λd=>?_;cases d<;>first|exact bH.halt| (cases y<;>exact bH.halt)
def Pk(t:ώ)(x:z):bH (tw P F) (ŵ t x (μ #[])):=by show bH _ (Ň (9999+1) t x (μ #[]));unfold Ň;refine bH.lH λd=>?_;cases d<;>(cases x<;>first|exact bH.halt| (rename_i a _ _;cases a<;>exact bH.halt) | (rename_i a;cases a<;>exact bH.halt))
def Sim.SZ(neq:Bool)(t:ώ)(ht:ix P n t=D)(hx:aj Z x x')(hy:aj Z y y'):
 Sim (tw P F) P C Z aj (Go.binOp (if neq then .neq else .eql) t x y) (Go.binOp (if neq then .neq else .eql) t x' y'):=by
 have e:Sim (tw P F) P C Z (λ_ a b=>a=b) (ŵ t x y) (ŵ t x' y'):=Sim.equalIn _ n t ht hx hy;have e1:=Sim.Te e id;have e2:=Sim.Te e not;cases neq;all_goals
  simp only[è,if_false,if_true];cases hx<;>cases hy<;>first|exact e1|exact e2|exact Sim.Ax .eql t _ _ _ _|exact Sim.AV .eql t _ _|exact Sim.Ax .neq t _ _ _ _|exact Sim.AV .neq t _ _|exact Sim.never (bH.bind (Pj _ _)) |exact Sim.never (bH.bind (Pk _ _))
def Sim.movedPointer(t:ώ){x x' y y':z}(hx:aj Z x x')(hy:aj Z y y'):Sim (tw P F) P C Z aj (Go.movedPointer t x y) (Go.movedPointer t x' y'):=by
 unfold Go.movedPointer;have gen:∀ax,Z.le ax->Sim (tw P F) P C ax aj (ń #[] t #[x,y]) (ń #[] t #[x',y']):=λax h'=>(Sim.unsafeAdd t (hx.mono h') (hy.mono h')).TI λ_ _ _ _ ⟨a,b,e1,e2,h⟩=>by subst e1 e2;exact .ptr h
 cases hx;case ptr hab=>
  refine Sim.bind' (Sim.numberAt hab.1) λbQ h2 a b r=>?_;cases r with
  |none=>exact gen bQ h2|some r=>exact Sim.Dc
 case junk=>exact Sim.stuck
 all_goals exact gen Z Z.le_refl
def Xz(a b:ϖ):bH (tw P F) (Op.twoPlaces a b):=by
 unfold Op.twoPlaces;refine bH.program ?_;simp only;have:(a.block !=b.block||decide (a.block>=(tw P F).globals.size))=D:=by simp[tw]
 rw[if_pos this];exact bH.bind bH.halt
def Sim.addrMod(k:í){a b:ϖ}(h:eh Z a b)(n:Int):Sim (tw P F) P C Z aj (Adq k a n) (Adq k b n):=by
 unfold Adq;refine Sim.Gc h.1 λcF h1 x=>?_;cases x with
 |none=>exact Sim.unsupported
 |some x=>
  refine Sim.Db λbQ h2 i _=>?_;simp only;split
  ·exact Sim.Dc
  ·exact Sim.cO (Sim.byteOf (h.mono (Ren.le_trans h1 h2))) λ_ _ _=>Sim.pure' λ_ _=>.int _ _
def amg(op:ß)(a b:ϖ):bH (tw P F) (Go.behindNumber a>>=λx=>Go.behindNumber b>>=λy=>Op.addrCmp op x.1 y.1):=by refine bH.lH λx=>bH.lH λy=>?_;unfold Op.addrCmp;exact bH.bind (Xz _ _)
def amh(a b:ϖ):bH (tw P F) (Go.behindNumber a>>=λx=>Go.behindNumber b>>=λy=>Op.addrSub .u64 x.1 y.1):=by refine bH.lH λx=>bH.lH λy=>?_;unfold Op.addrSub;exact bH.bind (Xz _ _)
def Sim.X0(k:í){b:ϖ}(h:eh Z a b)(n:Int):Sim (tw P F) P C Z aj (Go.behindNumber a>>=λx=>Adq k x.1 n) (Go.behindNumber b>>=λx=>Adq k x.1 n):=
 Sim.bind' (Sim.behindNumber h) λ_ _ _ _ r=>Sim.addrMod k r.1 n
def Sim.am9(t:ώ)(hx:aj Z x x')(hy:aj Z y y'):
 Sim (tw P F) P C Z aj (Go.underlying t>>=λd=>if(match d with| .unsafePointer=>D|_=>U)=D then Go.movedPointer t x y else Go.movedNumber t x y)
  (Go.underlying t>>=λd=>if(match d with| .unsafePointer=>D|_=>U)=D then Go.movedPointer t x' y' else Go.movedNumber t x' y'):=by
 refine Sim.fR λcF h1 d _=>?_;split
 ·exact Sim.movedPointer t (hx.mono h1) (hy.mono h1)
 ·exact Sim.movedNumber t (hx.mono h1) (hy.mono h1)
def Sim.acE(t:ώ)(hx:aj Z x x')(hy:aj Z y y'):Sim (tw P F) P C Z aj (Go.binOp .add t x y) (Go.binOp .add t x' y'):=by
 have p1:=Sim.am9 (P:=P) (F:=F) (C:=C) t hx hy;have p2:=Sim.movedNumber (P:=P) (F:=F) (C:=C) t hy hx;cases hx<;>cases hy<;>first|exact Sim.stuck|exact Sim.unsupported|exact Sim.Ax .add t _ _ _ _|exact Sim.AV .add t _ _|exact p1|exact p2
def Sim.acI(t:ώ)(hx:aj Z x x')(hy:aj Z y y'):Sim (tw P F) P C Z aj (Go.binOp .sub t x y) (Go.binOp .sub t x' y'):=by
 have p:∀k n,Sim (tw P F) P C Z aj (Go.movedNumber t x (.int k (-n))) (Go.movedNumber t x' (.int k (-n))):=λk n=>Sim.movedNumber t hx (.int _ _);cases hx<;>cases hy<;>first|exact Sim.stuck|exact Sim.unsupported|exact Sim.Ax .sub t _ _ _ _|exact Sim.AV .sub t _ _|exact p _ _|exact Sim.never (amh _ _)
def Sim.acF(t:ώ)(hx:aj Z x x')(hy:aj Z y y'):Sim (tw P F) P C Z aj (Go.binOp .and t x y) (Go.binOp .and t x' y'):=by
 cases hx<;>cases hy<;>first|exact Sim.stuck|exact Sim.unsupported|exact Sim.Ax .and t _ _ _ _|exact Sim.AV .and t _ _|exact Sim.X0 _ (by assumption) _
def Sim.acH(t:ώ)(hx:aj Z x x')(hy:aj Z y y'):Sim (tw P F) P C Z aj (Go.binOp .rem t x y) (Go.binOp .rem t x' y'):=by
 cases hx<;>cases hy<;>first|exact Sim.stuck|exact Sim.unsupported|exact Sim.Ax .rem t _ _ _ _|exact Sim.AV .rem t _ _|exact Sim.X0 _ (by assumption) _
inductive qh:ß->Prop
 |mul:qh .mul
 |quo:qh .quo
 |or:qh .or
 |xor:qh .xor
 |shl:qh .shl
 |shr:qh .shr
 |andNot:qh .andNot
 |lss:qh .lss
 |leq:qh .leq
 |gtr:qh .gtr
 |geq:qh .geq
def Sim.acG(op:ß)(ho:qh op)(t:ώ)(hx:aj Z x x')(hy:aj Z y y'):Sim (tw P F) P C Z aj (Go.binOp op t x y) (Go.binOp op t x' y'):=by
 cases ho<;>(cases hx<;>cases hy<;>first|exact Sim.stuck|exact Sim.unsupported|exact Sim.Ax _ t _ _ _ _|exact Sim.AV _ t _ _|exact Sim.never (amg _ _ _))
def Sim.binOp(op:ß)(t:ώ){n:Nat}(ht:op=.eql\/op=.neq->ix P n t=D){x x' y y':z}(hx:aj Z x x')(hy:aj Z y y'):
 Sim (tw P F) P C Z aj (Go.binOp op t x y) (Go.binOp op t x' y'):=by
 cases op;case eql=>exact Sim.SZ U t (ht (.inl rfl)) hx hy
 case neq=>exact Sim.SZ D t (ht (.inr rfl)) hx hy
 case add=>exact Sim.acE t hx hy
 case sub=>exact Sim.acI t hx hy
 case and=>exact Sim.acF t hx hy
 case rem=>exact Sim.acH t hx hy
 all_goals exact Sim.acG _ (by constructor) t hx hy
def ami(op:ß)(t:ώ)(b:z):bH (tw P F) (Go.binOp op t (μ #[]) b):=by
 cases op;case eql=>cases b<;>exact bH.bind (Pj t _)
 case neq=>cases b<;>exact bH.bind (Pj t _)
 all_goals (cases b<;>exact bH.halt)
def amj(op:ß)(t:ώ)(a:z):bH (tw P F) (Go.binOp op t a (μ #[])):=by
 cases op;case eql=>cases a<;>exact bH.bind (Pk t _)
 case neq=>cases a<;>exact bH.bind (Pk t _)
 all_goals (cases a<;>first|exact bH.halt| (rename_i a;cases a<;>exact bH.halt))
def Sim.amL(op:ß)(t:ώ)(ht:op=.eql\/op=.neq->ix P n t=D/\P.eqGuardType P.depth t=U)(x y:î){a b:z}(ha:aj Z a a')(hb:aj Z b b'):
 Sim (tw P F) P C Z aj (do Go.eqGuard op t x y a b;Go.binOp op t a b) (do Go.eqGuard op t x y a' b';Go.binOp op t a' b'):=by
 by_cases ja:a=μ #[]
 ·subst ja;exact Sim.never (bH.lH λ_=>ami op t b)
 by_cases jb:b=μ #[]
 ·subst jb;exact Sim.never (bH.lH λ_=>amj op t a)
 refine Sim.bind' (R:=λ_ _ _=>True) ?_ λcF h1 _ _ _=>Sim.binOp op t (λh=>(ht h).1) (ha.mono h1) (hb.mono h1);have pt:∀ {Z:Ren},Sim (tw P F) P C Z (λ_ _ _=>True) (Ϩ ():Sem Unit) (Ϩ ()):=Sim.pure' λ_ _=>trivial;by_cases he:op=.eql\/op=.neq
 ·obtain⟨_,hg⟩:=ht he;have ag8:∀u u' v v',Sim (tw P F) P C Z (λ_ _ _=>True)
   (do if !(<-Go.program).eqGuardType (<-Go.program).depth t then return
       if <-Ŷ ŷ t u v then Go.unsupported (.noEntry "binop/eql: two nil values of an interface type with methods, in a part of a struct or an array"))
   (do if !(<-Go.program).eqGuardType (<-Go.program).depth t then return
       if <-Ŷ ŷ t u' v' then Go.unsupported (.noEntry "binop/eql: two nil values of an interface type with methods, in a part of a struct or an array")):=by
   intro u u' v v';refine Sim.bind' Sim.program λcF h1 p p' hp=>?_;obtain⟨rfl,rfl⟩:=hp;refine Sim.bind' Sim.program λbQ h2 q q' hq=>?_;obtain⟨rfl,rfl⟩:=hq;rw[Kh,C9,hg];exact pt
  have OD:Sim (tw P F) P C Z (λ_ _ _=>True)
   (do if(match x with| .const _=>D|_=>U) || (match y with| .const _=>D|_=>U) then return
       if <-Ŷ ŷ t .nilIface .nilIface then Go.unsupported (.noEntry "binop/eql: two nil values of an interface type with methods, neither of them the literal nil"))
   (do if(match x with| .const _=>D|_=>U) || (match y with| .const _=>D|_=>U) then return
       if <-Ŷ ŷ t .nilIface .nilIface then Go.unsupported (.noEntry "binop/eql: two nil values of an interface type with methods, neither of them the literal nil")):=by
   have tail:Sim (tw P F) P C Z (λ_ _ _=>True)
    (do if <-Ŷ ŷ t .nilIface .nilIface then Go.unsupported (.noEntry "binop/eql: two nil values of an interface type with methods, neither of them the literal nil"))
    (do if <-Ŷ ŷ t .nilIface .nilIface then Go.unsupported (.noEntry "binop/eql: two nil values of an interface type with methods, neither of them the literal nil")):=by
    refine Sim.cO (Sim.fR λcF h1 d hd=>?_) λcF h1 r=>?_
    ·cases d<;>exact Sim.pure' λ_ _=>rfl
    ·cases r
     ·exact pt
     ·exact Sim.unsupported
   cases x<;>cases y<;>first|exact pt|exact tail
  rcases he with rfl|rfl;all_goals
   cases ha<;>cases hb<;>first|exact pt|exact ag8 _ _ _ _|exact OD|exact absurd rfl ja|exact absurd rfl jb
 ·unfold Go.eqGuard;cases op<;>first|exact pt| (exact absurd (.inl rfl) he) | (exact absurd (.inr rfl) he)
def Sim.not{v v':z}(h:aj Z v v'):Sim (tw P F) P C Z aj (Op.unary .not v) (Op.unary .not v'):=by
 cases h<;>first|exact Sim.stuck|exact Sim.pure' λ_ _=>.bool _
def Sim.extract{v v':z}(h:aj Z v v')(i:Nat):Sim (tw P F) P C Z aj (Acv v i) (Acv v' i):=by
 unfold Acv;cases h;case tuple hx h1=>
  rcases cf.get? (R:=aj Z) ⟨hx,h1⟩ i with⟨e1,_⟩ | ⟨a,b,e1,e2,r⟩
  ·simp only[e1];exact Sim.stuck
  ·simp only[e1,e2];exact Sim.pure' λ_ h=>r.mono h
 case junk h _ _=>simp only[Array.getElem?_empty];exact Sim.stuck
 all_goals exact Sim.stuck
def Sim.makeFunc(f:Æ){x x' y y':Array z}(hx:aV Z x x')(hy:aV Z y y'):Sim (tw P F) P C Z aj (Instr.makeFunc (.func f) x y) (Instr.makeFunc (.func f) x' y'):=
 Sim.pure' λ_ h=>.func (.func f) (hx.mono h).1 (hx.mono h).2 (hy.mono h).1 (hy.mono h).2
def Sim.ak9(t:ώ):Sim (tw P F) P C Z aj (Acw t H) (Acw t H):=by unfold Acw;exact Sim.bind' (Sim.newObj (.map 0 .empty)) λ_ _ _ _ h=>Sim.pure' λ_ h'=>.map (h' _ _ h)
def Sim.askRoom{P':ϗ}(n:Nat):Sim P' P C Z (λ_ _ _=>True) (Go.askRoom n) (Go.askRoom n):=by
 unfold Go.askRoom;split
 ·exact Sim.noRoom
 ·exact Sim.pure' λ_ _=>trivial
def aV.get! {x y:Array z}(h:aV Z x y)(i:Nat):aj Z x[i]! y[i]! :=by
 have V:=h.1;by_cases hi:i<x.size
 ·simpa [Aam,æ,hi,V▸hi] using h.2 i hi (V▸hi)
 ·have e1:x[i]! =default:=by simp[Aam,æ];rw[ę (by omega)];rfl
  have e2:y[i]! =default:=by simp[Aam,æ];rw[ę (by omega)];rfl
  rw[e1,e2];exact .bool _
def aV.Qi{x y:Array z}(h:aV Z x y)(n:Nat):aV Z ((Ŗ n).map (x[· % x.size]!)) ((Ŗ n).map (y[· % y.size]!)):=by refine⟨by simp,λi hi bG=>?_⟩;simp only[Aap,Aaq];rw[<-h.1];exact aV.get! h _
def Sim.makeSlice(hr:pA P)(t:ώ){l l' c c':z}(hl:aj Z l l')(hc:aj Z c c'):Sim (tw P F) P C Z aj (Acx t l c) (Acx t l' c'):=by
 unfold Acx;refine Sim.fR λcF h1 d hd=>?_;cases d;case slice e=>
  simp only;refine Sim.cO (Sim.asInt (hl.mono h1)) λbQ h2 ln=>?_;refine Sim.cO (Sim.asInt (hc.mono (Ren.le_trans h1 h2))) λeA h3 cp=>?_;refine Sim.Db λmq h4 i hi=>?_;have tail:Sim (tw P F) P C mq aj
   (do
     Go.askRoom ((Ϛ.wrap cp).toNat * i.bytes)
     let n:=(Ϛ.wrap cp).toNat * (<-Go.sizeOf e)
     let zero <-if n=0 then Ϩ #[] else do Ϩ (<-Go.zeroValue e).cells
     let a <-Go.newRow e ((Ŗ n).map (zero[· % zero.size]!))
     Ϩ (E (J a) (Ϛ.wrap ln).toNat (Ϛ.wrap cp).toNat))
   (do
     Go.askRoom ((Ϛ.wrap cp).toNat * i.bytes)
     let n:=(Ϛ.wrap cp).toNat * (<-Go.sizeOf e)
     let zero <-if n=0 then Ϩ #[] else do Ϩ (<-Go.zeroValue e).cells
     let a <-Go.newRow e ((Ŗ n).map (zero[· % zero.size]!))
     Ϩ (E (J a) (Ϛ.wrap ln).toNat (Ϛ.wrap cp).toNat)):=by
   refine Sim.bind' (Sim.askRoom _) λv8 h5 _ _ _=>?_;refine Sim.cO (Sim.sizeOf e) λRl h6 sz=>?_;simp only;split
   ·refine Sim.bind' (R:=aV) (Sim.pure' λ_ _=>cf.empty) λGA h7 x y hxy=>?_;exact Sim.bind' (Sim.newRow e (aV.Qi hxy _)) λTM h8 a b hab=>Sim.pure' λ_ h9=>.slice _ _ (hab.mono h9)
   ·refine Sim.bind' (Sim.zeroValue hr e) λGA h7 v v' hv=>?_;refine Sim.bind' (R:=aV) (Sim.pure' λ_ h=>aV.mono h hv.cells) λGA h7 x y hxy=>?_;exact Sim.bind' (Sim.newRow e (aV.Qi hxy _)) λTM h8 a b hab=>Sim.pure' λ_ h9=>.slice _ _ (hab.mono h9)
  split
  ·refine Sim.never ?_;split
   ·exact bH.bind (oV _)
   ·split
    ·exact bH.bind (oV _)
    ·exact bH.lH λ_=>bH.bind (oV _)
  ·exact tail
 all_goals exact Sim.stuck
abbrev Bp(Z:Ren):Nat×z->Nat×z->Prop:=λp q=>p.1=q.1/\aj Z p.2 q.2
def afX{x y:List (z×Nat)}(h:gR (λp q=>aj Z p.1 q.1/\p.2=q.2) x y)(off:Nat):∀ {c c':Array z},aV Z c c'->
 aV Z (x.foldl (λcs p=>cs.setIfInBounds (off+p.2) p.1) c) (y.foldl (λcs p=>cs.setIfInBounds (off+p.2) p.1) c'):=by
 induction h with
 |nil=>intro c c' hc;exact hc
 |cons hp _ ih=>intro c c' hc;simp only[List.foldl_cons];rw[<-hp.2];exact ih (hc.set _ hp.1)
def arb{x y:List z}(h:gR (aj Z) x y):∀n,gR (λp q=>aj Z p.1 q.1/\p.2=q.2) (x.zipIdx n) (y.zipIdx n):=by
 induction h with
 |nil=>intro n;exact .nil
 |cons hp _ ih=>intro n;simp only[List.zipIdx_cons];exact .cons ⟨hp,rfl⟩ (ih _)
def MW(place:Nat->Option (Nat×Nat)){p q:List (Nat×z)}(h:gR (Bp Z) p q):∀ {c c':Array z},aV Z c c'->fK (aV Z) (ĭ place c p) (ĭ place c' q):=by
 induction h with
 |nil=>intro c c' hc;exact .some hc
 | @cons a b x y hp _ ih=>
   intro c c' hc;obtain⟨i,v⟩:=a;obtain⟨i',v'⟩:=b;obtain⟨e,hv⟩:=hp;simp only at e hv;subst e;have fh:=hv.cells;unfold ĭ;cases place i with
   |none=>exact .none
   |some os=>
    obtain⟨off,size⟩:=os;simp only;rw[<-fh.1,<-hc.1];split
    ·exact .none
    ·refine ih ?_;have:=afX (arb fh.pQ 0) off hc;rw[<-Aar,<-Aar,Aas,Aas];exact this
def Sim.build(hr:pA P)(t:ώ){p q:Array (Nat×z)}(h:cf (Bp Z) p q):Sim (tw P F) P C Z aj (Acz t p) (Acz t q):=by
 unfold Acz;refine Sim.bind' (Sim.zeroValue hr t) λcF h1 υ z' hz=>?_;refine Sim.fR λbQ h2 d hd=>?_;have hz:=(hz.mono h2).cells;have h:cf (Bp bQ) p q:=h.mono λ_ _ x=>⟨x.1,x.2.mono (Ren.le_trans h1 h2)⟩
 cases d;case struct fs=>
  simp only;refine Sim.cO (Sim.yb fs λf _=>Sim.cO (Sim.sizeOf f.type) λ_ _ _=>Sim.pure' λ_ _=>rfl) λeA h3 places=>?_;have:=MW (λi=>places[i]?) h.pQ hz;generalize ĭ (λi=>places[i]?) υ.cells p.toList=r at this |-;generalize ĭ (λi=>places[i]?) z'.cells q.toList=r' at this |-;cases this with
  |none=>exact Sim.stuck|some T=>exact Sim.pure' λ_ h4=>aj.wH (T.mono (Ren.le_trans h3 h4))
 case array n e=>
  simp only;refine Sim.cO (Sim.sizeOf e) λeA h3 size=>?_;have:=MW (λi=>J (i * size,size)) h.pQ hz;generalize ĭ (λi=>J (i * size,size)) υ.cells p.toList=r at this |-;generalize ĭ (λi=>J (i * size,size)) z'.cells q.toList=r' at this |-;cases this with
  |none=>exact Sim.stuck|some T=>exact Sim.pure' λ_ h4=>aj.wH (T.mono (Ren.le_trans h3 h4))
 all_goals exact Sim.stuck
def Sim.buildSlice(hr:pA P)(t:ώ)(n:Nat){p q:Array (Nat×z)}(h:cf (Bp Z) p q):Sim (tw P F) P C Z aj (ĺ t n p) (ĺ t n q):=by
 unfold ĺ;refine Sim.fR λcF h1 d hd=>?_;cases d;case slice e=>
  simp only;refine Sim.cO (Sim.sizeOf e) λbQ h2 size=>?_;split
  ·exact Sim.Dc
  ·have tail:∀ {ax:Ren},bQ.le ax->∀ {υ z':Array z},aV ax υ z'->Sim (tw P F) P C ax aj
    (match ĭ (λi=>J (i * size,size)) ((Ŗ (n * size)).map (υ[· % υ.size]!)) p.toList with
      |some cells=>do Ϩ (E (J (<-Go.newRow e cells)) n n)
      |_=>Go.stuck "buildSlice: a part of the wrong size")
    (match ĭ (λi=>J (i * size,size)) ((Ŗ (n * size)).map (z'[· % z'.size]!)) q.toList with
      |some cells=>do Ϩ (E (J (<-Go.newRow e cells)) n n)
      |_=>Go.stuck "buildSlice: a part of the wrong size"):=by
    intro ax h' υ z' hz;have h:cf (Bp ax) p q:=h.mono λ_ _ x=>⟨x.1,x.2.mono (Ren.le_trans h1 (Ren.le_trans h2 h'))⟩
    have:=MW (λi=>J (i * size,size)) h.pQ (aV.Qi hz (n * size));generalize ĭ (λi=>J (i * size,size)) ((Ŗ (n * size)).map (υ[· % υ.size]!)) p.toList=r at this |-;generalize ĭ (λi=>J (i * size,size)) ((Ŗ (n * size)).map (z'[· % z'.size]!)) q.toList=r' at this |-;cases this with
    |none=>exact Sim.stuck|some T=>exact Sim.bind' (Sim.newRow e T) λ_ _ a b hab=>Sim.pure' λ_ h9=>.slice _ _ (hab.mono h9)
   split
   ·refine Sim.bind' (R:=aV) (Sim.pure' λ_ _=>cf.empty) λGA h7 x y hxy=>?_;exact tail h7 hxy
   ·refine Sim.bind' (Sim.zeroValue hr e) λGA h7 v v' hv=>?_;refine Sim.bind' (R:=aV) (Sim.pure' λ_ h=>aV.mono h hv.cells) λTM h8 x y hxy=>?_;exact tail (Ren.le_trans h7 h8) hxy
 all_goals exact Sim.stuck
def Sim.lenOf{v v':z}(h:aj Z v v'):Sim (tw P F) P C Z (λ_ a b=>a=b) (ű v) (ű v'):=by
 cases h<;>first|exact Sim.pure' λ_ _=>rfl|exact Sim.stuck
def Tg(b:ByteArray):aV Z (b.data.map λb=>.int .u8 b.toNat) (b.data.map λb=>.int .u8 b.toNat):=by refine cf.refl λa ha=>?_;obtain⟨b,_,rfl⟩:=Array.mem_map.1 ha;exact .int _ _
def Dn(v:z)(n:Nat):Prop:=∀a,v=E (J a) 0 0->n=0
def Sim.PB(h:aj Z v v'):Sim (tw P F) P C Z (λ_ a b=>a=b/\Dn v a) (ű v) (ű v'):=by
 cases h<;>first|exact Sim.pure' λ_ _=>⟨rfl,λa e=>by cases e;rfl⟩ |exact Sim.pure' λ_ _=>⟨rfl,λa e=>by cases e⟩ |exact Sim.stuck
def Sim.Uc(size:Nat)(h:aj Z v v'):Sim (tw P F) P C Z (λ_ a b=>a=#[]/\b=#[]) (ą size 0 v) (ą size 0 v'):=by
 cases h;case slice len cap hab=>simp only[ą,Aeb];exact Sim.pure' λ_ _=>⟨rfl,rfl⟩
 case sliceDead=>simp only[ą,Aeb];exact Sim.pure' λ_ _=>⟨rfl,rfl⟩
 case sliceNone=>exact Sim.pure' λ_ _=>⟨rfl,rfl⟩
 case string s=>exact Sim.pure' λ_ _=>⟨by simp,by simp⟩
 all_goals exact Sim.stuck
def Sim.firstCells(size n:Nat){v v':z}(h:aj Z v v')(hd:Dn v n):Sim (tw P F) P C Z aV (ą size n v) (ą size n v'):=by
 cases h;case slice len cap hab=>exact Sim.loadCells hab _
 case sliceNone=>exact Sim.pure' λ_ _=>.empty
 case sliceDead a b=>obtain rfl:=hd a rfl;simp only[ą,Aeb];exact Sim.pure' λ_ _=>.empty
 case string s=>exact Sim.pure' λ_ _=>Tg _
 all_goals exact Sim.stuck
def aV.zeroCells{x y:Array z}(h:aV Z x y)(n:Nat):aV Z (Ř x n) (Ř y n):=by unfold Ř;rw[<-h.1];refine⟨by simp,λi hi bG=>?_⟩;simp only[Aap,Aaq];exact aV.get! h _
def Sim.len(ts:Array ώ)(t:ώ)(h:aj Z v v'):Sim (tw P F) P C Z aj (Ab7 ts t #[v]) (Ab7 ts t #[v']):=by
 unfold Ab7;cases ts[0]? with
 |none=>exact Sim.stuck
 |some u=>
  refine Sim.fR λcF h1 d hd=>?_;have h:=h.mono h1;cases d;case array n e=>exact Sim.pure' λ_ _=>.int _ _
  case string=>cases h<;>first|exact Sim.stuck|exact Sim.pure' λ_ _=>.int _ _
  case slice e=>cases h<;>first|exact Sim.stuck|exact Sim.pure' λ_ _=>.int _ _
  case pointer e=>
   refine Sim.fR λbQ h2 d hd=>?_;cases d<;>first|exact Sim.stuck|exact Sim.pure' λ_ _=>.int _ _
  case map k e=>
   cases h;case mapNone=>exact Sim.pure' λ_ _=>.int _ _
   case map r=>
    refine Sim.bind' (Sim.getObj r) λbQ h2 o o' ro=>?_;cases ro;case map clock hm=>simp only[hm.1];exact Sim.pure' λ_ _=>.int _ _
    all_goals exact Sim.stuck
   all_goals exact Sim.stuck
  case chan dd e=>
   cases h;case chanNone=>exact Sim.pure' λ_ _=>.int _ _
   case chan r=>refine Sim.bind' (Sim.getObj r) λbQ h2 o o' ro=>?_;cases ro<;>exact Sim.stuck
   all_goals exact Sim.stuck
  all_goals (cases h<;>exact Sim.stuck)
def Sim.max2{a a' b b':z}(ha:aj Z a a')(hb:aj Z b b'):Sim (tw P F) P C Z aj (Builtin.max2 a b) (Builtin.max2 a' b'):=by
 cases ha<;>cases hb<;>first|exact Sim.stuck|exact Sim.unsupported|exact Sim.pure' λ_ _=>.int _ _|exact Sim.pure' λ_ _=>.string _
def Sim.min2{a a' b b':z}(ha:aj Z a a')(hb:aj Z b b'):Sim (tw P F) P C Z aj (Builtin.min2 a b) (Builtin.min2 a' b'):=by
 cases ha<;>cases hb<;>first|exact Sim.stuck|exact Sim.unsupported|exact Sim.pure' λ_ _=>.int _ _|exact Sim.pure' λ_ _=>.string _
def Sim.foldlM{f g:z->z->Sem z}(hf:∀ {ax:Ren} {a a' b b'},aj ax a a'->aj ax b b'->Sim (tw P F) P C ax aj (f a b) (g a' b')){x y:List z}(h:gR (aj Z) x y):
 ∀ {ax:Ren},Z.le ax->∀ {a b},aj ax a b->Sim (tw P F) P C ax aj (x.foldlM f a) (y.foldlM g b):=by
 induction h with
 |nil=>intro ax h' a b hab;exact Sim.pure' λ_ h=>hab.mono h
 |cons hp _ ih=>intro ax h' a b hab;simp only[List.foldlM_cons];exact Sim.bind' (hf hab (hp.mono h')) λfw ed _ _ r=>ih (Ren.le_trans h' ed) r
def Sim.max(ts:Array ώ)(t:ώ){x y:Array z}(h:aV Z x y):Sim (tw P F) P C Z aj (Ab8 ts t x) (Ab8 ts t y):=by
 unfold Ab8;have:=h.pQ;generalize x.toList=l at this |-
 generalize y.toList=l' at this |-;cases this with
 |nil=>exact Sim.stuck
 |cons hp ht=>exact Sim.foldlM Sim.max2 ht Z.le_refl hp
def Sim.min(ts:Array ώ)(t:ώ){x y:Array z}(h:aV Z x y):Sim (tw P F) P C Z aj (Ab9 ts t x) (Ab9 ts t y):=by
 unfold Ab9;have:=h.pQ;generalize x.toList=l at this |-
 generalize y.toList=l' at this |-;cases this with
 |nil=>exact Sim.stuck
 |cons hp ht=>exact Sim.foldlM Sim.min2 ht Z.le_refl hp
def Sim.copy(ts:Array ώ)(t:ώ){a b:z}(ha:aj Z a a')(hb:aj Z b b'):Sim (tw P F) P C Z aj (Aca ts t #[a,b]) (Aca ts t #[a',b']):=by
 unfold Aca;cases ts[0]? with
 |none=>exact Sim.stuck
 |some u=>
  refine Sim.fR λcF h1 d hd=>?_;cases d;case slice e=>
   have ha:=ha.mono h1;have hb:=hb.mono h1;cases ha;case sliceDead a1 a2=>refine Sim.cO (Sim.lenOf hb) λbQ h2 m=>?_;refine Sim.cO (Sim.sizeOf e) λeA h3 s=>?_;simp only[show Nat.min m 0=0 from Nat.min_zero m];refine Sim.bind' (Sim.Uc s (hb.mono (Ren.le_trans h2 h3))) λmq h4 x y hxy=>?_;obtain⟨rfl,rfl⟩:=hxy;exact Sim.pure' λ_ _=>.int _ _
   case slice n c hab=>refine Sim.bind' (Sim.PB hb) λbQ h2 m m' hm=>?_;obtain⟨rfl,dm⟩:=hm;refine Sim.cO (Sim.sizeOf e) λeA h3 s=>?_;refine Sim.bind' (Sim.firstCells s _ (hb.mono (Ren.le_trans h2 h3)) λa e=>by have:=dm a e;subst this;exact Nat.zero_min _) λmq h4 x y hxy=>?_;exact Sim.bind' (Sim.storeCells (hab.mono (Ren.le_trans h2 (Ren.le_trans h3 h4))) hxy.pQ 0) λ_ _ _ _ _=>Sim.pure' λ_ _=>.int _ _
   case sliceNone n c=>refine Sim.bind' (Sim.PB hb) λbQ h2 m m' hm=>?_;obtain⟨rfl,dm⟩:=hm;refine Sim.cO (Sim.sizeOf e) λeA h3 s=>?_;refine Sim.bind' (Sim.firstCells s _ (hb.mono (Ren.le_trans h2 h3)) λa e=>by have:=dm a e;subst this;exact Nat.zero_min _) λmq h4 x y hxy=>?_;exact Sim.pure' λ_ _=>.int _ _
   all_goals exact Sim.stuck
  all_goals exact Sim.stuck
def Sim.clear(hr:pA P)(ts:Array ώ)(t:ώ){a:z}(ha:aj Z a a'):Sim (tw P F) P C Z aj (Acb ts t #[a]) (Acb ts t #[a']):=by
 unfold Acb;have e:∀ {ax:Ren},aj ax (μ #[]) (μ #[]):=aj.tuple' .empty
 cases ts[0]? with
 |none=>exact Sim.stuck
 |some u=>
  refine Sim.fR λcF h1 d hd=>?_;have ha:=ha.mono h1;cases ha;case slice n c hab=>
   cases n with
   |zero=>cases d<;>exact Sim.pure' λ_ _=>e
   |succ n=>
    cases d;case slice el=>refine Sim.bind' (Sim.zeroValue hr el) λbQ h2 v v' hv=>?_;exact Sim.bind' (Sim.storeCells (hab.mono h2) (aV.zeroCells hv.cells _).pQ 0) λ_ _ _ _ _=>Sim.pure' λ_ _=>e
    all_goals exact Sim.stuck
  case sliceNone n c=>cases d<;>exact Sim.pure' λ_ _=>e
  case sliceDead a b=>cases d<;>exact Sim.pure' λ_ _=>e
  case mapNone=>cases d<;>exact Sim.pure' λ_ _=>e
  case map r=>
   cases d;all_goals
    refine Sim.bind' (Sim.getObj r) λbQ h2 o o' ro=>?_;cases ro;case map clock hm=>exact Sim.bind' (Sim.setObj (h2 _ _ r) (.map clock .empty)) λ_ _ _ _ _=>Sim.pure' λ_ _=>e
    all_goals exact Sim.stuck
  all_goals (cases d<;>exact Sim.stuck)
def y7(elem:ώ)(base:Option ϖ)(eO px:Nat)(s x:z)(size n:Nat):Sem z:=do
 let oU:=eO+n
 if oU<=px then
  let new <-ą size n x
  if let J a:=base then Go.storeCells (a.add (eO * size)) new.toList
  pure (.slice base oU px)
 else
  if(oU:Int)>Ϛ.max/\(U\/(<-Go.typeInfo elem).bytes=0) then runtimePanic (.error "growslice: len out of range")
  if Acd oU px * (<-Go.typeInfo elem).bytes>2 ^ 48 then(if U then runtimePanic (.error "growslice: len out of range") else do
   if !(<-Ace size eO n base x) then Go.mark .noRoom
   Go.unsupported (.resourceLimit "append: a slice or a string whose bytes no memory bears"))
  let kG <-Go.choose (.appendCap oU px elem)
  Go.askRoom (kG * (<-Go.typeInfo elem).bytes)
  let old <-ą size eO s
  let new <-ą size n x
  let rest:=Ř (<-Go.zeroValue elem).cells (kG - oU)
  pure (E (J (<-Go.newRow elem (old++new++rest))) oU kG)
def Sim.grow(hr:pA P)(elem:ώ)(oU px eO size n:Nat){s:z}(V:aj Z s s')(hx:aj Z x x')(ds:Dn s eO)(dx:Dn x n):Sim (tw P F) P C Z aj
 (do
   let kG <-Go.choose (.appendCap oU px elem)
   Go.askRoom (kG * (<-Go.typeInfo elem).bytes)
   let old <-ą size eO s
   let new <-ą size n x
   let rest:=Ř (<-Go.zeroValue elem).cells (kG - oU)
   Ϩ (E (J (<-Go.newRow elem (old++new++rest))) oU kG))
 (do
   let kG <-Go.choose (.appendCap oU px elem)
   Go.askRoom (kG * (<-Go.typeInfo elem).bytes)
   let old <-ą size eO s'
   let new <-ą size n x'
   let rest:=Ř (<-Go.zeroValue elem).cells (kG - oU)
   Ϩ (E (J (<-Go.newRow elem (old++new++rest))) oU kG)):=by
 refine Sim.cO (Sim.choose _) λcF h1 kG=>?_;refine Sim.Db λbQ h2 i hi=>?_;refine Sim.bind' (Sim.askRoom _) λeA h3 _ _ _=>?_;have l3:=Ren.le_trans h1 (Ren.le_trans h2 h3);refine Sim.bind' (Sim.firstCells _ _ (V.mono l3) ds) λmq h4 o o' ho=>?_;refine Sim.bind' (Sim.firstCells _ _ (hx.mono (Ren.le_trans l3 h4)) dx) λv8 h5 w w' hw=>?_;refine Sim.bind' (Sim.zeroValue hr elem) λRl h6 υ z' hz=>?_;refine Sim.bind' (Sim.newRow elem (((ho.mono (Ren.le_trans h5 h6)).append (hw.mono h6)).append (aV.zeroCells hz.cells _))) λGA h7 a b hab=>Sim.pure' λ_ h8=>.slice _ _ (hab.mono h8)
def Sim.y7(hr:pA P)(elem:ώ){b b':Option ϖ}(eO px:Nat)(hb:fK (eh Z) b b'\/(∃a a',b=J a/\b'=J a'/\eO=0/\px=0)){s s' x x':z}(V:aj Z s s')(hx:aj Z x x')(size n:Nat)(ds:Dn s eO)(dx:Dn x n):
 Sim (tw P F) P C Z aj (y7 elem b eO px s x size n) (y7 elem b' eO px s' x' size n):=by
 unfold Go.Sim.y7;simp only;split
 ·rename_i hle;rcases hb with hb| ⟨a,a',rfl,rfl,rfl,rfl⟩
  rotate_left
  ·obtain rfl:n=0:=by omega
   refine Sim.bind' (Sim.Uc _ hx) λcF h1 u u' hu=>?_;obtain⟨rfl,rfl⟩:=hu;exact Sim.pure' λ_ _=>.sliceDead _ _
  refine Sim.bind' (Sim.firstCells _ _ hx dx) λcF h1 u u' hu=>?_;cases hb with
  |none=>exact Sim.pure' λ_ _=>.sliceNone _ _
  |some hb=>exact Sim.bind' (Sim.storeCells ((hb.mono h1).add _) hu.pQ 0) λ_ h2 _ _ _=>Sim.pure' λ_ h3=>.slice _ _ (hb.mono (Ren.le_trans h1 (Ren.le_trans h2 h3)))
 ·refine Sim.Db λcF h1 i hi=>?_;have second:∀ {ax:Ren},Z.le ax->Sim (tw P F) P C ax aj
   (do
     if Acd (eO+n) px * (<-Go.typeInfo elem).bytes>2 ^ 48 then(if U then runtimePanic (.error "growslice: len out of range") else do
      if !(<-Ace size eO n b x) then Go.mark .noRoom
      Go.unsupported (.resourceLimit "append: a slice or a string whose bytes no memory bears"))
     let kG <-Go.choose (.appendCap (eO+n) px elem)
     Go.askRoom (kG * (<-Go.typeInfo elem).bytes)
     let old <-ą size eO s
     let new <-ą size n x
     let rest:=Ř (<-Go.zeroValue elem).cells (kG - (eO+n))
     Ϩ (E (J (<-Go.newRow elem (old++new++rest))) (eO+n) kG))
   (do
     if Acd (eO+n) px * (<-Go.typeInfo elem).bytes>2 ^ 48 then(if U then runtimePanic (.error "growslice: len out of range") else do
      if !(<-Ace size eO n b' x') then Go.mark .noRoom
      Go.unsupported (.resourceLimit "append: a slice or a string whose bytes no memory bears"))
     let kG <-Go.choose (.appendCap (eO+n) px elem)
     Go.askRoom (kG * (<-Go.typeInfo elem).bytes)
     let old <-ą size eO s'
     let new <-ą size n x'
     let rest:=Ř (<-Go.zeroValue elem).cells (kG - (eO+n))
     Ϩ (E (J (<-Go.newRow elem (old++new++rest))) (eO+n) kG)):=by
   intro ax h';refine Sim.Db λbQ h2 i hi=>?_;split
   ·refine Sim.never ?_;simp only[è,if_false];refine bH.bind (bH.lH λ_=>?_);split
    ·exact bH.lH λ_=>bH.halt
    ·exact bH.halt
   ·exact Sim.grow hr elem _ _ _ _ _ (V.mono (Ren.le_trans h' h2)) (hx.mono (Ren.le_trans h' h2)) ds dx
  split
  ·exact Sim.never (bH.bind (oV _))
  ·exact second h1
def Sim.append(hr:pA P)(ts:Array ώ)(t:ώ)(hz:∀u,ts[1]?=J u->∀k,P.underlying u≠J (.int k)){s:z}(V:aj Z s s')(hx:aj Z x x'):
 Sim (tw P F) P C Z aj (Acf ts t #[s,x]) (Acf ts t #[s',x']):=by
 unfold Acf;cases ts[0]? with
 |none=>exact Sim.stuck
 |some u=>
  refine Sim.fR λcF h1 d hd=>?_;have V:=V.mono h1;have hx:=hx.mono h1;cases d;case slice elem=>
   have tail:∀ {ax:Ren},cF.le ax->∀ {b b':Option ϖ} (eO px size:Nat) (_:fK (eh ax) b b'\/(∃a a',b=J a/\b'=J a'/\eO=0/\px=0)),aj ax (.slice b eO px) (.slice b' eO px)->Sim (tw P F) P C ax aj
    (ű x>>=λn=>Go.Sim.y7 elem b eO px (.slice b eO px) x size n)
    (ű x'>>=λn=>Go.Sim.y7 elem b' eO px (.slice b' eO px) x' size n):=by
    intro ax h' b b' eO px size hb V;refine Sim.bind' (Sim.PB (hx.mono h')) λeA h3 n n' hn=>?_;obtain⟨rfl,dx⟩:=hn;exact Sim.y7 hr elem eO px (hb.imp (λhb=>hb.mono λ_ _ h=>eh.mono h3 h) id) (V.mono h3) (hx.mono (Ren.le_trans h' h3)) size n (λa e=>by cases e;rfl) dx
   cases V;case slice n c hab=>
    refine Sim.cO (Sim.sizeOf elem) λbQ h2 size=>?_;cases e:ts[1]? with
    |none=>exact tail h2 n c size (.inl (.some (hab.mono h2))) (.slice n c (hab.mono h2))
    |some u2=>
     refine Sim.fR λeA h3 d2 gh=>?_;have l:=Ren.le_trans h2 h3;cases d2;case int k=>exact absurd gh (hz u2 e k)
     all_goals exact tail l n c size (.inl (.some (hab.mono l))) (.slice n c (hab.mono l))
   case sliceNone n c=>
    refine Sim.cO (Sim.sizeOf elem) λbQ h2 size=>?_;cases e:ts[1]? with
    |none=>exact tail h2 n c size (.inl .none) (.sliceNone n c)
    |some u2=>
     refine Sim.fR λeA h3 d2 gh=>?_;have l:=Ren.le_trans h2 h3;cases d2;case int k=>exact absurd gh (hz u2 e k)
     all_goals exact tail l n c size (.inl .none) (.sliceNone n c)
   case sliceDead a a'=>
    refine Sim.cO (Sim.sizeOf elem) λbQ h2 size=>?_;cases e:ts[1]? with
    |none=>exact tail h2 0 0 size (.inr ⟨a,a',rfl,rfl,rfl,rfl⟩) (.sliceDead a a')
    |some u2=>
     refine Sim.fR λeA h3 d2 gh=>?_;have l:=Ren.le_trans h2 h3;cases d2;case int k=>exact absurd gh (hz u2 e k)
     all_goals exact tail l 0 0 size (.inr ⟨a,a',rfl,rfl,rfl,rfl⟩) (.sliceDead a a')
   all_goals exact Sim.stuck
  all_goals exact Sim.stuck
def Uq(w:N)(c:Array z)(e:ώ):
 Ad4 {w with heap:=w.heap.push (.cells c e (0,0))} {block:=w.heap.size,off:=c.size} 1={w with heap:=w.heap.push (.cells c e (c.size,c.size+1))}:=by
 unfold Ad4;simp only[Nat.one_ne_zero,if_false];congr 1;apply Aat
 ·simp
 ·intro i h1 h2;simp only[Aau,Array.getElem_push];by_cases hi:w.heap.size=i
  ·subst hi;simp
  ·rw[if_neg hi];have:i<w.heap.size:=(by simp at h2;omega);simp[this]
def yf(e:ώ)(c:Array z):Sem ϖ:=do
 let a <-Go.newRow e c
 Go.markStringish a
 pure a
def amk(p:ϗ)(e:ώ)(c:Array z)(w:N):(yf e c).run p w=.ok ⟨w.heap.size,0,H⟩ {w with heap:=w.heap.push (.cells c e (c.size,c.size+1))}:=by
 have V:({w with heap:=w.heap.push (.cells c e (0,0))}:N).shape? w.heap.size=J (e,c.size):=by simp[Ad3]
 show ϥ p (Sem.new _ _) w=_;simp only[ϥ];show ϥ p (Sem.shape _ _) _=_;simp only[ϥ,V];show ϥ p (Sem.freeze _ _ _) _=_;simp only[ϥ,Uq];rfl
def aml(p:ϗ)(e:ώ)(c:Array z)(w:N)(es:Array Ø):(yf e c).runT p w es=(.ok ⟨w.heap.size,0,H⟩ {w with heap:=w.heap.push (.cells c e (c.size,c.size+1))},es):=by
 have V:({w with heap:=w.heap.push (.cells c e (0,0))}:N).shape? w.heap.size=J (e,c.size):=by simp[Ad3]
 show ϧ p (Sem.new _ _) w es=_;unfold ϧ;show ϧ p (Sem.shape _ _) _ es=_;unfold ϧ;rw[V];show ϧ p (Sem.freeze _ _ _) _ es=_;unfold ϧ;rw[Uq];rfl
def Sim.yf(e:ώ){c c':Array z}(h:aV Z c c'):Sim (tw P F) P C Z eh (yf e c) (yf e c'):=by
 intro aM h1 w w' es hw a aa T;rw[amk] at T;simp only[Ĝ] at T;obtain⟨rfl,rfl⟩:=T;have ho:jq C Z (.cells c e (c.size,c.size+1)) (.cells c' e (c'.size,c'.size+1)):=.cells e h (.inl (by rw[h.1]))
 obtain⟨bM,b,aF,eM,k1,k2,k3,k4,k5⟩:=Sim.newObj (P':=tw P F) (P:=P) ho aM h1 w w' es hw _ _ rfl;have e1:(Go.newObj (.cells c' e (c'.size,c'.size+1))).runT P w' es=(.ok w'.heap.size {w' with heap:=w'.heap.push (.cells c' e (c'.size,c'.size+1))},es):=by unfold Go.newObj;simp only[ϧ]
 rw[e1] at k1;simp only[Prod.mk.injEq,Ĝ] at k1;obtain⟨⟨rfl,rfl⟩,k1⟩:=k1;refine⟨bM,⟨w'.heap.size,0,H⟩,_,eM,?_,⟨k2,rfl,rfl⟩,k3,k4,k5⟩;rw[aml,<-k1]
def ala(e:ώ)(c:Array z)(f:ϖ->Sem z):(Go.newRow e c>>=λa=>Go.markStringish a>>=λ_=>f a)=yf e c>>=f:=by unfold yf;simp only[bind_assoc,pure_bind]
def Sim.stringToBytes(e:ώ)(s:ByteArray):Sim (tw P F) P C Z aj (Conv.stringToBytes e s) (Conv.stringToBytes e s):=by
 unfold Conv.stringToBytes;refine Sim.cO (Sim.choose _) λcF h1 cap=>?_;have hc:aV cF ((s.data.map λb=>Value.int .u8 b.toNat)++Array.replicate (cap - s.size) (Value.int .u8 0)) ((s.data.map λb=>Value.int .u8 b.toNat)++Array.replicate (cap - s.size) (Value.int .u8 0)):=
  (Tg s).append (cf.refl λa ha=>by
    rw[(Aav.1 ha).2];exact .int _ _)
 simp only[ala];exact Sim.bind' (Sim.yf e hc) λbQ h2 a b hab=>Sim.pure' λ_ h3=>.slice _ _ (hab.mono h3)
inductive Rz(P:ϗ)(src dst:ώ):Prop
 |ints (j k:í) (h1:P.underlying src=J (.int j)) (h2:P.underlying dst=J (.int k))
 |bytes (e:ώ) (h1:P.underlying src=J .string) (h2:P.underlying dst=J (.slice e)) (h3:P.underlying e=J (.int .u8))
def Sim.convert(src dst:ώ)(hc:Rz P src dst){v v':z}(h:aj Z v v'):Sim (tw P F) P C Z aj (Go.convert src dst v) (Go.convert src dst v'):=by
 unfold Go.convert;refine Sim.fR λcF h1 d1 kT=>?_;refine Sim.fR λbQ h2 d2 gh=>?_;have h:=h.mono (Ren.le_trans h1 h2);cases hc with
 |ints j k e1 e2=>
  rw[kT] at e1;rw[gh] at e2;obtain rfl:=ϟ e1;obtain rfl:=ϟ e2;cases h<;>first|exact Sim.unsupported|exact Sim.pure' λ_ _=>.int _ _
 |bytes e e1 e2 e3=>
  rw[kT] at e1;rw[gh] at e2;obtain rfl:=ϟ e1;obtain rfl:=ϟ e2;cases h;case string s=>refine Sim.fR λeA h3 d3 hd3=>?_;rw[hd3] at e3;obtain rfl:=ϟ e3;exact Sim.stringToBytes e s
  all_goals exact Sim.unsupported
def Sim.checkKey(empty:Bool):∀(d n:Nat) (t:ώ) {x x':z} {Z:Ren},ix P n t=D->aj Z x x'->Sim (tw P F) P C Z (λ_ _ _=>True) (Ac1 empty d t x) (Ac1 empty d t x'):=by
 intro d;induction d with
 |zero=>intro n t x x' Z _ _;exact Sim.halt
 |succ d ih=>
  intro n t x x' Z h hx;have pt:∀ {Z:Ren},Sim (tw P F) P C Z (λ_ _ _=>True) (Ϩ ():Sem Unit) (Ϩ ()):=Sim.pure' λ_ _=>trivial
  cases n with
  |zero=>cases h
  |succ n=>
  unfold Ac1;refine Sim.fR λcF h1 ds hd=>?_;have hx:=hx.mono h1;unfold ix at h;cases hi: P.info? t with
  |none=>rw[hi] at h;cases h
  |some info=>
  rw[hi,hd] at h;simp only[Ä] at h;obtain⟨_,h⟩:=h;cases ds;case struct fs=>
   cases hx;case agg hxs hxs'=>
    simp only;refine Sim.cO (Sim.zm fs (λf hf s=>?_) _) λ_ _ _=>pt;have Oa:ix P n f.type=D:=by simp only[ħ] at h;exact h f hf
    split
    ·refine Sim.bind' (Sim.part f.type ⟨hxs,hxs'⟩ _) λeA h3 a a' ha=>?_;exact Sim.bind' (ih n f.type Oa ha) λ_ _ _ _ _=>Sim.pure' λ_ _=>rfl
    ·exact Sim.pure' λ_ _=>rfl
   all_goals exact Sim.stuck
  case array len e=>
   cases hx;case agg hxs hxs'=>simp only[Aei];refine Sim.cO (Sim.sO _ (λi hi s=>?_) _) λ_ _ _=>pt;refine Sim.cO (Sim.sizeOf e) λbQ h2 m=>?_;refine Sim.bind' (Sim.part e (aV.mono h2 ⟨hxs,hxs'⟩) _) λeA h3 a a' ha=>?_;exact Sim.bind' (ih n e h ha) λ_ _ _ _ _=>Sim.pure' λ_ _=>rfl
   all_goals exact Sim.stuck
  case bool=>cases hx<;>exact pt
  case int=>cases hx<;>exact pt
  case string=>cases hx<;>exact pt
  case slice=>cases hx<;>exact pt
  case map=>cases hx<;>exact pt
  case func=>cases hx<;>exact pt
  all_goals cases h
abbrev K7(Z:Ren):Nat×z->Nat×z->Prop:=λp q=>p.1=q.1/\aj Z p.2 q.2
def j5.key{a b:Ğ}(h:j5 Z a b):aj Z a.key b.key:=by cases h;assumption
def j5.val{a b:Ğ}(h:j5 Z a b):aj Z a.val b.val:=by cases h;assumption
def Sim.findAsking{n:Nat}{t:ώ}(ht:ix P n t=D){k k':z}{es es':List Ğ}(h:gR (j5 Z) es es'):
 ∀ {ax:Ren},Z.le ax->aj ax k k'->∀i,Sim (tw P F) P C ax (λZ=>fK (K7 Z)) (Ac2 t k es i) (Ac2 t k' es' i):=by
 induction h with
 |nil=>intro ax _ _ i;exact Sim.pure' λ_ _=>.none
 |cons he _ ih=>
  intro ax h' hk i;unfold Ac2;refine Sim.cO (Sim.equalIn _ n t ht hk (he.key.mono h')) λfw ed b=>?_;cases b with
  |true=>exact Sim.pure' λ_ h3=>.some ⟨rfl,he.val.mono (Ren.le_trans h' (Ren.le_trans ed h3))⟩
  |false=>exact ih (Ren.le_trans h' ed) (hk.mono ed) (i+1)
def aqk{t:ώ}(h:p.underlying t=J d)(f:ŗ->Sem α)(w:N)(es:Array Ø):(Go.underlying t>>=f).runT p w es=(f d).runT p w es:=by
 show((Go.underlying t).bind f).runT p w es=_;rw[qR];have:(Go.underlying t).runT p w es=(.ok d w,es):=by unfold Go.underlying;show(match p.underlying t with|some d=>Ϩ d|none=>Go.stuck "no such type" :Sem ŗ).runT p w es=_;rw[h];rfl
 rw[this]
def T3{t:ώ}(h:p.underlying t=J d)(V:ř d x y=J b)(w:N)(es:Array Ø):(ŵ t x y).runT p w es=(.ok b w,es):=by
 show(Ň (9999+1) t x y).runT p w es=_;unfold Ň;rw[aqk h];cases d;case bool=>cases x<;>cases y<;>first| (cases V;done) | (simp only[ř,Đ] at V;subst V;rfl)
 case string=>cases x<;>cases y<;>first| (cases V;done) | (simp only[ř,Đ] at V;subst V;rfl)
 case int k0=>
  cases x;case int k a=>
   cases y;case int k' a'=>
    have key:((if k=k' then Ϩ (a==a') else Go.stuck "==: kinds differ" :Sem Bool)).runT p w es=(.ok b w,es):=by
     simp only[ř] at V;split at V
     ·rename_i e;rw[if_pos e];obtain rfl:=ϟ V;rfl
     ·cases V
    cases a with
    |ofNat a=>cases a<;>(cases a' with|ofNat b=>cases b<;>exact key|negSucc b=>exact key)
    |negSucc a=>cases a' with|ofNat b=>cases b<;>exact key|negSucc b=>exact key
   all_goals cases V
  all_goals (cases y<;>cases V)
 all_goals (cases x<;>cases y<;>cases V)
def Ub{p:ϗ}{t:ώ}{d:ŗ}(h:p.underlying t=J d){k:z}:∀(es:List Ğ) (i:Nat) {r:Option (Nat×z)},ņ d k es i=J r->∀(w:N) (ev:Array Ø),
 (Ac2 t k es i).runT p w ev=(.ok r w,ev)
 | [],i,r,T,w,ev=>by simp only[ņ,Đ] at T;subst T;rfl
 |e::es,i,r,T,w,ev=>by
  unfold ņ at T;unfold Ac2;show((ŵ t k e.key).bind _).runT p w ev=_;rw[qR];split at T
  ·rename_i V;rw[T3 h V];obtain rfl:=ϟ T;rfl
  ·rename_i V;rw[T3 h V];exact Ub h es (i+1) T w ev
  ·cases T
def Yp(hx:aj Z x x')(hy:aj Z y y')(h:ř d x y=J b):ř d x' y'=J b:=by
 have no:∀d:ŗ,(∀k,d≠ .int k)->d≠ .string->d≠ .bool->ř d x y≠J b:=by intro d h1 h2 h3 e;unfold ř at e;split at e<;>simp_all
 cases d;case bool=>cases hx<;>first| (cases y<;>cases h;done) | (cases hy<;>first| (cases h;done) |exact h)
 case string=>cases hx<;>first| (cases y<;>cases h;done) | (cases hy<;>first| (cases h;done) |exact h)
 case int k=>cases hx<;>first| (cases y<;>cases h;done) | (cases hy<;>first| (cases h;done) |exact h)
 all_goals exact absurd h (no _ (λ_=>by simp) (by simp) (by simp))
def afO{k k':z}(hk:aj Z k k'){es es':List Ğ}(h:gR (j5 Z) es es'):∀(i:Nat) {r:Option (Nat×z)},ņ d k es i=J r->
 ∃r',ņ d k' es' i=J r'/\fK (K7 Z) r r':=by
 induction h with
 |nil=>intro i r T;simp only[ņ,Đ] at T;subst T;exact⟨H,rfl,.none⟩
 |cons he _ ih=>
  intro i r T;unfold ņ at T |-;split at T
  ·rename_i V;rw[Yp hk he.key V];obtain rfl:=ϟ T;exact⟨_,rfl,.some ⟨rfl,he.val⟩⟩
  ·rename_i V;rw[Yp hk he.key V];exact ih _ T
  ·cases T
def Sim.aj5{s:Sem α}{s' Yk:Sem β}(h:Sim P' P C Z R s s')(e:∀w es,Yk.runT P w es=s'.runT P w es):Sim P' P C Z R s Yk:=by intro aM h1 w w' es hw a aa T;rw[e];exact h aM h1 w w' es hw a aa T
def Sim.findKey{n:Nat}{t:ώ}(ht:ix P n t=D){k k':z}(hk:aj Z k k'){es es':List Ğ}(h:gR (j5 Z) es es'):
 Sim (tw P F) P C Z (λZ=>fK (K7 Z)) (Ac5 t k es) (Ac5 t k' es'):=by
 unfold Ac5;refine Sim.fR λcF h1 d hd=>?_;have ask:=Sim.findAsking (F:=F) (C:=C) ht h h1 (hk.mono h1) 0;have h:gR (j5 cF) es es':=by
  clear ask hd;induction h with
  |nil=>exact .nil|cons he _ ih=>exact .cons (he.mono h1) ih
 cases e:ņ d k es 0 with
 |some r=>obtain⟨r',e',T⟩:=afO (hk.mono h1) h 0 e;rw[e'];exact Sim.pure' λ_ h3=>T.mono λ_ _ x=>⟨x.1,x.2.mono h3⟩
 |none=>
  simp only;cases e':ņ d k' es' 0 with
  |none=>exact ask|some r'=>exact ask.aj5 λw ev=>by rw[Ub hd es' 0 e'];rfl
def gR.mono{R R':α->β->Prop}(h:∀a b,R a b->R' a b){x:List α}{y:List β}(k:gR R x y):gR R' x y:=by
 induction k with
 |nil=>exact .nil
 |cons he _ ih=>exact .cons (h _ _ he) ih
def Sim.lookup(hr:pA P)(t:ώ)(ht:∀k e,P.underlying t=J (.map k e)->∃n,ix P n k=D)(ok:Bool){m m' x x':z}(hm:aj Z m m')(hx:aj Z x x'):
 Sim (tw P F) P C Z aj (Ś t m x ok) (Ś t m' x' ok):=by
 unfold Ś;refine Sim.fR λcF h1 d hd=>?_;cases d;case map key elem=>
  obtain⟨n,hn⟩:=ht key elem hd;have hm:=hm.mono h1;simp only;have tail:∀ {ax:Ren} {es es':Array Ğ},cF.le ax->cf (j5 ax) es es'->Sim (tw P F) P C ax aj
   (do
     Ac1 es.isEmpty 10000 key x
     let (v,o) <-match <-Ac5 key x es.toList with
      |some (_,v)=>Ϩ (v,D)
      |none=>Ϩ (<-Go.zeroValue elem,U)
     Ϩ (if ok then μ #[v,.bool o] else v))
   (do
     Ac1 es'.isEmpty 10000 key x'
     let (v,o) <-match <-Ac5 key x' es'.toList with
      |some (_,v)=>Ϩ (v,D)
      |none=>Ϩ (<-Go.zeroValue elem,U)
     Ϩ (if ok then μ #[v,.bool o] else v)):=by
   intro ax es es' h' he;have hx:=hx.mono (Ren.le_trans h1 h');have e1:es.isEmpty=es'.isEmpty:=by simp[Array.isEmpty,he.1]
   rw[e1];refine Sim.bind' (Sim.checkKey _ _ n key hn hx) λbQ h2 _ _ _=>?_;refine Sim.bind' (Sim.findKey hn (hx.mono h2) (he.pQ.mono λ_ _ x=>j5.mono h2 x)) λeA h3 r r' T=>?_;have fin:∀ {ax:Ren} {v v':z} (o:Bool),aj ax v v'->Sim (tw P F) P C ax aj (Ϩ (if ok then μ #[v,.bool o] else v):Sem z) (Ϩ (if ok then μ #[v',.bool o] else v')):=by
    intro ax v v' o hv;refine Sim.pure' λfw ed=>?_;split
    ·exact aj.tuple' ⟨rfl,λi hi bG=>by
      have:i=0\/i=1:=(by simp at hi;omega);rcases this with rfl|rfl
      ·exact hv.mono ed
      ·exact .bool _⟩
    ·exact hv.mono ed
   cases T with
   |some T=>exact fin D T.2|none=>exact Sim.bind' (Sim.zeroValue hr elem) λ_ _ _ _ hv=>fin U hv
  cases hm;case mapNone=>exact tail cF.le_refl .empty
  case map r=>
   refine Sim.bind' (Sim.getObj r) λbQ h2 o o' ro=>?_;cases ro;case map clock hmm=>exact tail h2 hmm
   all_goals exact Sim.stuck
  all_goals exact Sim.stuck
 all_goals exact Sim.stuck
end
end Go.Sim
namespace Go.Sim
open Go
structure cg(C:bX)(Z:Ren)(w w':N):Prop where
 dL:∀a b,Z a b->a<w.heap.size
 dq:∀a b,Z a b->b<w'.heap.size
 fn:∀a b b',Z a b->Z a b'->b=b'
 inj:∀a a' b,Z a b->Z a' b->a=a'
 obj:∀a b o,Z a b->w.heap[a]?=J o->∃o',w'.heap[b]?=J o'/\jq C Z o o'
def iP.core{C:bX}{Z:Ren}(h:iP C Z w w'):cg C Z w w':=⟨h.dL,h.dq,h.fn,h.inj,h.obj⟩
def cg.rel{C:bX}{Z:Ren}(h:cg C Z w w')(t:∀j q,w.tape (w.drawn+j) q=w'.tape (w'.drawn+j) q):iP C Z w w':=⟨h.dL,h.dq,h.fn,h.inj,h.obj,t⟩
def ep(P' P:ϗ)(C:bX)(Z:Ren)(R:Ren->α->β->Prop)(s:Sem α)(s':Sem β):Prop:=
 ∀aM,Z.le aM->∀(w w':N) (es:Array Ø),iP C aM w w'->∀a aa,s.run P' w=.ok a aa->
  ∃bM b aF eM,s'.runT P w' es=(.ok b aF,es++eM)/\R bM a b/\cg C bM aa aF/\Trans aM bM w w' aa aF/\∀e∈eM,rf bM w e
section
variable {P' P:ϗ}{F:Array Ç}{C:bX}{Z:Ren}{α β γ δ:Type}
variable {R:Ren->α->β->Prop}{S:Ren->γ->δ->Prop}
def Sim.ml{s:Sem α}{s':Sem β}(h:Sim P' P C Z R s s'):ep P' P C Z R s s':=by intro aM h1 w w' es hw a aa T;obtain⟨bM,b,aF,eM,h2,h3,h4,h5,h6⟩:=h aM h1 w w' es hw a aa T;exact⟨bM,b,aF,eM,h2,h3,h4.core,h5,h6⟩
def Sim.Ha{s:Sem α}{s':Sem β}{f:α->Sem γ}{g:β->Sem δ}(h:Sim P' P C Z R s s')(hf:∀ax,Z.le ax->∀a b,R ax a b->ep P' P C ax S (f a) (g b)):
 ep P' P C Z S (s>>=f) (s'>>=g):=by
 intro aM h1 w w' es hw c au T;have T:(s.bind f).run P' w=.ok c au:=T;rw[run_bind] at T;cases e:s.run P' w with
 |halt h w=>rw[e] at T;cases T
 |ok a aa=>
  rw[e] at T;obtain⟨bM,b,aF,eM,h2,h3,h4,h5,h6⟩:=h aM h1 w w' es hw a aa e;obtain⟨Dj,d,eF,PX,k2,k3,k4,k5,k6⟩:=hf bM (Ren.le_trans h1 h5.le) a b h3 bM bM.le_refl aa aF (es++eM) h4 c au T;refine⟨Dj,d,eF,eM++PX,?_,k3,k4,h5.trans k5,λx hx=>?_⟩
  ·show(s'.bind g).runT P w' es=_;rw[qR,h2];simp only[k2,Aac]
  ·rcases Aad.1 hx with hx|hx
   ·exact(h6 x hx).mono k5.le
   ·exact(k6 x hx).back h5
def ep.acJ{s:Sem α}{s':Sem β}{f:α->γ}{g:β->δ}(h:ep P' P C Z R s s')(hf:∀ax a b,R ax a b->S ax (f a) (g b)):ep P' P C Z S (s>>=λa=>Ϩ (f a)) (s'>>=λb=>Ϩ (g b)):=by
 intro aM h1 w w' es hw c au T;have T:(s.bind λa=>Ϩ (f a)).run P' w=.ok c au:=T
 rw[run_bind] at T;cases e:s.run P' w with
 |halt h w=>rw[e] at T;cases T
 |ok a aa=>
  rw[e] at T;have T:Result.ok (f a) aa=.ok c au:=T;simp only[Ĝ] at T;obtain⟨rfl,rfl⟩:=T;obtain⟨bM,b,aF,eM,h2,h3,h4,h5,h6⟩:=h aM h1 w w' es hw a aa e;refine⟨bM,g b,aF,eM,?_,hf _ _ _ h3,h4,h5,h6⟩
  show(s'.bind _).runT P w' es=_;rw[qR,h2];rfl
def ep.never{s:Sem α}{s':Sem β}(h:bH P' s):ep P' P C Z R s s':=(Sim.never h).ml
def bytes_beq{s t:ByteArray}(h:(s==t)=D):s=t:=by have h:ByteArray.beq s t=D:=h;unfold ByteArray.beq at h;simp at h;exact ByteArray.ext h
def Rk{x y:Array z}(V:x.size=y.size){f:z×z->Bool}:(x.toList.zip y.toList).all f=D↔∀i (h:i<x.size) (h':i<y.size),f (x[i],y[i])=D:=by
 rw[List.all_eq_true];constructor
 ·intro h i h1 h2;refine h _ ?_;rw[List.mem_iff_getElem];exact⟨i,by simp;omega,by simp⟩
 ·intro h p hp;rw[List.mem_iff_getElem] at hp;obtain⟨i,hi,rfl⟩:=hp;simp only[List.length_zip,Array.length_toList] at hi;simpa using h i (by omega) (by omega)
def Yo:∀(n:Nat) {a b:z},ċ n a b=D->a=b:=by
 intro n;induction n with
 |zero=>intro a b h;cases a<;>cases b<;>first| (simp_all [ċ];done) | (rw[bytes_beq h])
 |succ n ih=>
  intro a b h;cases a<;>cases b<;>try first| (simp_all [ċ];done) | (rw[bytes_beq h];done)
  case agg x y=>simp only[ċ,Ä,beq_iff_eq] at h;obtain⟨V,ha⟩:=h;congr 1;exact Aat V λi h1 h2=>ih ((Rk V).1 ha i h1 h2)
  case iface t v u w=>simp only[ċ,Ä,beq_iff_eq] at h;rw[h.1,ih h.2]
def sameBits_self(hb:KH Z):∀(n:Nat) {a a' b':z},ċ n a a=D->aj Z a a'->aj Z a b'->ċ n a' b'=D:=by
 have leaf:∀(n:Nat) {a a' b':z},(∀x,a≠ .agg x)->(∀t x,a≠ .iface t x)->ċ n a a=D->aj Z a a'->aj Z a b'->ċ n a' b'=D:=by
  intro n a a' b' n1 n2 h ha dv;cases ha;case bool=>cases dv;exact h
  case int=>cases dv;exact h
  case string=>cases dv;exact h
  case ptrNone=>cases dv;exact h
  case ptr x y hxy=>
   cases dv;case ptr υ hxz=>have e:y=υ:=(by obtain⟨y1,y2,y3⟩:=y;obtain⟨z1,z2,z3⟩:=υ;obtain⟨p1,p2,p3⟩:=hxy;obtain⟨q1,q2,q3⟩:=hxz;simp only at p1 p2 p3 q1 q2 q3;rw[<-p2,<-p3,<-q2,<-q3,hb.1 _ _ _ p1 q1]);subst e;cases n<;>simp[ċ]
  case chanNone=>cases dv;exact h
  case chan x y hxy=>
   cases dv;case chan υ hxz=>rw[hb.1 _ _ _ hxy hxz];cases n<;>simp[ċ]
  case nilIface=>cases dv;exact h
  case iface t v v' hv=>exact absurd rfl (n2 t v)
  case agg x x' hx h1=>exact absurd rfl (n1 x)
  all_goals (cases n<;>simp[ċ] at h)
 intro n;induction n with
 |zero=>intro a a' b' h ha dv;refine leaf 0 (λx e=>?_) (λt x e=>?_) h ha dv<;>(subst e;simp[ċ] at h)
 |succ n ih=>
  intro a a' b' h ha dv;cases ha;case agg x x' hx h1=>
   cases dv;case agg y' hy h2=>
    simp only[ċ,Ä,beq_iff_eq] at h |-;have V:x'.size=y'.size:=hx.symm.trans hy;refine⟨V,(Rk V).2 λi i1 i2=>?_⟩;exact ih ((Rk rfl).1 h.2 i (by omega) (by omega)) (h1 i (by omega) i1) (h2 i (by omega) i2)
  case iface t v v' hv=>
   cases dv;case iface w hw=>
    simp only[ċ,Ä,beq_iff_eq] at h |-;exact⟨trivial,ih h.2 hv hw⟩
  all_goals exact leaf _ (λ_=>by simp) (λ_ _=>by simp) h (by first|exact aj.fjunk _ _ _|exact aj.sliceDead _ _| (constructor<;>assumption)) dv
def ep.biu{s:Sem α}{s':Sem β}(h:∀ax,Z.le ax->KH ax->ep P' P C ax R s s'):ep P' P C Z R s s':=
 λaM h1 w w' es hw a aa T=>h aM h1 ⟨hw.fn,hw.inj⟩ aM aM.le_refl w w' es hw a aa T
def ep.aev(q:Question)(hq:q.forced=U){a b:Nat}(h:Z a b){f:Nat->Obj}{o':Obj}(ho:∀n,jq C Z (f n) o'):
 ep P' P C Z (λ_ _ _=>True) (Go.choose q>>=λn=>Go.setObj a (f n)) (Go.setObj b o'):=by
 intro aM h1 w w' es hw u aa T;have T:(Sem.choose q λn=>Go.setObj a (f n)).run P' w=.ok u aa:=T
 unfold ϥ at T;simp only[hq,è,if_false] at T;have ht:∀(x:Nat) (au:N),(Go.setObj a (f x)).run P' {w with drawn:=w.drawn+1}=.ok () au->∃sR,(Go.setObj a (f x)).run P' w=.ok () sR/\au={sR with drawn:=w.drawn+1}:=by
  intro x au h2;unfold Go.setObj ϥ at h2 |-;cases ho:w.heap[a]? with
  |none=>simp only[ho] at h2;cases h2
  |some o=>
   simp only[ho] at h2 |-;cases o<;>simp only[ϥ] at h2 |- <;>first| (cases h2;exact⟨_,rfl,rfl⟩) |cases h2
 obtain⟨sR,e3,rfl⟩:=ht _ _ T;obtain⟨bM,b',aF,eM,k1,k2,k3,k4,k5⟩:=(Sim.setObj (P':=P') (P:=P) h (ho _)) aM h1 w w' es hw _ _ e3;exact⟨bM,b',aF,eM,k1,trivial,⟨k3.dL,k3.dq,k3.fn,k3.inj,k3.obj⟩,⟨k4.le,k4.new,k4.oa,k4.gO,k4.lD,k4.jd,k4.Xh,k4.Kc,k4.nf,k4.yo,k4.yp⟩,k5⟩
def cf.modify{R:α->α->Prop}{x y:Array α}(h:cf R x y)(i:Nat){f g:α->α}(hf:∀a b,R a b->R (f a) (g b)):cf R (x.modify i f) (y.modify i g):=by
 refine⟨by simp[h.1],λj hj rQ=>?_⟩;simp only[Aau];split
 ·exact hf _ _ (h.2 _ _ _)
 ·exact h.2 _ _ _
def ep.ajE(hb:KH Z){r r':Nat}(T:Z r r'){old aao new bZ:z}(ho:aj Z old aao)(hn:aj Z new bZ){f g:z->Obj}(hf:∀ {bQ k k'},Z.le bQ->aj bQ k k'->jq C bQ (f k) (g k')):
 ep P' P C Z (λ_ _ _=>True) (Ac8 old new>>=λk=>Go.setObj r (f k)) (Ac8 aao bZ>>=λk=>Go.setObj r' (g k)):=by
 unfold Ac8;by_cases e:ċ 10000 old new=D
 ·have e0:=Yo 10000 e;subst e0;rw[if_pos e,if_pos (sameBits_self hb 10000 e ho hn)];exact(Sim.setObj T (hf Z.le_refl hn)).ml
 ·rw[if_neg e];by_cases e':ċ 10000 aao bZ=D
  ·have e0:=Yo 10000 e';subst e0;rw[if_pos e'];exact ep.aev _ rfl T λn=>by
     by_cases hz:n=0
     ·rw[if_pos hz];exact hf Z.le_refl hn
     ·rw[if_neg hz];exact hf Z.le_refl ho
  ·rw[if_neg e'];refine Sim.ml ?_;refine Sim.bind (R:=aj) (Sim.cO (Sim.choose _) λcF h1 n=>Sim.pure ?_) λcF h1 k k' hk=>?_
   ·split
    ·exactλ_ h2=>hn.mono (Ren.le_trans h1 h2)
    ·exactλ_ h2=>ho.mono (Ren.le_trans h1 h2)
   ·exact Sim.setObj (h1 _ _ T) (hf h1 hk)
def ep.mapUpdate(t:ώ)(ht:∀k e,P.underlying t=J (.map k e)->∃n,ix P n k=D){m m' k k' v v':z}(hm:aj Z m m')(hk:aj Z k k')(hv:aj Z v v'):
 ep (tw P F) P C Z (λ_ _ _=>True) (ś t m k v) (ś t m' k' v'):=by
 unfold ś;refine Sim.Ha (Sim.underlying t) λcF h1 d d' hd=>?_;obtain⟨rfl,hd⟩:=hd;cases d;case map key elem=>
  obtain⟨n,hn⟩:=ht key elem hd;have hm:=hm.mono h1;cases hm;case mapNone=>exact ep.never (oV _)
  case map r=>
   refine Sim.Ha (Sim.getObj r) λbQ h2 o o' ro=>?_;cases ro;case map es es' clock he=>
    have hk:=hk.mono (Ren.le_trans h1 h2);have hv:=hv.mono (Ren.le_trans h1 h2);refine Sim.Ha (Sim.checkKey _ _ n key hn hk) λeA h3 _ _ _=>?_
    refine Sim.Ha (Sim.findKey hn (hk.mono h3) (he.pQ.mono λ_ _ x=>j5.mono h3 x)) λmq h4 f f' hff=>?_;refine ep.biu λv8 h5 hb=>?_;have l5:=Ren.le_trans h3 (Ren.le_trans h4 h5);have N5:cf (j5 v8) es es':=he.mono λ_ _ x=>j5.mono l5 x
    have V8:=Ren.le_trans h2 l5 _ _ r;cases hff with
    |none=>exact(Sim.setObj V8 (.map _ (N5.push (.mk _ (hk.mono l5) (hv.mono l5))))).ml
    | @some p q IU=>
      obtain⟨i,x⟩:=p;obtain⟨j,y⟩:=q;obtain⟨e,_⟩:=IU;simp only at e;subst e;refine ep.ajE hb V8 ?_ (hk.mono l5) λh6 vo=>.map _ ((N5.mono λ_ _ x=>j5.mono h6 x).modify _ λa b hab=>?_)
      ·rcases N5.get? i with⟨e1,e2⟩ | ⟨a,b,e1,e2,hab⟩
       ·rw[e1,e2];exact hk.mono l5
       ·rw[e1,e2];exact hab.key
      ·cases hab with
       |mk born _ _=>exact .mk born vo (hv.mono (Ren.le_trans l5 h6))
   all_goals exact ep.never bH.halt
  all_goals exact ep.never bH.halt
 all_goals exact ep.never bH.halt
end
def lF:Nat->z->Bool
 |0,_=>U
 |n+1,v=>match v with
  | .bool _| .int .. | .string _| .pointer H| .slice H _ _| .map H| .chan H| .nilFunc| .nilIface=>D
  | .func (.func _) x y=>x.isEmpty && y.isEmpty
  | .iface _ v=>lF n v
  | .agg x=>x.all (lF n)
  | .tuple x=>x.all (lF n)
  |_=>U
def pR(G:Nat->Bool):î->Bool
 | .tmp _=>D
 | .const v=>lF 10 v
 | .global g=>G g
 | .func _=>D
def WV:ß->Bool
 | .eql| .neq=>D
 |_=>U
def DZ(P:ϗ)(t:ώ):Bool:=ix P 20 t && !P.eqGuardType P.depth t
def BC(P:ϗ)(e:ώ):Bool:=match P.underlying e with
 |some (.int .u8)=>D
 |_=>U
def BJ(P:ϗ)(s d:ώ):Bool:=match P.underlying s,P.underlying d with
 |some (.int _),J (.int _)=>D
 |some .string,J (.slice e)=>BC P e
 |_,_=>U
def D7(P:ϗ)(s:ώ)(i:Nat):Bool:=match P.underlying s with
 |some (.struct fs)=>(match fs[i]? with
  |some f=>(P.info? f.type).any (·.size !=0)
  |none=>U)
 |_=>U
def AH(P:ϗ)(t:ώ):Bool:=match P.underlying t with
 |some (.map k _)=>ix P 20 k
 |_=>U
def TN(P:ϗ)(t:Option ώ):Bool:=match t with
 |none=>D
 |some u=>(match P.underlying u with
  |some (.int _)=>U
  |_=>D)
def wN(P:ϗ)(ts:Array ώ)(n:Nat):Builtin->Bool
 | .len=>n==1
 | .max| .min=>D
 | .copy=>n==2
 | .clear=>n==1
 | .append=>n==2 && TN P ts[1]?
 |_=>U
def jA(P:ϗ)(o:Op):Bool:=match o with
 | .move _| .assign _| .pick .. | .alloc _| .box .. | .build .. | .buildSlice .. | .load .. | .store .. | .makeSlice .. | .slice .. | .field .. | .indexAddr .. | .index .. | .extract .. =>D
 | .unOp .not _ _| .nilCheck _=>D
 | .binOp op t _ _ _=> !WV op||DZ P t
 | .convert s d _=>BJ P s d
 | .makeFunc (.func _) _ _=>D
 | .makeMap _ H=>D
 | .fieldAddr s _ i=>D7 P s i
 | .lookup t _ _ _=>AH P t
 | .mapUpdate t _ _ _=>AH P t
 | .call ⟨.value _,_,_⟩=>D
 | .call ⟨.builtin b,args,ts⟩=>wN P ts args.size b
 |_=>U
def k8(P:ϗ)(G:Nat->Bool)(o:Oper):Bool:=o.op.operands.all (pR G) && jA P o.op
def cC(P:ϗ)(G:Nat->Bool):Ϙ->Bool
 | .skip| .label _| .ret| .exit _=>D
 | .region _ ops _=>ops.all (k8 P G)
 | .seq a b=>cC P G a && cC P G b
 | .cond c a b=>pR G c && cC P G a && cC P G b
 | .block _ b=>cC P G b
 | .loop b=>cC P G b
 | .scope b=>cC P G b
 | .rangeFunc f _ a b=>pR G f && cC P G a && cC P G b
 |_=>U
inductive lQ(C:bX)(Z:Ren):Next->Next->Prop
 |value {v v':z} (h:aj Z v v'):lQ C Z (.value v) (.value v')
 |skip:lQ C Z .skip .skip
 |enter (f:Æ) {x x':Array z} (hf:C.ok f=D) (h:aV Z x x'):lQ C Z (.enter f x) (.enter f x')
 |hole (f:Æ) {x x':Array z} (hf:C.hole f=D) (h:aV Z x x'):lQ C Z (.enter f x) (.enter f x')
 |round {l l':Nat} (hl:Z l l') (f:Æ) {x x':Array z} (h:aV Z x x') {a b:Ϙ} (ha:C.clean a) (hb:C.clean b):lQ C Z (.round l f x a b) (.round l' f x' a b)
structure RD(fn:Ç):Prop where
 name:(fn.name== "runtime.NumGoroutine")=U
 body:fn.body=H
 next:Extern.findNext fn=H
 row:Extern.find fn=H
 init:fn.name.endsWith ".init" =U
structure Env(P:ϗ)(F:Array Ç)(C:bX)(G:Nat->Bool):Prop where
 tV:pA P
 clean:∀c,C.clean c↔cC P G c=D
 get:∀f,C.ok f=D->∃fn c,F[f]?=J fn/\P.funcs[f]?=J fn/\fn.body=J c/\cC P G c=D/\(fn.name== "runtime.NumGoroutine")=U
 dead:∀f,C.ok f=U->C.hole f=U->F[f]?=H\/∃fn,F[f]?=J fn/\RD fn
 EZ:∀f,C.hole f=D->∃fn fn' c c',F[f]?=J fn/\P.funcs[f]?=J fn'/\fn.body=J c/\fn'.body=J c'/\(fn.name== "runtime.NumGoroutine")=U/\(fn'.name== "runtime.NumGoroutine")=U
 ahead:(tw P F).follows .staticDataAhead=D
 steps:∀g,(tw P F).stepOf g=H
def Env.never{F:Array Ç}{C:bX}{G:Nat->Bool}(ζ:Env P F C G)(f:Æ)(args:Array z)(h:C.ok f=U)(h':C.hole f=U):bH (tw P F) (Go.callFunc f args):=by
 intro w a aa T;rcases ζ.dead f h h' with e| ⟨fn,e,θ⟩
 ·have e1:(tw P F).funcs[f]?=H:=e;simp[Go.callFunc,Go.program,bind,Ϭ,ϥ,e1,Go.stuck] at T
 ·have e1:(tw P F).funcs[f]?=J fn:=e;have nm:¬fn.name= "runtime.NumGoroutine" :=λq=>by have:=θ.name;rw[q] at this;simp at this
  simp[Go.callFunc,Go.program,Go.mark,bind,Ϭ,ϥ,e1,θ.body,θ.next,θ.row,θ.init,Go.unsupported,nm] at T
def Uf:∀(n:Nat) {v:z},lF n v=D->Flat v:=by
 intro n;induction n with
 |zero=>intro v h;simp[lF] at h
 |succ n ih=>
  intro v h;have arr:∀x:Array z,x.all (lF n)=D->aV (λ_ _=>False) x x:=λx hx=>cf.refl λa ha=>ih (by simpa using ħ.1 hx a ha)
  cases v<;>try(simp[lF] at h;done)
  case bool=>exact .bool _
  case int=>exact .int _ _
  case string=>exact .string _
  case pointer p=>cases p with
   |none=>exact .ptrNone|some=>simp[lF] at h
  case slice p n c=>cases p with
   |none=>exact .sliceNone _ _|some=>simp[lF] at h
  case map p=>cases p with
   |none=>exact .mapNone|some=>simp[lF] at h
  case chan p=>cases p with
   |none=>exact .chanNone|some=>simp[lF] at h
  case func fn x y=>
   cases fn<;>try(simp[lF] at h;done)
   simp[lF] at h;obtain⟨rfl,rfl⟩:=h;exact .func (.func _) rfl (by simp) rfl (by simp)
  case nilFunc=>exact .nilFunc
  case iface t v=>exact .iface t (ih (by simpa [lF] using h))
  case nilIface=>exact .nilIface
  case agg x=>exact aj.wH (arr x (by simpa [lF] using h))
  case tuple x=>exact aj.tuple' (arr x (by simpa [lF] using h))
def re(G:Nat->Bool)(Z:Ren)(e e':î->z):Prop:=∀x,pR G x=D->aj Z (e x) (e' x)
section
variable {P:ϗ}{F:Array Ç}{C:bX}{G:Nat->Bool}{Z:Ren}
def Sim.val{s s':Sem z}(h:Sim (tw P F) P C Z aj s s'):Sim (tw P F) P C Z (lQ C) (do Ϩ (Ţ (<-s))) (do Ϩ (Ţ (<-s'))):=
 Sim.bind' h λ_ _ _ _ r=>Sim.pure' λ_ h2=>.value (r.mono h2)
def Sim.lK{s s':Sem z}(h:Sim (tw P F) P C Z aj s s'):ep (tw P F) P C Z (lQ C) (do Ϩ (Ţ (<-s))) (do Ϩ (Ţ (<-s'))):=(Sim.val h).ml
def Sim.Q2{s s':Sem Unit}(h:Sim (tw P F) P C Z (λ_ _ _=>True) s s'):ep (tw P F) P C Z (lQ C) (do s;Ϩ Adn) (do s';Ϩ Adn):=
 (Sim.bind' h λ_ _ _ _ _=>Sim.pure' λ_ _=>.skip).ml
def Sim.callFunc(ζ:Env P F C G)(f:Æ){x x':Array z}(h:aV Z x x'):Sim (tw P F) P C Z (lQ C) (Go.callFunc f x) (Go.callFunc f x'):=by
 by_cases hf:C.ok f=D
 ·obtain⟨fn,c,h1,h2,h3,h4,h5⟩:=ζ.get f hf;unfold Go.callFunc;refine Sim.bind' Sim.program λcF l1 a b ⟨ha,hb⟩=>?_;have e1:a.funcs[f]?=J fn:=by rw[ha];exact h1
  have e2:b.funcs[f]?=J fn:=by rw[hb];exact h2
  simp only[e1,e2,h5,h3,Aec,è,if_false];exact Sim.pure' λ_ l2=>.enter f hf (h.mono (Ren.le_trans l1 l2))
 ·by_cases hh:C.hole f=D
  ·obtain⟨fn,fn',c,c',h1,h2,h3,h4,h5,h6⟩:=ζ.EZ f hh;unfold Go.callFunc;refine Sim.bind' Sim.program λcF l1 a b ⟨ha,hb⟩=>?_;have e1:a.funcs[f]?=J fn:=(by rw[ha];exact h1);have e2:b.funcs[f]?=J fn':=(by rw[hb];exact h2);simp only[e1,e2,h5,h6,h3,h4,Aec,è,if_false];exact Sim.pure' λ_ l2=>.hole f hh (h.mono (Ren.le_trans l1 l2))
  ·exact Sim.never (ζ.never f x (by simpa using hf) (by simpa using hh))
def Sim.getLoop{l l':Nat}(h:Z l l'):Sim (tw P F) P C Z (Bn C) (Ada l) (Ada l'):=by
 unfold Ada;refine Sim.bind' (Sim.getObj h) λcF l1 o o' r=>?_;cases r;case loop hl=>exact Sim.pure' λ_ l2=>hl.mono l2
 all_goals exact Sim.stuck
def foldl_rel{l:List (Tmp×z)}{l':List (Tmp×z)}(h:gR (λa b=>a.1=b.1/\aj Z a.2 b.2) l l'):∀ {t t':Array z},aV Z t t'->
 aV Z (l.foldl (λtmps (x:Tmp×z)=>tmps.setIfInBounds x.1 x.2) t) (l'.foldl (λtmps (x:Tmp×z)=>tmps.setIfInBounds x.1 x.2) t'):=by
 induction h with
 |nil=>exactλh=>h
 |cons hab _ ih=>intro t t' ht;simp only[List.foldl_cons];refine ih ?_;rw[hab.1];exact cf.set ht _ hab.2
def Sim.yield{l l':Nat}(h:Z l l'){x x':Array z}(hx:aV Z x x'):Sim (tw P F) P C Z (lQ C) (Adb l x) (Adb l' x'):=by
 unfold Adb;refine Sim.bind' (Sim.getLoop h) λcF l1 o o' r=>?_;cases r with
 |mk st qP fn ps qi body ht hd ha hb hp=>
  simp only;rw[hx.1];split
  ·exact Sim.AW
  ·refine Sim.pure' λbQ l2=>.round (l2 _ _ (l1 _ _ h)) fn ?_ ha hb;simp only[<-Aar];refine foldl_rel ?_ (ht.mono l2);have:∀(ps:List Tmp) {x x':List z},gR (aj bQ) x x'->gR (λa b:Tmp×z=>a.1=b.1/\aj bQ a.2 b.2) (ps.zip x) (ps.zip x'):=by
    intro ps;induction ps with
    |nil=>intro x x' h;simp only[List.zip_nil_left];exact .nil
    |cons p ps ih=>
     intro x x' h;cases h with
     |nil=>simp only[List.zip_nil_right];exact .nil
     |cons hab t=>simp only[List.zip_cons_cons];exact .cons ⟨rfl,hab⟩ (ih t)
   simpa using this ps.toList (hx.mono (Ren.le_trans l1 l2)).pQ
end
end Go.Sim
namespace Go.Sim
open Go
section
variable {P:ϗ}{F:Array Ç}{C:bX}{G:Nat->Bool}{Z:Ren}{e e':î->z}
def Sim.CG(ζ:Env P F C G)(hv:aj Z v v'){x x':Array z}(hx:aV Z x x'):
 Sim (tw P F) P C Z (lQ C) (do let d <-Acg v x;Go.invoke d.target d.args) (do let d <-Acg v' x';Go.invoke d.target d.args):=by
 cases hv;case func fn fn' a a' b b' h ha h1 hb h2=>
  cases h with
  |func f=>exact Sim.callFunc ζ f ((cf.append ⟨ha,h1⟩ hx).append ⟨hb,h2⟩)|yield hl=>exact Sim.yield hl (cf.append ⟨ha,h1⟩ hx)
 case nilFunc=>exact Sim.never λw a aa T=>oV (P':=tw P F) (α:=Next) .nilDeref w a aa T
 case fjunk=>
  have e:(do let d <-Acg (.func (.method "") #[.nilIface] #[]) x;Go.invoke d.target d.args:Sem Next)=runtimePanic .nilDeref:=by
   show Go.invoke (.fn (.method "") #[]) (#[.nilIface]++x)=_;have h0:(#[Value.nilIface]++x)[0]?=J .nilIface:=by rw[Aaw (by simp)];rfl
   unfold Go.invoke;simp only[h0,Go.callMethod]
  rw[e];exact Sim.never λw a aa T=>oV (P':=tw P F) (α:=Next) .nilDeref w a aa T
 all_goals exact Sim.AW
def XR{x:Array α}(h:x.size=1):∃a,x=#[a]:=⟨x[0],by
 apply Aat<;>simp[h];intro i h1;have:i=0:=by omega
 subst this;rfl⟩
def Zh{x:Array α}(h:x.size=2):∃a b,x=#[a,b]:=⟨x[0],x[1],by
 apply Aat<;>simp[h];intro i h1;have:i=0\/i=1:=by omega
 rcases this with rfl|rfl<;>exactλ_=>rfl⟩
def cf.inv1{R:α->β->Prop}{a:α}{b:β}(h:cf R #[a] #[b]):R a b:=h.2 0 (by simp) (by simp)
def cf.inv2{R:α->β->Prop}{a c:α}{b d:β}(h:cf R #[a,c] #[b,d]):R a b/\R c d:=⟨h.2 0 (by simp) (by simp),h.2 1 (by simp) (by simp)⟩
def Sim.builtin(ζ:Env P F C G)(b:Builtin)(ts:Array ώ)(t:ώ)(cs:Array Bool){x x':Array z}(hx:aV Z x x')(hb:wN P ts x.size b=D):
 Sim (tw P F) P C Z (lQ C) (Go.builtin b ts t cs x) (Go.builtin b ts t cs x'):=by
 have h1:x.size=1->∃a a',x=#[a]/\x'=#[a']/\aj Z a a':=λh=>by obtain⟨a,rfl⟩:=XR h;obtain⟨a',rfl⟩:=XR (hx.1.symm.trans h);exact⟨a,a',rfl,rfl,hx.inv1⟩
 have h2:x.size=2->∃a b a' b',x=#[a,b]/\x'=#[a',b']/\aj Z a a'/\aj Z b b':=λh=>by obtain⟨a,b,rfl⟩:=Zh h;obtain⟨a',b',rfl⟩:=Zh (hx.1.symm.trans h);exact⟨a,b,a',b',rfl,rfl,hx.inv2⟩
 cases b<;>simp only[wN,Ä,beq_iff_eq,reduceCtorEq] at hb;case len=>obtain⟨a,a',rfl,rfl,ha⟩:=h1 hb;exact Sim.val (Sim.len ts t ha)
 case max=>exact Sim.val (Sim.max ts t hx)
 case min=>exact Sim.val (Sim.min ts t hx)
 case copy=>obtain⟨a,b,a',b',rfl,rfl,ha,hb⟩:=h2 hb;exact Sim.val (Sim.copy ts t ha hb)
 case clear=>obtain⟨a,a',rfl,rfl,ha⟩:=h1 hb;exact Sim.val (Sim.clear ζ.tV ts t ha)
 case append=>obtain⟨a,b,a',b',rfl,rfl,ha,hc⟩:=h2 hb.1;refine Sim.val (Sim.append ζ.tV ts t (λu hu k hk=>?_) ha hc);have:=hb.2;simp[TN,hu,hk] at this
def Xx{x:Array î}(h:x.all (pR G)=D){o:î}(ho:o∈x):pR G o=D:=by simpa using ħ.1 h o ho
def Jl(h:re G Z e e'){x:Array î}(hx:x.all (pR G)=D):aV Z (x.map e) (x.map e'):=by refine⟨by simp,λi h1 h2=>?_⟩;simp only[Aap];exact h _ (Xx hx (Aab _))
def Xu(h:re G Z e e'){x:Array (Nat×î)}(hx:∀p∈x,pR G p.2=D):cf (Bp Z) (x.map λ(i,o)=>(i,e o)) (x.map λ(i,o)=>(i,e' o)):=by refine⟨by simp,λi h1 h2=>?_⟩;simp only[Aap];exact⟨rfl,h _ (hx _ (Aab _))⟩
def PI(h:re G Z e e'){x:Option î}(hx:∀o,x=J o->pR G o=D):fK (aj Z) (x.map e) (x.map e'):=by
 cases x with
 |none=>exact .none
 |some o=>exact .some (h _ (hx o rfl))
def ep.execOp(ζ:Env P F C G)(o:Oper)(ho:k8 P G o=D)(h:re G Z e e'):ep (tw P F) P C Z (lQ C) (Go.execOp e o) (Go.execOp e' o):=by
 unfold k8 at ho;rw[Ä] at ho;obtain⟨eT,ag⟩:=ho;unfold Go.execOp;have hr:=ζ.tV;have mem:∀x,x∈o.op.operands->aj Z (e x) (e' x):=λx hx=>h x (Xx eT hx)
 have yd:∀x,x∈o.op.operands->pR G x=D:=λx hx=>Xx eT hx;generalize o.op=op at *;cases op<;>try(simp[jA] at ag;done)
 case move x=>exact Sim.ml (Sim.pure' λ_ l=>.value ((mem x (by simp[Ã])).mono l))
 case assign x=>exact Sim.ml (Sim.pure' λ_ l=>.value ((mem x (by simp[Ã])).mono l))
 case pick c a b=>
  refine Sim.ml (Sim.cO (Sim.asBool (mem c (by simp[Ã]))) λcF l1 x=>Sim.pure' λbQ l2=>.value ?_);cases x
  ·exact(mem b (by simp[Ã])).mono (Ren.le_trans l1 l2)
  ·exact(mem a (by simp[Ã])).mono (Ren.le_trans l1 l2)
 case alloc t=>exact Sim.lK (Sim.alloc hr t)
 case box t x=>exact Sim.lK (Sim.box t (mem x (by simp[Ã])))
 case build t ps=>exact Sim.lK (Sim.build hr t (Xu h λp hp=>yd p.2 (by simp[Ã];exact⟨p.1,hp⟩)))
 case buildSlice t n ps=>exact Sim.lK (Sim.buildSlice hr t n (Xu h λp hp=>yd p.2 (by simp[Ã];exact⟨p.1,hp⟩)))
 case load t a=>exact Sim.lK (Sim.loadAt t (mem a (by simp[Ã])))
 case store t a x=>exact Sim.Q2 (Sim.storeAt t (mem a (by simp[Ã])) (mem x (by simp[Ã])))
 case binOp bop t x y yt=>
  refine Sim.lK (Sim.amL (n:=20) bop t (λhq=>?_) x y (mem x (by simp[Ã])) (mem y (by simp[Ã])));simp only[jA,DZ,Bool.or_eq_true,Ä,Bool.not_eq_true'] at ag;rcases ag with ag|ag
  ·rcases hq with rfl|rfl<;>simp[WV] at ag
  ·exact ag
 case unOp u t x=>
  cases u<;>try(simp[jA] at ag;done)
  exact Sim.lK (Sim.not (mem x (by simp[Ã])))
 case nilCheck x=>
  have hx:=mem x (by simp[Ã]);simp only;generalize e x=v at hx |-;generalize e' x=v' at hx |-;have xW:=hx;have np:∀ {s':Sem Next},ep (tw P F) P C Z (lQ C) (Go.runtimePanic .nilDeref:Sem Next) s':=Sim.ml (Sim.never λw a aa T=>oV (P':=tw P F) (α:=Next) .nilDeref w a aa T)
  cases hx;case func fn fn' _ _ _ _ hf _ _ _ _=>cases hf<;>exact Sim.ml (Sim.pure' λ_ l=>.value (aj.mono l xW))
  case ptrNone=>exact np
  case nilIface=>exact np
  case nilFunc=>exact np
  case fjunk=>exact np
  case junk h hb hc=>
   have hv:aj Z (μ #[]) v':=.junk h hb hc;have ok:ep (tw P F) P C Z (lQ C) (Ϩ (Ţ (μ #[])):Sem Next) (Ϩ (Ţ v')):=Sim.ml (Sim.pure' λ_ l=>.value (aj.mono l hv))
   cases v';case pointer x=>
    cases x
    ·exact absurd rfl hc.1
    ·exact ok
   case nilIface=>exact absurd rfl hc.2.1
   case nilFunc=>exact absurd rfl hc.2.2.1
   case func f x y=>exact absurd rfl (hc.2.2.2 f x y)
   all_goals exact ok
  all_goals exact Sim.ml (Sim.pure' λ_ l=>.value (aj.mono l xW))
 case convert s d x=>
  refine Sim.lK (Sim.convert s d ?_ (mem x (by simp[Ã])));simp only[jA,BJ] at ag;split at ag
  ·exact .ints _ _ (by assumption) (by assumption)
  ·unfold BC at ag;split at ag
   ·exact .bytes _ (by assumption) (by assumption) (by assumption)
   ·cases ag
  ·cases ag
 case makeFunc fn a b=>
  cases fn<;>try(simp[jA] at ag;done)
  have ha:a.all (pR G)=D:=ħ.2 λx hx=>by simpa using yd x (by simp[Ã,hx])
  have hb:b.all (pR G)=D:=ħ.2 λx hx=>by simpa using yd x (by simp[Ã,hx])
  exact Sim.lK (Sim.makeFunc _ (Jl h ha) (Jl h hb))
 case makeMap t r=>
  cases r with
  |some=>simp[jA] at ag
  |none=>exact Sim.lK (Sim.ak9 t)
 case makeSlice t l c=>exact Sim.lK (Sim.makeSlice hr t (mem l (by simp[Ã])) (mem c (by simp[Ã])))
 case slice t x lo hi mx=>exact Sim.lK (Sim.sliceAt t (mem x (by simp[Ã])) (PI h λo hx=>yd o (by subst hx;simp[Ã])) (PI h λo hx=>yd o (by subst hx;simp[Ã])) (PI h λo hx=>yd o (by subst hx;simp[Ã])))
 case fieldAddr s x i=>
  refine Sim.lK (Sim.fieldAt s (mem x (by simp[Ã])) i λfs f h1 h2=>?_);simp only[jA,D7,h1,h2] at ag;cases hi: P.info? f.type with
  |none=>rw[hi] at ag;cases ag
  |some info=>exact⟨info,rfl,by rw[hi] at ag;simpa using ag⟩
 case field t x i=>exact Sim.lK (Sim.field t (mem x (by simp[Ã])) i)
 case indexAddr t x i=>exact Sim.lK (Sim.indexAt t (mem x (by simp[Ã])) (mem i (by simp[Ã])))
 case index t x i=>exact Sim.lK (Sim.index t (mem x (by simp[Ã])) (mem i (by simp[Ã])))
 case lookup t x i ok=>refine Sim.lK (Sim.lookup hr t (λk el hk=>⟨20,?_⟩) ok (mem x (by simp[Ã])) (mem i (by simp[Ã])));simpa [jA,AH,hk] using ag
 case mapUpdate t m k x=>refine ep.acJ (f:=λ_=>Adn) (g:=λ_=>Adn) (ep.mapUpdate t (λk el hk=>⟨20,?_⟩) (mem m (by simp[Ã])) (mem k (by simp[Ã])) (mem x (by simp[Ã]))) λ_ _ _ _=>.skip;simpa [jA,AH,hk] using ag
 case extract x i=>exact Sim.lK (Sim.extract (mem x (by simp[Ã])) i)
 case call c=>
  obtain⟨callee,args,ts⟩:=c;have ha:args.all (pR G)=D:=ħ.2 λx hx=>by simpa using yd x (by simp[Ã,Call.operands,hx])
  cases callee with
  |invoke=>simp[jA] at ag
  |value f=>exact(Sim.CG ζ (mem f (by simp[Ã,Call.operands])) (Jl h ha)).ml|builtin b=>exact(Sim.builtin ζ b ts _ _ (Jl h ha) (by simpa [jA] using ag)).ml
end
end Go.Sim
namespace Go.Sim
open Go
section
variable {P:ϗ}{F:Array Ç}{C:bX}{G:Nat->Bool}{Z:Ren}
def Sim.enterLoop(fn:Æ){t t':Array z}(ht:aV Z t t')(ps:Array Tmp){a b:Ϙ}(ha:C.clean a)(hb:C.clean b){r r':Option Nat}(T:fK Z r r'):
 Sim (tw P F) P C Z (λZ x y=>Z x.1 y.1/\gR (uD Z) x.2 y.2) (Adc fn t ps a b r) (Adc fn t' ps a b r'):=by
 have last:∀ {cF:Ren},Z.le cF->∀ {d d':Nat},cF d d'->∀ {m m':List Ê},gR (uD cF) m m'->Sim (tw P F) P C cF (λZ x y=>Z x.1 y.1/\gR (uD Z) x.2 y.2)
  (do Ϩ (<-Go.newObj (.loop {state:=.ready,pending:=H,fn,tmps:=t,params:=ps,assign:=a,body:=b,defers:=d}),m))
  (do Ϩ (<-Go.newObj (.loop {state:=.ready,pending:=H,fn,tmps:=t',params:=ps,assign:=a,body:=b,defers:=d'}),m')):=by
  intro cF l1 d d' hd m m' hm;refine Sim.bind' (Sim.newObj (.loop (.mk _ _ _ _ _ _ (ht.mono l1) hd ha hb (by simp)))) λbQ l2 x y hxy=>Sim.pure' λeA l3=>⟨l3 _ _ hxy,?_⟩
  exact hm.mono λ_ _ h=>by cases h with|collected h=>exact .collected (l3 _ _ (l2 _ _ h))
 unfold Adc;cases T with
 |none=>simp only[pure_bind];exact Sim.bind' (Sim.newObj .calls) λcF l1 x y hxy=>last l1 hxy (.cons (.collected hxy) .nil)
 |some h=>
  simp only[pure_bind];refine Sim.bind' (Sim.getLoop h) λcF l1 o o' hl=>?_;cases hl with
  |mk st qP fn ps qi body ht hd ha hb hp=>exact last l1 hd .nil
def Sim.beginRound{l l':Nat}(h:Z l l'):Sim (tw P F) P C Z (λ_ _ _=>True) (Ade l) (Ade l'):=by
 unfold Ade;refine Sim.bind' (Sim.getLoop h) λcF l1 o o' hl=>?_;cases hl with
 |mk st qP fn ps qi body ht hd ha hb hp=>
  refine Sim.bind' (Sim.setObj (l1 _ _ h) (.loop (.mk _ _ _ _ _ _ ht hd ha hb hp))) λbQ l2 _ _ _=>?_;cases st
  ·exact Sim.pure' λ_ _=>trivial
  all_goals exact Sim.never (oV _)
def Sim.endRound{l l':Nat}(h:Z l l')(j:Option Ϙ)(hj:∀c,j=J c->C.clean c):Sim (tw P F) P C Z aj (Adf l j) (Adf l' j):=by
 unfold Adf;refine Sim.bind' (Sim.getLoop h) λcF l1 o o' hl=>?_;cases hl with
 |mk st qP fn ps qi body ht hd ha hb hp=>exact Sim.bind' (Sim.setObj (l1 _ _ h) (.loop (.mk _ _ _ _ _ _ ht hd ha hb hj))) λbQ l2 _ _ _=>Sim.pure' λ_ _=>.bool _
def Sim.endLoop{l l':Nat}(h:Z l l'):Sim (tw P F) P C Z (λ_ a b=>a=b/\∀c,a=J c->C.clean c) (Adg l) (Adg l'):=by
 unfold Adg;refine Sim.bind' (Sim.getLoop h) λcF l1 o o' hl=>?_;cases hl with
 |mk st qP fn ps qi body ht hd ha hb hp=>
  simp only;split
  ·exact Sim.never (bH.bind (oV _))
  ·exact Sim.bind' (Sim.setObj (l1 _ _ h) (.loop (.mk _ _ _ _ _ _ ht hd ha hb hp))) λbQ l2 _ _ _=>Sim.pure' λ_ _=>⟨rfl,hp⟩
def Sim.takeDeferred{l l':Nat}(h:Z l l'):Sim (tw P F) P C Z (λ_ a b=>a=[]/\b=[]) (Ŝ l) (Ŝ l'):=by
 unfold Ŝ;refine Sim.bind' (Sim.getObj h) λcF l1 o o' ro=>?_;cases ro;case calls=>exact Sim.bind' (Sim.setObj (l1 _ _ h) .FY) λbQ l2 _ _ _=>Sim.pure' λ_ _=>⟨rfl,rfl⟩
 all_goals exact Sim.stuck
def Sim.results(fn:Ç){t t':Array z}(ht:aV Z t t'):Sim (tw P F) P C Z aj (Go.results fn t) (Go.results fn t'):=by
 unfold Go.results;have:∀(l:List ResultVar) {cF:Ren},Z.le cF->Sim (tw P F) P C cF (λZ=>gR (aj Z)) (l.mapM λ
  | .tmp x=>Ϩ (t.getD x L)
  | .cell a ty=>do Go.loadVar ty (<-Go.asAddr (t.getD a L)))
  (l.mapM λ
    | .tmp x=>Ϩ (t'.getD x L)
    | .cell a ty=>do Go.loadVar ty (<-Go.asAddr (t'.getD a L))):=by
  intro l;induction l with
  |nil=>intro cF l1;simp only[List.mapM_nil];exact Sim.pure' λ_ _=>.nil
  |cons r l ih=>
   intro cF l1;simp only[List.mapM_cons];refine Sim.bind' (R:=aj) ?_ λbQ l2 v v' hv=>Sim.bind' (ih (Ren.le_trans l1 l2)) λeA l3 x x' hx=>Sim.pure' λmq l4=>.cons (hv.mono (Ren.le_trans l3 l4)) (hx.mono λ_ _ h=>h.mono l4);cases r with
   |tmp x=>exact Sim.pure' λbQ l2=>cf.getD (ht.mono (Ren.le_trans l1 l2)) x .undef
   |cell a ty=>exact Sim.bind' (Sim.asAddr (cf.getD (ht.mono l1) a .undef)) λbQ l2 _ _ hab=>Sim.loadVar ty hab
 rw[ķ,ķ,map_eq_pure_bind,map_eq_pure_bind,bind_assoc,bind_assoc];refine Sim.bind' (this fn.results.toList Z.le_refl) λcF l1 x x' hx=>?_;simp only[pure_bind];refine Sim.pure' λbQ l2=>?_;have hx:=hx.mono λ_ _ h=>aj.mono l2 h;cases hx with
 |nil=>exact aj.tuple' .empty
 |cons hab t=>
  cases t with
  |nil=>exact hab|cons hcd t=>exact aj.tuple' (cf.amA (.cons hab (.cons hcd t)))
end
end Go.Sim
namespace Go.Sim
open Go
structure Tl where
 code:Ϙ
 items:List Item
 defers:List Ê
 callers:List ϝ
 kind:CallKind
def dt:Ϙ:=.refuse ""
def cQ:Ê:={target:=.fn (.method "") #[],args:=#[]}
inductive Cut(C:bX)(S:Tl):Ϙ->Ϙ->Prop
 |stop:Cut C S dt S.code
 |seq {a b b':Ϙ} (ha:C.clean a) (hb:Cut C S b b'):Cut C S (.seq a b) (.seq a b')
inductive mA(C:bX)(S:Tl)(Z:Ren):Item->Item->Prop
 |code (c:Ϙ) (h:C.clean c):mA C S Z (.code c) (.code c)
 |cut {c c':Ϙ} (h:Cut C S c c'):mA C S Z (.code c) (.code c')
 |inBlock (id:Nat):mA C S Z (.inBlock id) (.inBlock id)
 |inLoop (c:Ϙ) (h:C.clean c):mA C S Z (.inLoop c) (.inLoop c)
 |inScope (c:Ϙ) (h:C.clean c):mA C S Z (.inScope c) (.inScope c)
 |inRegion (id:Nat) (d:Bool) (ops:Array Oper) (todo:List Nat) (h:C.clean (.region id ops d)):mA C S Z (.inRegion ops todo) (.inRegion ops todo)
 |inRangeFunc {l l':Nat} (h:Z l l'):mA C S Z (.inRangeFunc l) (.inRangeFunc l')
 |endRangeFunc {l l':Nat} (h:Z l l'):mA C S Z (.endRangeFunc l) (.endRangeFunc l')
 |beginRound:mA C S Z .beginRound .beginRound
def mA.mono{C:bX}{S:Tl}{Z ax:Ren}(h:Z.le ax){a b:Item}(x:mA C S Z a b):mA C S ax a b:=by
 cases x with
 |code c hc=>exact .code c hc
 |cut hc=>exact .cut hc
 |inBlock id=>exact .inBlock id
 |inLoop c hc=>exact .inLoop c hc
 |inScope c hc=>exact .inScope c hc
 |inRegion id d ops todo hc=>exact .inRegion id d ops todo hc
 |inRangeFunc hl=>exact .inRangeFunc (h _ _ hl)
 |endRangeFunc hl=>exact .endRangeFunc (h _ _ hl)
 |beginRound=>exact .beginRound
def uD.mono{Z ax:Ren}(h:Z.le ax){a b:Ê}(x:uD Z a b):uD ax a b:=by
 cases x with|collected T=>exact .collected (h _ _ T)
inductive py(C:bX)(S:Tl)(Z:Ren):Bool->List Item->List Item->Prop
 |nil:py C S Z U [] []
 |stop:py C S Z D [.code dt] S.items
 |cons {b:Bool} {i i':Item} {k k':List Item} (h:mA C S Z i i') (t:py C S Z b k k'):py C S Z b (i::k) (i'::k')
inductive kM(S:Tl)(Z:Ren):Bool->List Ê->List Ê->Prop
 |nil:kM S Z U [] []
 |stop:kM S Z D [cQ] S.defers
 |cons {b:Bool} {d d':Ê} {k k':List Ê} (h:uD Z d d') (t:kM S Z b k k'):kM S Z b (d::k) (d'::k')
def py.mono{C:bX}{S:Tl}{Z ax:Ren}(h:Z.le ax){b:Bool}{k k':List Item}(x:py C S Z b k k'):py C S ax b k k':=by
 induction x with
 |nil=>exact .nil
 |stop=>exact .stop
 |cons hi _ ih=>exact .cons (hi.mono h) ih
def kM.mono{S:Tl}{Z ax:Ren}(h:Z.le ax){b:Bool}{k k':List Ê}(x:kM S Z b k k'):kM S ax b k k':=by
 induction x with
 |nil=>exact .nil
 |stop=>exact .stop
 |cons hi _ ih=>exact .cons (hi.mono h) ih
def kM.app{S:Tl}{Z:Ren}{m m' k k':List Ê}(h:gR (uD Z) m m')(x:kM S Z b k k'):kM S Z b (m++k) (m'++k'):=by
 induction h with
 |nil=>exact x
 |cons hd _ ih=>exact .cons hd ih
inductive LM:FrameMode->Prop
 |run:LM .run
 |returning:LM .returning
structure Fit(C:bX)(ψ:CallKind)(b:Bool)(f:Æ)(r:Option Nat)(m:FrameMode)(fl:CallKind):Prop where
 ok:b=U->r=H->C.ok f=D
 base:b=D->r=H
 round:r≠H->m=.run
 kind:b=U->fl=.normal
 early:(fl==.early)=U
 DJ:b=D->fl=ψ
inductive ee(C:bX)(S:Tl)(Z:Ren)(b:Bool):ϝ->ϝ->Prop
 |mk (f:Æ) {t t':Array z} (ht:aV Z t t') {k k':List Item} (hk:py C S Z b k k') {d d':List Ê} (hd:kM S Z b d d')
   {m:FrameMode} (hm:LM m) {r r':Option Nat} (T:fK Z r r') {fl:CallKind} (hf:Fit C S.kind b f r m fl):ee C S Z b ⟨f,t,k,d,m,.normal,r⟩ ⟨f,t',k',d',m,fl,r'⟩
def ee.mono{C:bX}{S:Tl}{Z ax:Ren}(h:Z.le ax){q:Bool}{a b:ϝ}(x:ee C S Z q a b):ee C S ax q a b:=by
 cases x with
 |mk f ht hk hd hm T hf=>
  refine .mk f (ht.mono h) (hk.mono h) (hd.mono h) hm ?_ hf;cases T with
  |none=>exact .none|some T=>exact .some (h _ _ T)
inductive Below(C:bX)(S:Tl)(Z:Ren):Bool->List ϝ->List ϝ->Prop
 |base:Below C S Z D [] S.callers
 |call {b:Bool} {fr ba:ϝ} {cs bu:List ϝ} (h:ee C S Z b fr ba) (aw:fr.todo≠ [.code dt]) (t:Below C S Z b cs bu):Below C S Z U (fr::cs) (ba::bu)
def Below.mono{C:bX}{S:Tl}{Z ax:Ren}(h:Z.le ax){q:Bool}{a b:List ϝ}(x:Below C S Z q a b):Below C S ax q a b:=by
 induction x with
 |base=>exact .base
 |call hf aw _ ih=>exact .call (hf.mono h) aw ih
abbrev aT(fr:ϝ)(cs:List ϝ):ϐ:={frame:=fr,callers:=cs,status:=.running,dying:=H}
inductive uG(P P':ϗ)(C:bX)(S:Tl)(Z:Ren):ϐ->ϐ->Prop
 |inside {b:Bool} {fr ba:ϝ} {cs bu:List ϝ} (h:ee C S Z b fr ba) (hL:Below C S Z b cs bu):uG P P' C S Z (aT fr cs) (aT ba bu)
 |hole {b:Bool} (f:Æ) (hf:C.hole f=D) {x x':Array z} (hx:aV Z x x') {fr ba:ϝ} {cs bu:List ϝ} (h:ee C S Z b fr ba) (aw:fr.todo≠ [.code dt]) (hL:Below C S Z b cs bu):
   uG P P' C S Z (aT (à P' f x .normal) (fr::cs)) (aT (à P f x' .normal) (ba::bu))
section
variable {P:ϗ}{F:Array Ç}{C:bX}{S:Tl}{G:Nat->Bool}{Z:Ren}
def mA.TO{c c':Ϙ}(h:Cut C S c c'):c=dt\/∃a b b',c=.seq a b/\c'=.seq a b'/\C.clean a/\Cut C S b b':=by
 cases h with
 |stop=>exact .inl rfl
 |seq ha hb=>exact .inr ⟨_,_,_,rfl,rfl,ha,hb⟩
def D9(h:ee C S Z q fr ba)(hv:aj Z v v')(aw:fr.todo≠ [.code dt]):ee C S Z q (fr.finish v) (ba.finish v'):=by
 cases h with
 |mk f ht hk hd hm T hf=>
  cases hk with
  |nil=>exact .mk f ht .nil hd hm T hf|stop=>exact absurd rfl aw
  |cons hi hk=>
   cases hi with
   |inRegion id d ops todo hc=>
    cases todo with
    |nil=>exact .mk f ht (.cons (.inRegion id d _ _ hc) hk) hd hm T hf
    |cons i rest=>
     unfold ē;simp only;cases(ops[i]?).bind (·.dst) with
     |none=>exact .mk f ht (.cons (.inRegion id d _ _ hc) hk) hd hm T hf|some x=>exact .mk f (cf.set ht _ hv) (.cons (.inRegion id d _ _ hc) hk) hd hm T hf
   |inRangeFunc hl=>exact .mk f ht (.cons (.endRangeFunc hl) hk) hd hm T hf|beginRound=>exact .mk f ht hk hd hm T hf|code c hc=>exact .mk f ht (.cons (.code c hc) hk) hd hm T hf|cut hc=>exact .mk f ht (.cons (.cut hc) hk) hd hm T hf|inBlock id=>exact .mk f ht (.cons (.inBlock id) hk) hd hm T hf|inLoop c hc=>exact .mk f ht (.cons (.inLoop c hc) hk) hd hm T hf|inScope c hc=>exact .mk f ht (.cons (.inScope c hc) hk) hd hm T hf|endRangeFunc hl=>exact .mk f ht (.cons (.endRangeFunc hl) hk) hd hm T hf
def aeX(ζ:Env P F C G)(f:Æ)(hf:C.ok f=D){x x':Array z}(hx:aV Z x x'):ee C S Z U (à (tw P F) f x .normal) (à P f x' .normal):=by obtain⟨fn,c,h1,h2,h3,h4,h5⟩:=ζ.get f hf;have e1:(tw P F).funcs[f]?=J fn:=h1;unfold à;simp only[e1,h2,h3,Option.map_some,Option.bind_some,Option.getD_some];rw[<-hx.1];exact .mk f (hx.append (cf.refl λa ha=>by rw[(Aav.1 ha).2];exact .undef)) (.cons (.code c ((ζ.clean c).2 h4)) .nil) .nil .run .none ⟨λ_ _=>hf,by simp,by simp,λ_=>rfl,rfl,λh=>by simp at h⟩
def Ec{t:Array z}{f:Æ}{k k':List Item}{d d':List Ê}{m:FrameMode}{r r':Option Nat}{kd fl:CallKind}(hG:∀g,G g=D->Z g g)(ht:aV Z t t'):
 re G Z (á ⟨f,t,k,d,m,kd,r⟩) (á ⟨f,t',k',d',m,fl,r'⟩):=by
 intro x hx;cases x with
 |tmp t=>exact cf.getD ht _ .undef
 |const v=>exact(Uf 10 hx).rel Z
 |global g=>exact .ptr ⟨hG g hx,rfl,rfl⟩
 |func f=>exact .func (.func f) rfl (by simp) rfl (by simp)
def Plain(g:ϐ):Prop:=(∃fr cs,g=aT fr cs)/\∀ch,g.frame.mode≠ .panicking ch
def dO(P:ϗ)(F:Array Ç)(C:bX)(S:Tl)(Z:Ren)(w w':N)(s s':Ą):Prop:=
 ∀dP aa es,s=.go dP aa es->Plain dP->∃bM eB aF es',s'=.go eB aF es'/\uG P (tw P F) C S bM dP eB/\cg C bM aa aF/\Trans Z bM w w' aa aF/\∀e∈es',rf bM w e
def dO.pure(hw:iP C Z w w')(h:uG P (tw P F) C S Z g g'):dO P F C S Z w w' (.go g w es) (.go g' w' #[]):=by intro dP aa es e _;cases e;exact⟨Z,_,_,_,rfl,h,hw.core,Trans.refl ..,by simp⟩
def dO.ended{w w' au:N}{o:Outcome}{es:Array Ø}{s':Ą}:dO P F C S Z w w' (.ended o au es) s':=by intro dP aa es e;cases e
def mem_seen(h:e∈seen p fn es):e∈es:=by
 unfold seen at h;simp only at h;rw[<-Aar] at h;have:∀(l:List Ø) (q:Bool) (kept:Array Ø),e∈(l.foldl (init:=(q,kept)) λ(x:Bool×Array Ø) e=>
  match x with
  | (q,kept)=>match e.loc with
    | .mark (.extern f)=>((p.funcs[f]?).any (·.norace),kept)
    |_=>(q,if q && !e.sync then kept else kept.push e)).2->e∈l\/e∈kept:=by
  intro l;induction l with
  |nil=>intro q kept h;exact .inr h
  |cons a l ih=>
   intro q kept h;simp only[List.foldl_cons] at h;split at h
   ·rcases ih _ _ h with h|h
    ·exact .inl (by simp[h])
    ·exact .inr h
   ·rcases ih _ _ h with h|h
    ·exact .inl (by simp[h])
    ·split at h
     ·exact .inr h
     ·rcases Array.mem_push.1 h with h|h
      ·exact .inr h
      ·exact .inl (by simp[h])
 rcases this _ _ _ h with h|h
 ·simpa using h
 ·simp at h
end
def raise_mode(fr:ϝ)(vs:List Abt):∃ch,(fr.raise vs).mode=.panicking ch:=by unfold Ack;split<;>exact⟨_,rfl⟩
def L4{es':Array Ø}{s:Ą}(h:â es s=.go g w es'):∃e,s=.go g w e:=by
 cases s<;>simp only[â,reduceCtorEq,Ĭ] at h;obtain⟨rfl,rfl,_⟩:=h;exact⟨_,rfl⟩
section
variable {P:ϗ}{F:Array Ç}{C:bX}{S:Tl}{G:Nat->Bool}{Z:Ren}
def aeQ(ζ:Env P F C G)(fr:ϝ)(cs:List ϝ)(d:Option Dying)(g:Nat)(w:N):∃o w' es,early (tw P F) fr cs d g w=.ended o w' es:=by unfold early;simp only[ζ.ahead,ζ.steps g,Aa4,è,if_false];exact⟨_,_,_,rfl⟩
def aeV{d:Option Dying}(h:endFatal p fr cs d m w=.go g aa es):∀fr cs,g≠aT fr cs:=by
 unfold endFatal at h;simp only at h;split at h
 ·unfold dieOf at h;simp only[Ĭ] at h;obtain⟨rfl,_⟩:=h;intro fr cs e;simp at e
 ·cases h
 ·cases h
def aeW(h:endThrow fr m w=.go g aa es):∀fr cs,g≠aT fr cs:=by unfold endThrow dieOf at h;simp only[Ĭ] at h;obtain⟨rfl,_⟩:=h;intro fr cs e;simp at e
def Ma(ζ:Env P F C G)(hw:iP C Z w w')(cq:ee C S Z q fr ba)(aw:fr.todo≠ [.code dt])(hL:Below C S Z q cs bu)
 {s':Sem Next}(V:ep (tw P F) P C Z (lQ C) s s')(b:Bool):
 dO P F C S Z w w' (Ù (tw P F) b fr cs H s w) (Ù P D ba bu H s' w'):=by
 intro dP aa es h hg;obtain⟨⟨kS,mJ,rfl⟩,hm⟩:=hg;have key:∃pr:ě Next×Array Ø,pr.1=s.run (tw P F) w/\(if b=D then s.runT (tw P F) w #[] else(s.run (tw P F) w,#[]))=pr:=⟨_,by cases b<;>simp,rfl⟩
 obtain⟨⟨r,es0⟩,e1,e2⟩:=key;unfold Ù at h;simp only[e2] at h;obtain⟨es1,h⟩:=L4 h;simp only at e1;cases T:s.run (tw P F) w with
 |halt x au=>
  rw[T] at e1;subst e1;exfalso;cases x with
  |panic v=>simp only[Ĭ,aT,Aco] at h;obtain⟨⟨rfl,_⟩,_⟩:=h;obtain⟨ch,e⟩:=raise_mode fr [{v,recovered:=U}];exact hm ch e
  |goexit=>simp only[Ĭ,aT,Aco] at h;obtain⟨⟨rfl,_⟩,_⟩:=h;obtain⟨ch,e⟩:=raise_mode fr [goexitEntry];exact hm ch e
  |blocked=>simp[aT] at h
  |waiting=>simp[aT] at h
  |exit=>simp at h
  |fatal m=>exact aeV h _ _ rfl|throw m=>exact aeW h _ _ rfl
  |unsupported u=>
   by_cases hu:∃g,u=.initOrder g
   ·obtain⟨g,rfl⟩:=hu;obtain⟨o,w',es,e⟩:=aeQ ζ fr cs H g au;simp only[e] at h;cases h
   ·cases u<;>first| (exact hu ⟨_,rfl⟩) | (simp at h)
  |stuck=>simp at h
 |ok n au=>
  rw[T] at e1;subst e1;obtain⟨bM,n',eF,eM,k1,k2,k3,k4,k5⟩:=V Z Z.le_refl w w' #[] hw n au T;have nI:=cq.mono k4.le;have oG:=hL.mono k4.le;have sub:∀e∈seen P ba.fn (if(ba.kind==CallKind.early)=D then #[] else eM),rf bM w e:=λe he=>by
   have:=mem_seen he;split at this
   ·simp at this
   ·exact k5 e this
  unfold Ù;simp only[if_true,k1,Array.empty_append];cases k2 with
  |value hv=>simp only[Ĭ] at h;obtain⟨e,rfl,_⟩:=h;rw[<-e];exact⟨bM,_,_,_,rfl,.inside (D9 nI hv aw) oG,k3,k4,by simpa using sub⟩
  |skip=>simp only[Ĭ] at h;obtain⟨e,rfl,_⟩:=h;rw[<-e];exact⟨bM,_,_,_,rfl,.inside (D9 nI .undef aw) oG,k3,k4,by simpa using sub⟩
  |enter f hf hx=>
   simp only[Ĭ] at h;obtain⟨e,rfl,_⟩:=h;rw[<-e];have fin:=uG.inside (P:=P) (P':=tw P F) (aeX (S:=S) ζ f hf hx) (.call nI aw oG);cases cq with
   |mk f0 ht hk hd VQ X2 Iz=>
    cases hk with
    |nil=>exact⟨bM,_,_,_,rfl,fin,k3,k4,by simpa using sub⟩|stop=>exact absurd rfl aw|cons hi hk=>cases hi<;>exact⟨bM,_,_,_,rfl,fin,k3,k4,by simpa using sub⟩
  |hole f hf hx=>
   simp only[Ĭ] at h;obtain⟨e,rfl,_⟩:=h;rw[<-e];have fin:=uG.hole (P:=P) (P':=tw P F) f hf hx nI aw oG;cases cq with
   |mk f0 ht hk hd VQ X2 Iz=>
    cases hk with
    |nil=>exact⟨bM,_,_,_,rfl,fin,k3,k4,by simpa using sub⟩|stop=>exact absurd rfl aw|cons hi hk=>cases hi<;>exact⟨bM,_,_,_,rfl,fin,k3,k4,by simpa using sub⟩
  |round hl f hx ha hb=>simp only[Ĭ] at h;obtain⟨e,rfl,_⟩:=h;rw[<-e];exact⟨bM,_,_,_,rfl,.inside (.mk f hx (.cons (.code _ ha) (.cons .beginRound (.cons (.code _ hb) .nil))) .nil .run (.some hl) ⟨by simp,by simp,by simp,λ_=>rfl,rfl,λh=>by simp at h⟩) (.call nI aw oG),k3,k4,by simpa using sub⟩
end
end Go.Sim
namespace Go.Sim
open Go
section
variable {P:ϗ}{F:Array Ç}{C:bX}{S:Tl}{G:Nat->Bool}{Z:Ren}
def dO.step{w w' au eF:N}{bM:Ren}(ht:Trans Z bM w w' au eF){eM es:Array Ø}(hn:∀e∈eM,rf bM w e){s s':Ą}(h:dO P F C S bM au eF s s'):
 dO P F C S Z w w' (â es s) (â eM s'):=by
 intro dP aa es1 e hp;obtain⟨e2,e⟩:=L4 e;obtain⟨Dj,eB,aF,es',h1,h2,h3,h4,h5⟩:=h dP aa e2 e hp;refine⟨Dj,eB,aF,eM++es',by rw[h1];rfl,h2,h3,ht.trans h4,λx hx=>?_⟩;rcases Aad.1 hx with hx|hx
 ·exact(hn x hx).mono h4.le
 ·exact(h5 x hx).back ht
def dO.vS(hw:iP C Z w w'){R:Ren->α->β->Prop}{s:Sem α}{s':Sem β}(V:Sim (tw P F) P C Z R s s')
 {k:ě α->Ą}{k':ě β->Ą}(hh:∀h au g aa es,k (.halt h au)=.go g aa es->¬Plain g)
 (hk:∀bM au eF a b,Z.le bM->iP C bM au eF->R bM a b->dO P F C S bM au eF (k (.ok a au)) (k' (.ok b eF))):
 dO P F C S Z w w' (â (seen (tw P F) fn (s.runT (tw P F) w #[]).2) (k (s.runT (tw P F) w #[]).1)) (â (seen P fn (s'.runT P w' #[]).2) (k' (s'.runT P w' #[]).1)):=by
 rw[Ady];cases T:s.run (tw P F) w with
 |halt x au=>intro dP aa es e hp;obtain⟨e2,e⟩:=L4 e;exact(hh _ _ _ _ _ e hp).elim
 |ok a au=>obtain⟨bM,b,eF,eM,k1,k2,k3,k4,k5⟩:=V Z Z.le_refl w w' #[] hw a au T;rw[k1];exact dO.step k4 (λe he=>k5 e (by simpa using mem_seen he)) (hk bM au eF a b k4.le k3 k2)
def TT(hw:iP C Z w w')(cq:ee C S Z U fr ba)(hL:Below C S Z U cs bu)(hv:aj Z v v')(m m':Bool):
 dO P F C S Z w w' (ĸ (tw P F) m fr cs H v w) (ĸ P m' ba bu H v' w'):=by
 cases cq with
 |mk f ht hk hd hm T hf=>
  cases hL with
  |call hq aw hL=>have:=hf.kind rfl;subst this;exact dO.pure hw (.inside (D9 hq hv aw) hL)
def afC(id:Nat){k k':List Item}(h:py C S Z b k k'):(exitTo id k=H/\(b=U->exitTo id k'=H))\/∃k₁ CK,exitTo id k=J k₁/\exitTo id k'=J CK/\py C S Z b k₁ CK:=by
 induction h with
 |nil=>exact .inl ⟨rfl,λ_=>rfl⟩
 |stop=>exact .inl ⟨rfl,λh=>by cases h⟩
 |cons hi hk ih=>
  cases hi<;>try exact ih
  case inBlock id'=>
   unfold exitTo;split
   ·exact .inr ⟨_,_,rfl,rfl,hk⟩
   ·exact ih
def aq5(ops:Array Oper){t:Array z}(ht:aV Z t t'):yielded ops t=yielded ops t':=by
 funext j;unfold yielded;cases(ops[j]?).bind (·.dst) with
 |none=>rfl
 |some x=>
  simp only[Option.bind_some];rcases ht.get? x with⟨e1,e2⟩ | ⟨a,b,e1,e2,hab⟩
  ·rw[e1,e2]
  ·rw[e1,e2];cases hab<;>try rfl
   case junk h hb _=>
    cases b<;>first|rfl|exact absurd rfl (hb _)
def amo(p:ϗ)(fr:ϝ)(cs:List ϝ)(dy:Option Dying)(w:N):∃o aa es,Ĩ p fr cs dy cQ w=.ended o aa es:=by unfold Ĩ cQ;simp[Go.invoke,Go.stuck,ϧ,bind,Ϭ,â]
def aqm(ζ:Env P F C G)(hw:iP C Z w w')(cq:ee C S Z b fr ba)(rT:fr.mode=.returning)(hL:Below C S Z b cs bu)(m m':Bool):
 dO P F C S Z w w' (Ð (tw P F) m fr cs H w) (Ð P m' ba bu H w'):=by
 cases cq with
 | @mk f t t' ht k k' hk d d' hd md hm ro jE T fl hf=>
   simp only at rT;subst rT;have E6:ro=H:=by
    rcases Aed ro with e| ⟨x,e⟩
    ·exact e
    ·exact absurd (hf.round (by simp[e])) (by simp)
   subst E6;cases hd with
   |nil=>
    obtain⟨fn,cd,h1,h2,h3,h4,h5⟩:=ζ.get f (hf.ok rfl rfl);have e1:(tw P F).funcs[f]?=J fn:=h1;unfold Ð;simp only[e1,h2];refine dO.vS hw (Sim.results fn ht) (k:=λr=>match r with
     | .ok v w=>ĸ (tw P F) m _ cs H v w
     | .halt (.stuck s) w=>.ended (.stuck s _) w
     | .halt _ w=>.ended (.stuck "return: the result variables cannot be read" _) w) (k':=λr=>match r with
     | .ok v w=>ĸ P m' _ bu H v w
     | .halt (.stuck s) w=>.ended (.stuck s _) w
     | .halt _ w=>.ended (.stuck "return: the result variables cannot be read" _) w) (λh au g aa es e=>?_) λbM au eF a b l2 eL hab=>?_
    ·cases h<;>simp at e
    ·exact TT eL ((ee.mk f ht hk .nil hm T hf).mono l2) (hL.mono l2) hab m m'
   |stop=>intro dP aa es e hp;obtain⟨o,au,arJ,h⟩:=amo (tw P F) (⟨f,t,k,[],.returning,.normal,H⟩) cs H w;have e':Ĩ (tw P F) (⟨f,t,k,[],.returning,.normal,H⟩) cs H cQ w=.go dP aa es:=e;rw[h] at e';cases e'
   |cons hi hd=>
    cases hi with
    |collected hb=>
     refine dO.vS hw (Sim.takeDeferred hb) (k:=λr=>match r with
      | .ok calls w=>.go {frame:={ (⟨f,t,k,_,.returning,.normal,H⟩:ϝ) with defers:=calls++_},callers:=cs,status:=.running,dying:=H} w
      | .halt _ w=>.ended (.stuck "the deferred calls of a range-over-func loop have been taken" _) w) (k':=λr=>match r with
      | .ok calls w=>.go {frame:={ (⟨f,t',k',_,.returning,fl,jE⟩:ϝ) with defers:=calls++_},callers:=bu,status:=.running,dying:=H} w
      | .halt _ w=>.ended (.stuck "the deferred calls of a range-over-func loop have been taken" _) w) (λh au g aa es e=>?_) λbM au eF a b l2 eL hab=>?_
     ·simp at e
     ·obtain⟨rfl,rfl⟩:=hab;exact dO.pure eL (.inside ((ee.mk f ht hk hd hm T hf).mono l2) (hL.mono l2))
def FM(p:ϗ)(main:Bool)(fr:ϝ)(callers:List ϝ)(w:N)(jump:Option Ϙ):Ą:=
 match fr.roundOf with
 |none=>if(match jump with|none|some .ret=>D|_=>U)=D then .go {frame:={fr with mode:=.returning},callers,status:=.running,dying:=H} w else .ended (.stuck "exit, goto: no such block or label" (fr.pos p)) w
 |some l=>
  â (seen p fr.fn ((Adf l jump).runT p w #[]).2)<|match((Adf l jump).runT p w #[]).1 with
  | .ok v w=>ĸ p main fr callers H v w
  | .halt _ w=>.ended (.stuck "range over a function: no such loop" (fr.pos p)) w
def Pz(hw:iP C Z w w')(cq:ee C S Z b fr ba)(hL:Below C S Z b cs bu)(m m':Bool)(j:Option Ϙ)(hj:∀c,j=J c->C.clean c):
 dO P F C S Z w w' (FM (tw P F) m fr cs w j) (FM P m' ba bu w' j):=by
 have ie:=cq;cases cq with
 | @mk f t t' ht k k' hk d d' hd md hm ro jE T fl hf=>
   unfold FM;cases T with
   |none=>
    simp only;split
    ·exact dO.pure hw (.inside (.mk f ht hk hd .returning .none ⟨hf.ok,hf.base,by simp,hf.kind,hf.early,hf.DJ⟩) hL)
    ·exact dO.pure hw (.inside (.mk f ht hk hd .returning .none ⟨hf.ok,hf.base,by simp,hf.kind,hf.early,hf.DJ⟩) hL)
    ·exact dO.ended
   |some hl=>
    have hb:b=U:=by
     cases b with
     |false=>rfl|true=>exact absurd (hf.base rfl) (by simp)
    subst hb;simp only;refine dO.vS hw (Sim.endRound hl j hj) (k:=λr=>match r with
     | .ok v w=>ĸ (tw P F) m _ cs H v w
     | .halt _ w=>.ended (.stuck "range over a function: no such loop" _) w) (k':=λr=>match r with
     | .ok v w=>ĸ P m' _ bu H v w
     | .halt _ w=>.ended (.stuck "range over a function: no such loop" _) w) (λh au g aa es e=>?_) λbM au eF a b l2 eL hab=>?_
    ·simp at e
    ·exact TT eL (ie.mono l2) (hL.mono l2) hab m m'
def afz(ζ:Env P F C G)(hG:∀g,G g=D->Z g g)(hw:iP C Z w w')(cq:ee C S Z q fr ba)(rT:fr.mode=.run)(hL:Below C S Z q cs bu)(m m' b:Bool):
 dO P F C S Z w w' (ϻ (tw P F) m b fr cs H w) (ϻ P m' D ba bu H w'):=by
 have ie:=cq;cases cq with
 | @mk f t t' ht k k' hk d d' hd md hm ro jE T fl hf=>
   simp only at rT;subst rT;have cl:∀ {c},C.clean c->cC P G c=D:=λh=>(ζ.clean _).1 h
   have lc:∀ {c},cC P G c=D->C.clean c:=λh=>(ζ.clean _).2 h;have aiB:∀c,J Code.ret=J c->C.clean c:=λc e=>by cases e;exact lc rfl
   have pu:∀ {k₁ CK:List Item},py C S Z q k₁ CK->dO P F C S Z w w' (.go (aT ⟨f,t,k₁,d,.run,.normal,ro⟩ cs) w) (.go (aT ⟨f,t',CK,d',.run,fl,jE⟩ bu) w'):=
    λOm=>dO.pure hw (.inside (.mk f ht Om hd .run T hf) hL)
   have ev:∀ {k k':List Item} {d d':List Ê} {r r':Option Nat},re G Z (á ⟨f,t,k,d,.run,.normal,r⟩) (á ⟨f,t',k',d',.run,fl,r'⟩):=Ec hG ht;cases hk with
   |nil=>exact Pz hw ie hL m m' H (by simp)|stop=>exact dO.ended
   | @cons _ i i' k k' hi hk=>
     cases hi with
     |inBlock id=>exact pu hk|inScope c hc=>exact pu hk|inLoop c hc=>exact pu (.cons (.code c hc) (.cons (.inLoop c hc) hk))|inRangeFunc hl=>exact dO.ended
     |beginRound=>
      refine Ma ζ hw ie (by simp) hL (Sim.Q2 ?_) b;cases T with
      |none=>exact Sim.stuck|some hl=>exact Sim.beginRound hl
     |endRangeFunc hl=>
      refine dO.vS hw (Sim.endLoop hl) (k:=λr=>match r with
       | .ok jump w=>.go (aT ⟨f,t,(jump.map Item.code).toList++k,d,.run,.normal,ro⟩ cs) w
       | .halt (.panic v) w=>.go (aT ((⟨f,t,_,d,.run,.normal,ro⟩:ϝ).raise [{v,recovered:=U}]) cs) w
       | .halt _ w=>.ended (.stuck "range over a function: no such loop" _) w) (k':=λr=>match r with
       | .ok jump w=>.go (aT ⟨f,t',(jump.map Item.code).toList++k',d',.run,fl,jE⟩ bu) w
       | .halt (.panic v) w=>.go (aT ((⟨f,t',_,d',.run,fl,jE⟩:ϝ).raise [{v,recovered:=U}]) bu) w
       | .halt _ w=>.ended (.stuck "range over a function: no such loop" _) w) (λh au g aa es e hp=>?_) λbM au eF a b l2 eL hab=>?_
      ·cases h<;>simp only[reduceCtorEq,Ĭ] at e;obtain⟨rfl,_⟩:=e;obtain⟨ch,e⟩:=raise_mode ⟨f,t,_,d,.run,.normal,ro⟩ _;exact hp.2 ch e
      ·obtain⟨rfl,hc⟩:=hab;have eD:=hk.mono l2;cases a with
       |none=>exact dO.pure eL (.inside ((ee.mk f ht hk hd .run T hf).mono l2) (hL.mono l2))|some cd=>exact dO.pure eL (.inside ((ee.mk f ht (.cons (.code cd (hc cd rfl)) hk) hd .run T hf).mono l2) (hL.mono l2))
     |inRegion id dr ops todo hc=>
      cases todo with
      |nil=>exact pu hk
      |cons i rest=>
       have Ag:ops.all (k8 P G)=D:=cl hc;unfold ϻ;simp only[aq5 ops ht];split
       ·unfold stepG.oper;simp only[Frame.oper?];cases ho:ops[i]? with
        |none=>exact dO.ended
        |some o=>
         have ma:o∈ops:= Ń ho;have jy:k8 P G o=D:=by simpa using ħ.1 Ag o ma
         have oN:∀q,o.op≠ .defer q:=λq e=>by simp[k8,jA,e] at jy
         have V:=ep.execOp ζ o jy (ev (k:=.inRegion ops (i::rest)::k) (k':=.inRegion ops (i::rest)::k') (d:=d) (d':=d') (r:=ro) (r':=jE));have:=Ma ζ hw ie (by simp) hL V b
         simp only;cases T with
         |none=>exact this
         |some hl=>
          cases ag:o.op<;>first|exact absurd ag (oN _) |exact this
       ·exact dO.pure hw (.inside (D9 ie .undef (by simp)) hL)
     |cut hc=>
      rcases mA.TO hc with rfl| ⟨x,y,y',rfl,rfl,ha,hb⟩
      ·exact dO.ended
      ·exact pu (.cons (.code x ha) (.cons (.cut hb) hk))
     |code cd hc=>
      have fV:=cl hc;cases cd with
      |skip=>exact pu hk|label l=>exact pu hk|ret=>exact Pz hw ie hL m m' (J .ret) aiB|seq x y=>simp only[cC,Ä] at fV;exact pu (.cons (.code x (lc fV.1)) (.cons (.code y (lc fV.2)) hk))
      |cond x y υ=>
       simp only[cC,Ä] at fV;have hx:=ev (k:=.code (.cond x y υ)::k) (k':=.code (.cond x y υ)::k') (d:=d) (d':=d') (r:=ro) (r':=jE) x fV.1.1;have fin:∀ {v1 v2:z},aj Z v1 v2->dO P F C S Z w w'
        (match v1 with
          | .bool q=>.go (aT ⟨f,t,.code (if q then y else υ)::k,d,.run,.normal,ro⟩ cs) w
          |_=>.ended (.stuck "cond: bool expected" (Frame.pos (tw P F) ⟨f,t,.code (.cond x y υ)::k,d,.run,.normal,ro⟩)) w)
        (match v2 with
          | .bool q=>.go (aT ⟨f,t',.code (if q then y else υ)::k',d',.run,fl,jE⟩ bu) w'
          |_=>.ended (.stuck "cond: bool expected" (Frame.pos P ⟨f,t',.code (.cond x y υ)::k',d',.run,fl,jE⟩)) w'):=by
        intro v1 v2 hv;cases hv;case bool q=>cases q with
         |false=>exact pu (.cons (.code _ (lc fV.2)) hk)|true=>exact pu (.cons (.code _ (lc fV.1.2)) hk)
        all_goals exact dO.ended
       exact fin hx
      |block id x=>exact pu (.cons (.code x (lc fV)) (.cons (.inBlock id) hk))|loop x=>exact pu (.cons (.code x (lc fV)) (.cons (.inLoop x (lc fV)) hk))|scope x=>exact pu (.cons (.code x (lc fV)) (.cons (.inScope x (lc fV)) hk))
      |exit id=>
       have hx:=afC (C:=C) (S:=S) (Z:=Z) id hk;have:=Pz (P:=P) (F:=F) hw ie hL m m' (J (.exit id)) (λc e=>by cases e;exact hc)
       unfold ϻ;simp only;rcases hx with⟨e1,e2⟩ | ⟨k₁,CK,e1,e2,Om⟩
       ·rw[e1];cases q with
        |false=>rw[e2 rfl];exact this
        |true=>have E6:=hf.base rfl;subst E6;cases T;exact dO.ended
       ·rw[e1,e2];exact pu Om
      |region id ops dr=>
       unfold ϻ;simp only;cases dr with
       |false=>exact pu (.cons (.inRegion id U ops _ hc) hk)
       |true=>
        simp only[Aa4,è,if_false];cases hq:(Go.choose (.order f id)).run (tw P F) w with
        |halt h au=>exact dO.ended
        |ok n au=>
         obtain⟨bM,n',eF,eM,k1,rfl,k3,k4,k5⟩:=Sim.choose (P':=tw P F) (P:=P) (C:=C) (Z:=Z) (.order f id) Z Z.le_refl w w' #[] hw n au hq;have vG:(Go.choose (.order f id)).run P w'=.ok n eF:=by rw[<-Ady P _ w' #[],k1]
         simp only[vG];have:=dO.step (es:=#[]) (eM:=#[]) (P:=P) (F:=F) k4 (by simp) (dO.pure (es:=#[]) k3 (.inside ((ee.mk f ht (.cons (.inRegion id D ops (Region.schedule (P.follows .mixedOrders) ops n) hc) hk) hd .run T hf).mono k4.le) (hL.mono k4.le)))
         exact this
      |rangeFunc g ps x y=>
       simp only[cC,Ä] at fV;refine dO.vS hw (Sim.enterLoop f ht ps (lc fV.1.2) (lc fV.2) T) (k:=λr=>match r with
        | .ok (l,mark) w=>Ù (tw P F) b ⟨f,t,.inRangeFunc l::k,mark++d,.run,.normal,ro⟩ cs H
          (do let d <-resolve (á ⟨f,t,.inRangeFunc l::k,mark++d,.run,.normal,ro⟩) {callee:=.value g,args:=#[.const (.func (.yield l) #[] #[])],argTypes:=#[]} 0;Go.invoke d.target d.args) w
        | .halt _ w=>.ended (.stuck "range over a function: no such loop" _) w) (k':=λr=>match r with
        | .ok (l,mark) w=>Ù P D ⟨f,t',.inRangeFunc l::k',mark++d',.run,fl,jE⟩ bu H
          (do let d <-resolve (á ⟨f,t',.inRangeFunc l::k',mark++d',.run,fl,jE⟩) {callee:=.value g,args:=#[.const (.func (.yield l) #[] #[])],argTypes:=#[]} 0;Go.invoke d.target d.args) w
        | .halt _ w=>.ended (.stuck "range over a function: no such loop" _) w) (λh au g aa es e=>?_) λbM au eF x1 x2 l2 eL hab=>?_
       ·simp at e
       ·obtain⟨l1,Jp⟩:=x1;obtain⟨xY,Jq⟩:=x2;obtain⟨hl,Cj⟩:=hab;refine Ma ζ eL (.mk f (ht.mono l2) (.cons (.inRangeFunc hl) (hk.mono l2)) (kM.app Cj (hd.mono l2)) .run ?_ hf) (by simp) (hL.mono l2) (Sim.ml ?_) b
        ·cases T with
         |none=>exact .none|some h=>exact .some (l2 _ _ h)
        ·have he:re G bM (á ⟨f,t,.inRangeFunc l1::k,Jp++d,.run,.normal,ro⟩) (á ⟨f,t',.inRangeFunc xY::k',Jq++d',.run,fl,jE⟩):=Ec (λg hg=>l2 _ _ (hG g hg)) (ht.mono l2);have hy:aV bM #[Value.func (.yield l1) #[] #[]] #[Value.func (.yield xY) #[] #[]]:=cf.one (R:=aj bM) (aj.func (.yield hl) rfl (by simp) rfl (by simp));exact Sim.CG ζ (he g fV.1.1) (by simpa [á] using hy)
      |goto l=>simp[cC] at fV
      |refuse s=>simp[cC] at fV
def YS(ζ:Env P F C G)(hG:∀g,G g=D->Z g g)(hw:iP C Z w w')(cq:ee C S Z q fr ba)(hL:Below C S Z q cs bu)(m m' b:Bool)
 (st st':GoStatus)(of of':Option (Array CommCase×CommShape)):
 dO P F C S Z w w' (ϙ (tw P F) m ⟨fr,cs,st,H,of⟩ w b) (ϙ P m' ⟨ba,bu,st',H,of'⟩ w' D):=by
 have ie:=cq;cases cq with
 | @mk f t t' ht k k' hk d d' hd md hm ro jE T fl hf=>
   cases hm with
   |run=>exact afz ζ hG hw ie rfl hL m m' b|returning=>exact aqm ζ hw ie rfl hL m m'
end
end Go.Sim
namespace Go.Sim
open Go
def qX:Obj->Prop
 | .deferred (J (_::_))=>True
 |_=>False
def yX:Halt->Prop
 | .panic _| .stuck _| .unsupported _=>True
 |_=>False
def az(p:ϗ){α:Type}:Sem α->Prop
 | .pure _=>True
 | .load _ _ k=>∀v,az p (k v)
 | .store _ _ _ k=>az p k
 | .new o k=>¬qX o/\∀r,az p (k r)
 | .shape _ k=>∀x,az p (k x)
 | .freeze _ _ k=>az p k
 | .frozen _ k=>∀x,az p (k x)
 | .getObj _ k=>∀o,az p (k o)
 | .setObj _ o k=>¬qX o/\az p k
 | .choose _ k=>∀n,az p (k n)
 | .sys _ _=>False
 | .program k=>az p (k p)
 | .mark _ k=>az p k
 | .halt h=>yX h
def az.bind{p:ϗ}{α β:Type}{s:Sem α}{f:α->Sem β}(h:az p s)(hf:∀a,az p (f a)):az p (s.bind f):=by
 induction s with
 |pure a=>exact hf a
 |load m a k ih=>exactλv=>ih v (h v)
 |store m a v k ih=>exact ih h
 |new o k ih=>exact⟨h.1,λr=>ih r (h.2 r)⟩
 |shape r k ih=>exactλv=>ih v (h v)
 |freeze a n k ih=>exact ih h
 |frozen a k ih=>exactλv=>ih v (h v)
 |getObj r k ih=>exactλv=>ih v (h v)
 |setObj r o k ih=>exact⟨h.1,ih h.2⟩
 |choose q k ih=>exactλv=>ih v (h v)
 |sys c k ih=>exact h
 |program k ih=>exact ih p h
 |mark m k ih=>exact ih h
 |halt h=>exact h
def az.bind'{s:Sem α}{f:α->Sem β}(h:az p s)(hf:∀a,az p (f a)):az p (s>>=f):=az.bind h hf
def bq(w:N)(hr:Tape):N:={w with tape:=hr}
def anD(hr:Tape):ě α->ě α
 | .ok a w=>.ok a (bq w hr)
 | .halt h w=>.halt h (bq w hr)
def Dh:ě α->N
 | .ok _ w=>w
 | .halt _ w=>w
def bO(h:Array Obj):Prop:=∀o∈h,¬qX o
def bO.push{h:Array Obj}(x:bO h){o:Obj}(ho:¬qX o):bO (h.push o):=λa ha=>by
 rcases Array.mem_push.1 ha with ha|rfl
 ·exact x a ha
 ·exact ho
def bO.set{h:Array Obj}(x:bO h)(i:Nat)(ho:¬qX o):bO (h.setIfInBounds i o):=λa ha=>by
 rcases Array.mem_or_eq_of_mem_setIfInBounds ha with ha|rfl
 ·exact x a ha
 ·exact ho
def bO.modify{h:Array Obj}(x:bO h)(i:Nat){f:Obj->Obj}(hf:∀o,¬qX o->¬qX (f o)):bO (h.modify i f):=λa ha=>by
 obtain⟨j,hj,rfl⟩:=Aay.1 ha;simp only[Aau];split
 ·exact hf _ (x _ (Aab _))
 ·exact x _ (Aab _)
def bO.get{h:Array Obj}(x:bO h)(ho:h[i]?=J o):¬qX o:=x o (Ń ho)
def aqp(p:ϗ)(w:N)(at_:ϖ)(u:ώ)(k:ϖ)(v:z)(a:Bool):∃r:Except String (Array Obj×List ϖ),(∀x,r=.ok x->bO w.heap->bO x.1)/\∀hr d,({w with tape:=hr,drawn:=d}:N).viewStore p at_ u k v a=match r with| .ok (h,x)=>.ok ({w with heap:=h,tape:=hr,drawn:=d},x) | .error e=>.error e:=by
 cases h:w.viewStore p at_ u k v a with
 |error e=>
  refine⟨.error e,(by simp),λhr d=>?_⟩;unfold Ad5 at h |-;have:({w with tape:=hr,drawn:=d}:N).seen p at_ u k a=w.seen p at_ u k a:=rfl;rw[this];simp only[bind,Except.bind,pure,Except.pure] at h |-
  (repeat' split at h)<;>simp_all
 |ok r=>
  refine⟨.ok (r.1.heap,r.2),λx hx hn=>?_,λhr d=>?_⟩
  ·cases hx;unfold Ad5 at h;simp only[bind,Except.bind,pure,Except.pure] at h
   (repeat' split at h)<;>first| (cases h;done) | (cases h;exact hn.set _ (λh=>h))
  ·unfold Ad5 at h |-;have:({w with tape:=hr,drawn:=d}:N).seen p at_ u k a=w.seen p at_ u k a:=rfl;rw[this];simp only[bind,Except.bind,pure,Except.pure] at h |-
   (repeat' split at h)<;>first| (cases h;done) | (cases h;simp_all)
def afI(p:ϗ)(w:N)(a:ϖ)(v:z)(b:Bool):∃r:Except Halt (Array Obj×List ϖ),(∀x,r=.ok x->bO w.heap->bO x.1)/\∀hr d,({w with tape:=hr,drawn:=d}:N).farStore p a v b=match r with| .ok (h,x)=>.ok ({w with heap:=h,tape:=hr,drawn:=d},x) | .error e=>.error e:=by
 unfold Ad2;simp only;cases h:w.heap[a.block]? with
 |none=>exact⟨.error (w.noCell a "store: no such cell"),(by simp),λhr d=>by simp only[Ad0,h]⟩
 |some o=>
  cases o;case view at_ u=>
   obtain⟨r,hn,T⟩:=aqp p w at_ u a v b;refine⟨match r with| .ok x=>.ok x| .error why=>.error (.unsupported (.unsafePointer why)),λx hx=>?_,λhr d=>?_⟩
   ·cases r with
    |ok y=>cases hx;exact hn _ rfl
    |error=>cases hx
   ·simp only[T];cases r<;>rfl
  all_goals exact⟨.error (w.noCell a "store: no such cell"),(by simp),λhr d=>by simp only[Ad0,h]⟩
def al8(w:N)(a:ϖ)(v:z)(h:bO w.heap):bO (w.setCell a v).heap:=by unfold ü;simp only;refine bO.modify h _ ?_;intro o ho;cases o<;>exact ho
def run_store{m:Mode}{k:Sem α}(w:N):(∃h,∀hr d,(ň m a v k).run p {w with tape:=hr,drawn:=d}=.halt h {w with tape:=hr,drawn:=d})\/
 ∃hp,(bO w.heap->bO hp)/\∀hr d,(ň m a v k).run p {w with tape:=hr,drawn:=d}=k.run p {w with heap:=hp,tape:=hr,drawn:=d}:=by
 have key:(∃h,∀hr d,(match({w with tape:=hr,drawn:=d}:N).cell? a with
  |some _=>if({w with tape:=hr,drawn:=d}:N).frozen? a then(.halt (.unsupported (.unsafePointer "a write to bytes that a string shares")) {w with tape:=hr,drawn:=d}:ě α) else k.run p (({w with tape:=hr,drawn:=d}:N).setCell a v)
  |none=>match({w with tape:=hr,drawn:=d}:N).farStore p a v (m==Ŵ) with
   | .ok (w,_)=>k.run p w
   | .error h=>(.halt h {w with tape:=hr,drawn:=d}:ě α))=.halt h {w with tape:=hr,drawn:=d})\/
  ∃hp,(bO w.heap->bO hp)/\∀hr d,(match({w with tape:=hr,drawn:=d}:N).cell? a with
   |some _=>if({w with tape:=hr,drawn:=d}:N).frozen? a then(.halt (.unsupported (.unsafePointer "a write to bytes that a string shares")) {w with tape:=hr,drawn:=d}:ě α) else k.run p (({w with tape:=hr,drawn:=d}:N).setCell a v)
   |none=>match({w with tape:=hr,drawn:=d}:N).farStore p a v (m==Ŵ) with
    | .ok (w,_)=>k.run p w
    | .error h=>(.halt h {w with tape:=hr,drawn:=d}:ě α))=k.run p {w with heap:=hp,tape:=hr,drawn:=d}:=by
  have e1:∀hr d,({w with tape:=hr,drawn:=d}:N).cell? a= w.cell? a:=λ_ _=>rfl;have e2:∀hr d,({w with tape:=hr,drawn:=d}:N).frozen? a= w.frozen? a:=λ_ _=>rfl;simp only[e1,e2];cases w.cell? a with
  |some x=>
   by_cases hf: w.frozen? a=D
   ·exact .inl ⟨.unsupported (.unsafePointer "a write to bytes that a string shares"),λhr d=>by simp only[hf,if_true]⟩
   ·exact .inr ⟨(w.setCell a v).heap,al8 w a v,λhr d=>by simp only[hf];rfl⟩
  |none=>
   obtain⟨r,hn,T⟩:=afI p w a v (m==Ŵ);simp only[T];cases r with
   |ok x=>exact .inr ⟨x.1,hn x rfl,λhr d=>rfl⟩|error h=>exact .inl ⟨h,λhr d=>rfl⟩
 cases v;case agg x=>exact .inl ⟨_,λhr d=>rfl⟩
 case tuple x=>exact .inl ⟨_,λhr d=>rfl⟩
 all_goals exact key
def M5(w:N)(a:ϖ)(n:Nat):∃hp,(bO w.heap->bO hp)/\∀hr d,({w with tape:=hr,drawn:=d}:N).freeze a n={w with heap:=hp,tape:=hr,drawn:=d}:=by
 refine⟨(w.freeze a n).heap,λhn=>?_,λhr d=>?_⟩
 ·unfold Ad4;by_cases h:n=0
  ·simpa only[h,if_true] using hn
  ·simp only[h,if_false];refine bO.modify hn _ ?_;intro o ho;cases o<;>exact ho
 unfold Ad4;by_cases h:n=0
 ·simp only[h,if_true]
 ·simp only[h,if_false]
def Yd{s:Sem α}(V:az p s):∀(w:N),w.drawn<=(Dh (s.run p w)).drawn/\(Dh (s.run p w)).tape=w.tape:=by
 induction s with
 |pure a=>intro w;exact⟨ϊ _,rfl⟩
 |load m a k ih=>
  intro w;simp only[ϥ]
  (repeat' split)<;>first|exact ih _ (V _) w|exact⟨ϊ _,rfl⟩
 |store m a v k ih=>
  intro w;rcases run_store (p:=p) (m:=m) (a:=a) (v:=v) (k:=k) w with⟨h,e⟩ | ⟨hp,hn,e⟩
  ·rw[show(ň m a v k).run p w=_ from e w.tape w.drawn];exact⟨ϊ _,rfl⟩
  ·rw[show(ň m a v k).run p w=_ from e w.tape w.drawn];exact ih V {w with heap:=hp}
 |new o k ih=>intro w;exact ih _ (V.2 _) {w with heap:=w.heap.push o}
 |shape r k ih=>intro w;exact ih _ (V _) w
 |freeze a n k ih=>intro w;obtain⟨hp,hn,e⟩:=M5 w a n;simp only[ϥ];rw[show w.freeze a n=_ from e w.tape w.drawn];exact ih V {w with heap:=hp}
 |frozen a k ih=>intro w;exact ih _ (V _) w
 |getObj r k ih=>
  intro w;simp only[ϥ]
  (repeat' split)<;>first|exact ih _ (V _) w|exact⟨ϊ _,rfl⟩
 |setObj r o k ih=>
  intro w;simp only[ϥ]
  (repeat' split)<;>first|exact ih V.2 {w with heap:=w.heap.setIfInBounds r o} |exact⟨ϊ _,rfl⟩
 |choose q k ih=>
  intro w;simp only[ϥ];split
  ·exact ih _ (V _) w
  ·have:=ih (q.cut (w.tape w.drawn q)) (V _) {w with drawn:=w.drawn+1};exact⟨by have:=this.1;simp only at this;omega,this.2⟩
 |sys c k ih=>exact V.elim
 |program k ih=>intro w;exact ih _ V w
 |mark m k ih=>intro w;exact ih V w
 |halt h=>intro w;exact⟨ϊ _,rfl⟩
def an0{s:Sem α}(V:az p s):∀(w:N),bO w.heap->bO (Dh (s.run p w)).heap:=by
 induction s with
 |pure a=>intro w h;exact h
 |load m a k ih=>
  intro w h;simp only[ϥ]
  (repeat' split)<;>first|exact ih _ (V _) w h|exact h
 |store m a v k ih=>
  intro w h0;rcases run_store (p:=p) (m:=m) (a:=a) (v:=v) (k:=k) w with⟨h,e⟩ | ⟨hp,hn,e⟩
  ·rw[show(ň m a v k).run p w=_ from e w.tape w.drawn];exact h0
  ·rw[show(ň m a v k).run p w=_ from e w.tape w.drawn];exact ih V {w with heap:=hp} (hn h0)
 |new o k ih=>intro w h;exact ih _ (V.2 _) {w with heap:=w.heap.push o} (h.push V.1)
 |shape r k ih=>intro w h;exact ih _ (V _) w h
 |freeze a n k ih=>intro w h;obtain⟨hp,hn,e⟩:=M5 w a n;simp only[ϥ];rw[show w.freeze a n=_ from e w.tape w.drawn];exact ih V {w with heap:=hp} (hn h)
 |frozen a k ih=>intro w h;exact ih _ (V _) w h
 |getObj r k ih=>
  intro w h;simp only[ϥ]
  (repeat' split)<;>first|exact ih _ (V _) w h|exact h
 |setObj r o k ih=>
  intro w h;simp only[ϥ]
  (repeat' split)<;>first|exact ih V.2 {w with heap:=w.heap.setIfInBounds r o} (h.set _ V.1) |exact h
 |choose q k ih=>
  intro w h;simp only[ϥ];split
  ·exact ih _ (V _) w h
  ·exact ih (q.cut (w.tape w.drawn q)) (V _) {w with drawn:=w.drawn+1} h
 |sys c k ih=>exact V.elim
 |program k ih=>intro w h;exact ih _ V w h
 |mark m k ih=>intro w h;exact ih V w h
 |halt h=>intro w h;exact h
def Yh{s:Sem α}(V:az p s):∀(w:N) (hr:Tape),(∀j q,w.drawn<=j->j<(Dh (s.run p w)).drawn->hr j q=w.tape j q)->s.run p (bq w hr)=anD hr (s.run p w):=by
 induction s with
 |pure a=>intro w hr _;rfl
 |load m a k ih=>
  intro w hr hT;simp only[ϥ] at hT |-;have e1:(bq w hr).cell? a= w.cell? a:=rfl;have e2:(bq w hr).farLoad p a (m==Ŵ)=w.farLoad p a (m==Ŵ):=rfl;rw[e1,e2];cases hc: w.cell? a with
  |some v=>simp only[hc] at hT |-;exact ih _ (V _) w hr hT
  |none=>
   simp only[hc] at hT |-;cases hf:w.farLoad p a (m==Ŵ) with
   |ok x=>simp only[hf] at hT |-;exact ih _ (V _) w hr hT
   |error h=>simp only;rfl
 |store m a v k ih=>
  intro w hr hT;rcases run_store (p:=p) (m:=m) (a:=a) (v:=v) (k:=k) w with⟨h,e⟩ | ⟨hp,hn,e⟩
  ·rw[show(ň m a v k).run p w=_ from e w.tape w.drawn];exact e hr w.drawn
  ·have e1:=e w.tape w.drawn;have e1:(ň m a v k).run p w=_:=e1;rw[e1] at hT |-;have e2:(ň m a v k).run p (bq w hr)=_:=e hr w.drawn;rw[e2];exact ih V {w with heap:=hp} hr hT
 |new o k ih=>intro w hr hT;exact ih _ (V.2 _) {w with heap:=w.heap.push o} hr hT
 |shape r k ih=>intro w hr hT;exact ih _ (V _) w hr hT
 |freeze a n k ih=>
  intro w hr hT;obtain⟨hp,hn,e⟩:=M5 w a n;simp only[ϥ] at hT |-;have e1:w.freeze a n=_:=e w.tape w.drawn;have e2:(bq w hr).freeze a n=_:=e hr w.drawn;rw[e1] at hT |-
  rw[e2];exact ih V {w with heap:=hp} hr hT
 |frozen a k ih=>intro w hr hT;exact ih _ (V _) w hr hT
 |getObj r k ih=>
  intro w hr hT;simp only[ϥ] at hT |-;show(match w.heap[r]? with
   |some (.cells ..)=>(.halt (.stuck "getObj: a row of cells") (bq w hr):ě α)
   |some o=>(k o).run p (bq w hr)
   |none=>.halt (.stuck "getObj: no such block") (bq w hr))=_
  cases ho:w.heap[r]? with
  |none=>simp only;rfl
  |some o=>
   simp only[ho] at hT |-;cases o<;>first|rfl|exact ih _ (V _) w hr hT
 |setObj r o k ih=>
  intro w hr hT;simp only[ϥ] at hT |-;show(match w.heap[r]? with
   |some (.cells ..)=>(.halt (.stuck "setObj: a row of cells") (bq w hr):ě α)
   |some _=>k.run p { (bq w hr) with heap:=w.heap.setIfInBounds r o}
   |none=>.halt (.stuck "setObj: no such block") (bq w hr))=_
  cases ho:w.heap[r]? with
  |none=>simp only;rfl
  |some o'=>
   simp only[ho] at hT |-;cases o'<;>first|rfl|exact ih V.2 {w with heap:=w.heap.setIfInBounds r o} hr hT
 |choose q k ih=>
  intro w hr hT;simp only[ϥ] at hT |-;by_cases hq:q.forced=D
  ·rw[if_pos hq] at hT |-;rw[if_pos hq];exact ih _ (V _) w hr hT
  ·rw[if_neg hq] at hT |-;rw[if_neg hq];have hd:=(Yd (V (q.cut (w.tape w.drawn q))) {w with drawn:=w.drawn+1}).1
   have e:hr w.drawn q=w.tape w.drawn q:=hT w.drawn q (ϊ _) (by simp only at hd;omega);show(k (q.cut (hr w.drawn q))).run p (bq {w with drawn:=w.drawn+1} hr)=_;rw[e];exact ih _ (V _) {w with drawn:=w.drawn+1} hr λj q h1 h2=>hT j q (by simp only at h1;omega) h2
 |sys c k ih=>exact V.elim
 |program k ih=>intro w hr hT;exact ih _ V w hr hT
 |mark m k ih=>intro w hr hT;exact ih V w hr hT
 |halt h=>intro w hr hT;rfl
end Go.Sim
namespace Go.Sim
open Go
variable {p:ϗ}
namespace az
class MC (p:ϗ) {α:Type} (s:Sem α):Prop where
 h:az p s
instance {α:Type} (a:α):MC p (Ϩ a):=⟨trivial⟩
instance {α:Type} (a:α):MC p (Sem.pure a):=⟨trivial⟩
def pure{α:Type}(a:α):az p (Ϩ a):=trivial
def atf(a:α):az p (Sem.pure a):=trivial
def newObj{o:Obj}(h:¬qX o):az p (Go.newObj o):=⟨h,λ_=>trivial⟩
def setObj{o:Obj}(r:Nat)(h:¬qX o):az p (Go.setObj r o):=⟨h,trivial⟩
def ite{c:Prop}[Decidable c]{a b:Sem α}(h:az p a)(h2:az p b):az p (if c then a else b):=by split<;>assumption
def map{s:Sem α}(f:α->β)(h:az p s):az p (f<$>s):=by rw[map_eq_pure_bind];exact bind' h λ_=>trivial
def sO(l:List ι){f:ι->σ->Sem (ForInStep σ)}(h:∀x s,az p (f x s)):∀s,az p (forIn l s f):=by
 induction l with
 |nil=>intro s;exact trivial
 |cons a l ih=>
  intro s;rw[List.forIn_cons];refine bind' (h _ _) λr=>?_;cases r
  ·exact trivial
  ·exact ih _
def zm(l:Array ι){f:ι->σ->Sem (ForInStep σ)}(h:∀x s,az p (f x s))(s:σ):az p (forIn l s f):=by rw[<-Aaj];exact sO _ h s
def Hs(l:Std.Legacy.Range){f:Nat->σ->Sem (ForInStep σ)}(h:∀x s,az p (f x s))(s:σ):az p (forIn l s f):=by rw[Aei];exact sO _ h s
def AJ(l:List ι){f:ι->Sem σ}(h:∀x,az p (f x)):az p (l.mapM f):=by
 induction l with
 |nil=>exact trivial
 |cons a l ih=>rw[List.mapM_cons];exact bind' (h _) λ_=>az.bind' ih λ_=>trivial
def yb(l:Array ι){f:ι->Sem σ}(h:∀x,az p (f x)):az p (l.mapM f):=by rw[ķ];exact map _ (az.AJ _ h)
def foldlM{ι σ:Type}(l:List ι){f:σ->ι->Sem σ}(h:∀s x,az p (f s x)):∀s,az p (l.foldlM f s):=by
 induction l with
 |nil=>intro s;exact trivial
 |cons a l ih=>intro s;rw[List.foldlM_cons];exact bind' (h _ _) λ_=>ih _
instance {α:Type} (s:String):MC p ((Go.stuck s:Sem α)):=⟨by
 repeat' first| (with_reducible first|exact MC.h|refine bind' ?_ λ_=>?_|refine ite ?_ ?_) |split|dsimp only|trivial⟩
instance {α:Type} (s:Unsupported):MC p ((Go.unsupported s:Sem α)):=⟨by
 repeat' first| (with_reducible first|exact MC.h|refine bind' ?_ λ_=>?_|refine ite ?_ ?_) |split|dsimp only|trivial⟩
def choose(q:Question):az p (Go.choose q):=by
 intro _
 repeat' first| (with_reducible first|exact MC.h|refine bind' ?_ λ_=>?_|refine ite ?_ ?_) |split|dsimp only|trivial
instance (q:Question):MC p (Go.choose q):=⟨choose q⟩
instance:MC p (Go.program):=⟨by
 repeat' first| (with_reducible first|exact MC.h|refine bind' ?_ λ_=>?_|refine ite ?_ ?_) |split|dsimp only|trivial⟩
instance (m:Mark):MC p (Go.mark m):=⟨by
 repeat' first| (with_reducible first|exact MC.h|refine bind' ?_ λ_=>?_|refine ite ?_ ?_) |split|dsimp only|trivial⟩
instance (r:Nat):MC p (Go.getObj r):=⟨by
 intro _
 repeat' first| (with_reducible first|exact MC.h|refine bind' ?_ λ_=>?_|refine ite ?_ ?_) |split|dsimp only|trivial⟩
instance (a:ϖ) (m:Mode):MC p (Go.load a m):=⟨by
 intro _
 repeat' first| (with_reducible first|exact MC.h|refine bind' ?_ λ_=>?_|refine ite ?_ ?_) |split|dsimp only|trivial⟩
instance (a:ϖ) (v:z) (m:Mode):MC p (Go.store a v m):=⟨by
 repeat' first| (with_reducible first|exact MC.h|refine bind' ?_ λ_=>?_|refine ite ?_ ?_) |split|dsimp only|trivial⟩
instance (r:Nat):MC p (Go.shape r):=⟨by
 intro _
 repeat' first| (with_reducible first|exact MC.h|refine bind' ?_ λ_=>?_|refine ite ?_ ?_) |split|dsimp only|trivial⟩
theorem MC.of{s t:Sem α}(e:s=t)(h:az p t:=by repeat' first| (with_reducible first|exact MC.h|exact newObj id|exact setObj _ id|refine bind' ?_ λ_=>?_|refine map _ ?_|refine ite ?_ ?_) |split|dsimp only|trivial):MC p s:=⟨e▸h⟩
instance (x0:ώ):MC p (Go.underlying x0):=MC.of (Go.underlying.eq_def _)
instance (x0:ώ):MC p (Go.elemOf x0):=MC.of (Go.elemOf.eq_def _)
instance (x0:ώ) (x1:Array z):MC p (Go.newRow x0 x1):=MC.of (Go.newRow.eq_def _ _)
instance (x0:ώ) (x1:z):MC p (Go.newVar x0 x1):=MC.of (Go.newVar.eq_def _ _)
instance {α:Type} (e:RuntimeError):MC p ((Go.runtimePanic e:Sem α)):=MC.of (Go.runtimePanic.eq_def _)
def runtimePanic{α:Type}(e:RuntimeError):az p ((Go.runtimePanic e:Sem α)):=MC.h
instance {α:Type} (k:í) (x y:Int) (c:Abj):MC p ((Go.boundsPanic k x y c:Sem α)):=MC.of (Go.boundsPanic.eq_def _ _ _ _)
instance (x0:ώ):MC p (Go.typeInfo x0):=MC.of (Go.typeInfo.eq_def _)
instance (x0:ώ):MC p (Go.zeroValue x0):=MC.of (Go.zeroValue.eq_def _)
instance (x0:ώ):MC p (Go.sizeOf x0):=MC.of (Go.sizeOf.eq_def _)
instance (x0:ώ):MC p (Go.isAgg x0):=MC.of (Go.isAgg.eq_def _)
instance (x0:ϖ) (x1:Nat) (x2:Nat) (x3:Array z):MC p (Go.loadCellsFrom x0 x1 x2 x3):=⟨by
 induction x2 generalizing x1 x3 with
 |zero=>exact trivial
 |succ n ih=>
 unfold Go.loadCellsFrom;refine bind' MC.h λ_=>ih _ _;all_goals
 repeat' first| (with_reducible first|exact MC.h|refine bind' ?_ λ_=>?_|refine ite ?_ ?_) |split|dsimp only|trivial⟩
instance (x0:ϖ) (x1:Nat):MC p (Go.loadCells x0 x1):=MC.of (Go.loadCells.eq_def _ _)
instance (x0:ϖ) (x1:List z) (x2:Nat):MC p (Go.storeCells x0 x1 x2):=⟨by
 induction x1 generalizing x2 with
 |nil=>exact trivial
 |cons a l ih=>
 unfold Go.storeCells;refine bind' MC.h λ_=>ih _;all_goals
 repeat' first| (with_reducible first|exact MC.h|refine bind' ?_ λ_=>?_|refine ite ?_ ?_) |split|dsimp only|trivial⟩
instance (x0:ώ) (x1:ϖ):MC p (Go.loadVar x0 x1):=MC.of (Go.loadVar.eq_def _ _)
instance (x0:ώ) (x1:ϖ) (x2:z):MC p (Go.storeVar x0 x1 x2):=MC.of (Go.storeVar.eq_def _ _ _)
instance (x0:ώ) (x1:Array z) (x2:Nat):MC p (Go.part x0 x1 x2):=MC.of (Go.part.eq_def _ _ _)
instance (x0:z):MC p (Go.asIntOf x0):=MC.of (Go.asIntOf.eq_def _)
instance (x0:z):MC p (Go.asInt x0):=MC.of (Go.asInt.eq_def _)
instance (x0:z):MC p (Go.asBool x0):=MC.of (Go.asBool.eq_def _)
def asBool(x0:z):az p (Go.asBool x0):=MC.h
instance (x0:z):MC p (Go.asAgg x0):=MC.of (Go.asAgg.eq_def _)
instance (x0:z):MC p (Go.asAddr x0):=MC.of (Go.asAddr.eq_def _)
instance (x0:z):MC p (Go.Instr.sureAddr x0):=MC.of (Go.Instr.sureAddr.eq_def _)
instance (x0:Nat):MC p (Go.askRoom x0):=MC.of (Go.askRoom.eq_def _)
instance (x0:Nat):MC p (Go.viewAt x0):=MC.of (Go.viewAt.eq_def _)
instance (x0:ϖ):MC p (Go.noView x0):=MC.of (Go.noView.eq_def _)
instance (x0:ϖ):MC p (Go.markStringish x0):=MC.of (Go.markStringish.eq_def _)
instance (x0:Nat):MC p (Go.numberAt x0):=MC.of (Go.numberAt.eq_def _)
instance (x0:ϖ):MC p (Go.behindNumber x0):=MC.of (Go.behindNumber.eq_def _)
instance (x0:ϖ) (x1:Bool):MC p (Go.asNumber x0 x1):=MC.of (Go.asNumber.eq_def _ _)
instance (x0:ϖ):MC p (Go.byteOf x0):=MC.of (Go.byteOf.eq_def _)
instance (x0:ϖ) (x1:Nat) (x2:Nat):MC p (Go.partAt x0 x1 x2):=MC.of (Go.partAt.eq_def _ _ _)
instance (x0:ϖ) (x1:Field):MC p (Go.fieldPlace x0 x1):=MC.of (Go.fieldPlace.eq_def _ _)
instance (x0:ώ) (x1:Bool) (x2:z):MC p (Go.Instr.alloc x0 x1 x2):=MC.of (Go.Instr.alloc.eq_def _ _ _)
def abB(x0:ώ)(x1:Bool)(x2:z):az p (Go.Instr.alloc x0 x1 x2):=MC.h
instance (x0:ώ) (x1:z):MC p (Go.Instr.box x0 x1):=MC.of (Go.Instr.box.eq_def _ _)
def abD(x0:ώ)(x1:z):az p (Go.Instr.box x0 x1):=MC.h
instance (x0:ώ) (x1:z):MC p (Go.Instr.loadAt x0 x1):=MC.of (Go.Instr.loadAt.eq_def _ _)
def abN(x0:ώ)(x1:z):az p (Go.Instr.loadAt x0 x1):=MC.h
instance (x0:ώ) (x1:z) (x2:z):MC p (Go.Instr.storeAt x0 x1 x2):=MC.of (Go.Instr.storeAt.eq_def _ _ _)
def abU(x0:ώ)(x1:z)(x2:z):az p (Go.Instr.storeAt x0 x1 x2):=MC.h
instance (x0:ώ) (x1:z) (x2:Nat):MC p (Go.Instr.fieldAt x0 x1 x2):=MC.of (Go.Instr.fieldAt.eq_def _ _ _)
def abK(x0:ώ)(x1:z)(x2:Nat):az p (Go.Instr.fieldAt x0 x1 x2):=MC.h
instance (x0:z) (x1:Nat) (x2:Abj):MC p (Go.Instr.sliceBound x0 x1 x2):=MC.of (Go.Instr.sliceBound.eq_def _ _ _)
instance (x0:Bool) (x1:Nat) (x2:Nat) (x3:Option z) (x4:Option z) (x5:Option z):MC p (Go.Instr.sliceBounds x0 x1 x2 x3 x4 x5):=MC.of (Go.Instr.sliceBounds.eq_def _ _ _ _ _ _)
instance (x0:ώ) (x1:z) (x2:Option z) (x3:Option z) (x4:Option z):MC p (Go.Instr.slice x0 x1 x2 x3 x4):=MC.of (Go.Instr.slice.eq_def _ _ _ _ _)
instance (x0:ώ) (x1:z) (x2:Option z) (x3:Option z) (x4:Option z):MC p (Go.Instr.sliceAt x0 x1 x2 x3 x4):=MC.of (Go.Instr.sliceAt.eq_def _ _ _ _ _)
def abT(x0:ώ)(x1:z)(x2:Option z)(x3:Option z)(x4:Option z):az p (Go.Instr.sliceAt x0 x1 x2 x3 x4):=MC.h
instance (x0:ώ) (x1:z) (x2:z):MC p (Go.Instr.indexAt x0 x1 x2):=MC.of (Go.Instr.indexAt.eq_def _ _ _)
def abM(x0:ώ)(x1:z)(x2:z):az p (Go.Instr.indexAt x0 x1 x2):=MC.h
instance (x0:ώ) (x1:z) (x2:Nat):MC p (Go.Instr.field x0 x1 x2):=MC.of (Go.Instr.field.eq_def _ _ _)
def abJ(x0:ώ)(x1:z)(x2:Nat):az p (Go.Instr.field x0 x1 x2):=MC.h
instance (x0:ώ) (x1:z) (x2:z):MC p (Go.Instr.index x0 x1 x2):=MC.of (Go.Instr.index.eq_def _ _ _)
def abL(x0:ώ)(x1:z)(x2:z):az p (Go.Instr.index x0 x1 x2):=MC.h
instance (x0:ß) (x1:í) (x2:Int) (x3:Int):MC p (Go.Op.intArith x0 x1 x2 x3):=MC.of (Go.Op.intArith.eq_def _ _ _ _)
instance (x0:ß) (x1:í) (x2:Int) (x3:Int):MC p (Go.Op.intDiv x0 x1 x2 x3):=MC.of (Go.Op.intDiv.eq_def _ _ _ _)
instance (x0:ß) (x1:í) (x2:Int) (x3:Int):MC p (Go.Op.intBits x0 x1 x2 x3):=MC.of (Go.Op.intBits.eq_def _ _ _ _)
instance (x0:ß) (x1:Int) (x2:Int):MC p (Go.Op.intCmp x0 x1 x2):=MC.of (Go.Op.intCmp.eq_def _ _ _)
instance (x0:ß) (x1:í) (x2:Int) (x3:í) (x4:Int):MC p (Go.Op.shift x0 x1 x2 x3 x4):=MC.of (Go.Op.shift.eq_def _ _ _ _ _)
instance (x0:ß) (x1:Ĺ) (x2:Nat) (x3:Nat):MC p (Go.Op.floatArith x0 x1 x2 x3):=MC.of (Go.Op.floatArith.eq_def _ _ _ _)
instance (x0:ß) (x1:Ĺ) (x2:Nat) (x3:Nat):MC p (Go.Op.floatCmp x0 x1 x2 x3):=MC.of (Go.Op.floatCmp.eq_def _ _ _ _)
instance (x0:Ĺ) (x1:Nat) (x2:Ĺ):MC p (Go.Conv.floatToFloat x0 x1 x2):=MC.of (Go.Conv.floatToFloat.eq_def _ _ _)
instance (x0:ß) (x1:Ĺ) (x2:Nat) (x3:Nat):MC p (Go.Op.Complex.arith x0 x1 x2 x3):=MC.of (by unfold Go.Op.Complex.arith;rfl)
instance (x0:Nat) (x1:Nat):MC p (Go.Op.Complex.add x0 x1):=MC.of (by unfold Go.Op.Complex.add;rfl)
instance (x0:Nat) (x1:Nat):MC p (Go.Op.Complex.sub x0 x1):=MC.of (by unfold Go.Op.Complex.sub;rfl)
instance (x0:Nat) (x1:Nat):MC p (Go.Op.Complex.mul x0 x1):=MC.of (by unfold Go.Op.Complex.mul;rfl)
instance (x0:Nat) (x1:Nat):MC p (Go.Op.Complex.quo x0 x1):=MC.of (by unfold Go.Op.Complex.quo;rfl)
instance (x0:Nat) (x1:Nat) (x2:Nat) (x3:Nat) (x4:Nat):MC p (Go.Op.Complex.corrected x0 x1 x2 x3 x4):=MC.of (by unfold Go.Op.Complex.corrected;rfl)
instance (x0:Ĺ) (x1:Nat) (x2:Ĺ):MC p (Go.Op.Complex.conv x0 x1 x2):=MC.of (by unfold Go.Op.Complex.conv;rfl)
instance (x0:Nat) (x1:Nat) (x2:Nat) (x3:Nat):MC p (Go.Op.Complex.product x0 x1 x2 x3):=MC.of (by unfold Go.Op.Complex.product;rfl)
instance (x0:Nat) (x1:Nat) (x2:Nat) (x3:Nat):MC p (Go.Op.Complex.quotient x0 x1 x2 x3):=MC.of (by unfold Go.Op.Complex.quotient;rfl)
instance (x0:ß) (x1:Ĺ) (x2:Nat) (x3:Nat) (x4:Nat) (x5:Nat):MC p (Go.Op.complexOp x0 x1 x2 x3 x4 x5):=MC.of (Go.Op.complexOp.eq_def _ _ _ _ _ _)
instance (x0:ß) (x1:ByteArray) (x2:ByteArray):MC p (Go.Op.stringOp x0 x1 x2):=MC.of (Go.Op.stringOp.eq_def _ _ _)
instance (x0:ϖ) (x1:ϖ):MC p (Go.Op.twoPlaces x0 x1):=MC.of (Go.Op.twoPlaces.eq_def _ _)
instance (x0:í) (x1:ϖ) (x2:ϖ):MC p (Go.Op.addrSub x0 x1 x2):=MC.of (Go.Op.addrSub.eq_def _ _ _)
instance (x0:ß) (x1:ϖ) (x2:ϖ):MC p (Go.Op.addrCmp x0 x1 x2):=MC.of (Go.Op.addrCmp.eq_def _ _ _)
instance (x0:í) (x1:ϖ) (x2:Int):MC p (Go.Op.addrMod x0 x1 x2):=MC.of (Go.Op.addrMod.eq_def _ _ _)
instance (x0:ϖ):MC p (Go.frozen x0):=⟨by
 intro _
 repeat' first| (with_reducible first|exact MC.h|refine bind' ?_ λ_=>?_|refine ite ?_ ?_) |split|dsimp only|trivial⟩
instance (x0:ϖ):MC p (Go.stringish x0):=MC.of (Go.stringish.eq_def _)
instance (x0:ϖ) (x1:ϖ):MC p (Go.mayBeOne x0 x1):=MC.of (Go.mayBeOne.eq_def _ _)
instance (x0:ώ):MC p (Go.typeStr x0):=MC.of (Go.typeStr.eq_def _)
instance (x0:ϖ) (x1:ϖ):MC p (Go.sameAddr x0 x1):=MC.of (Go.sameAddr.eq_def _ _)
instance (x0:Option ϖ) (x1:Option ϖ):MC p (Go.samePointer x0 x1):=MC.of (Go.samePointer.eq_def _ _)
instance (x0:Nat) (x1:ώ) (x2:z) (x3:z):MC p (Go.Op.equalIn x0 x1 x2 x3):=⟨by
 induction x0 generalizing x1 x2 x3 with
 |zero=>exact trivial
 |succ n ih=>
 unfold Go.Op.equalIn
 repeat' first| (with_reducible first|exact MC.h|exact ih _ _ _|exact newObj id|exact setObj _ id|refine bind' ?_ λ_=>?_|refine zm _ (λ_ _=>?_) _|refine sO _ (λ_ _=>?_) _|refine Hs _ (λ_ _=>?_) _|refine map _ ?_|refine yb _ λ_=>?_|refine AJ _ λ_=>?_|refine foldlM _ (λ_ _=>?_) _|refine ite ?_ ?_) |split|dsimp only|trivial⟩
instance (x0:ώ) (x1:z) (x2:z):MC p (Go.Op.equal x0 x1 x2):=MC.of (Go.Op.equal.eq_def _ _ _)
instance (x0:Nat) (x1:ώ) (x2:z) (x3:z):MC p (Go.Op.eqGuardIn x0 x1 x2 x3):=⟨by
 induction x0 generalizing x1 x2 x3 with
 |zero=>exact trivial
 |succ n ih=>
 unfold Go.Op.eqGuardIn
 repeat' first| (with_reducible first|exact MC.h|exact ih _ _ _|exact newObj id|exact setObj _ id|refine bind' ?_ λ_=>?_|refine zm _ (λ_ _=>?_) _|refine sO _ (λ_ _=>?_) _|refine Hs _ (λ_ _=>?_) _|refine map _ ?_|refine yb _ λ_=>?_|refine AJ _ λ_=>?_|refine foldlM _ (λ_ _=>?_) _|refine ite ?_ ?_) |split|dsimp only|trivial⟩
instance (ts:Array ώ) (t:ώ) (x y:z):MC p (Go.Builtin.unsafeAdd_ ts t #[x,y]):=⟨by
 unfold Go.Builtin.unsafeAdd_;cases x<;>try exact trivial
 rename_i q;cases q
 ·refine bind' (s:=Go.asInt y) MC.h (λn=>?_);dsimp only
  repeat' first| (with_reducible first|exact MC.h|refine bind' ?_ λ_=>?_|refine ite ?_ ?_) |split|dsimp only|trivial
 ·refine bind' (s:=Go.asInt y) MC.h (λn=>?_);dsimp only
  repeat' first| (with_reducible first|exact MC.h|refine bind' ?_ λ_=>?_|refine ite ?_ ?_) |split|dsimp only|trivial⟩
instance (x0:ώ) (x1:z) (x2:z):MC p (Go.movedNumber x0 x1 x2):=MC.of (Go.movedNumber.eq_def _ _ _)
instance (x0:ώ) (x1:z) (x2:z):MC p (Go.movedPointer x0 x1 x2):=MC.of (Go.movedPointer.eq_def _ _ _)
instance (x0:ß) (x1:ώ) (x2:î) (x3:î) (x4:z) (x5:z):MC p (Go.eqGuard x0 x1 x2 x3 x4 x5):=MC.of (Go.eqGuard.eq_def _ _ _ _ _ _)
def eqGuard(x0:ß)(x1:ώ)(x2:î)(x3:î)(x4:z)(x5:z):az p (Go.eqGuard x0 x1 x2 x3 x4 x5):=MC.h
instance (x0:ß) (x1:ώ) (x2:z) (x3:z):MC p (Go.binOp x0 x1 x2 x3):=MC.of (Go.binOp.eq_def _ _ _ _)
def binOp(x0:ß)(x1:ώ)(x2:z)(x3:z):az p (Go.binOp x0 x1 x2 x3):=MC.h
instance (x0:z) (x1:Nat):MC p (Go.Instr.extract x0 x1):=MC.of (Go.Instr.extract.eq_def _ _)
def abI(x0:z)(x1:Nat):az p (Go.Instr.extract x0 x1):=MC.h
instance (x0:Fn) (x1:Array z) (x2:Array z):MC p (Go.Instr.makeFunc x0 x1 x2):=MC.of (Go.Instr.makeFunc.eq_def _ _ _)
def abP(x0:Fn)(x1:Array z)(x2:Array z):az p (Go.Instr.makeFunc x0 x1 x2):=MC.h
instance (x0:ώ) (x1:Option z):MC p (Go.Instr.makeMap x0 x1):=MC.of (Go.Instr.makeMap.eq_def _ _)
def abQ(x0:ώ)(x1:Option z):az p (Go.Instr.makeMap x0 x1):=MC.h
instance (x0:ώ) (x1:z) (x2:z):MC p (Go.Instr.makeSlice x0 x1 x2):=MC.of (Go.Instr.makeSlice.eq_def _ _ _)
def abR(x0:ώ)(x1:z)(x2:z):az p (Go.Instr.makeSlice x0 x1 x2):=MC.h
def Se(x0:ώ)(x1:Array (Nat×z)):az p (Go.Instr.build x0 x1):=by
 unfold Go.Instr.build
 repeat' first| (with_reducible first|exact MC.h|refine bind' ?_ λ_=>?_|refine yb _ λ_=>?_|refine ite ?_ ?_) |split|dsimp only|trivial
instance (x0:ώ) (x1:Array (Nat×z)):MC p (Go.Instr.build x0 x1):=⟨Se x0 x1⟩
instance (x0:ώ) (x1:Nat) (x2:Array (Nat×z)):MC p (Go.Instr.buildSlice x0 x1 x2):=MC.of (Go.Instr.buildSlice.eq_def _ _ _)
def abE(x0:ώ)(x1:Nat)(x2:Array (Nat×z)):az p (Go.Instr.buildSlice x0 x1 x2):=MC.h
instance (x0:z):MC p (Go.Builtin.lenOf x0):=MC.of (Go.Builtin.lenOf.eq_def _)
instance (x0:Array ώ) (x1:ώ) (x2:Array z):MC p (Go.Builtin.len_ x0 x1 x2):=MC.of (Go.Builtin.len_.eq_def _ _ _)
def aaC(x0:Array ώ)(x1:ώ)(x2:Array z):az p (Go.Builtin.len_ x0 x1 x2):=MC.h
instance (x0:z) (x1:z):MC p (Go.Builtin.max2 x0 x1):=MC.of (Go.Builtin.max2.eq_def _ _)
instance (x0:z) (x1:z):MC p (Go.Builtin.min2 x0 x1):=MC.of (Go.Builtin.min2.eq_def _ _)
def Rp(x0:Array ώ)(x1:ώ)(x2:Array z):az p (Go.Builtin.max_ x0 x1 x2):=by
 unfold Go.Builtin.max_
 repeat' first| (with_reducible first|exact MC.h|refine bind' ?_ λ_=>?_|refine foldlM _ (λ_ _=>?_) _|refine ite ?_ ?_) |split|dsimp only|trivial
instance (x0:Array ώ) (x1:ώ) (x2:Array z):MC p (Go.Builtin.max_ x0 x1 x2):=⟨Rp x0 x1 x2⟩
def Rq(x0:Array ώ)(x1:ώ)(x2:Array z):az p (Go.Builtin.min_ x0 x1 x2):=by
 unfold Go.Builtin.min_
 repeat' first| (with_reducible first|exact MC.h|refine bind' ?_ λ_=>?_|refine foldlM _ (λ_ _=>?_) _|refine ite ?_ ?_) |split|dsimp only|trivial
instance (x0:Array ώ) (x1:ώ) (x2:Array z):MC p (Go.Builtin.min_ x0 x1 x2):=⟨Rq x0 x1 x2⟩
instance (x0:Nat) (x1:Nat) (x2:z):MC p (Go.Builtin.firstCells x0 x1 x2):=MC.of (Go.Builtin.firstCells.eq_def _ _ _)
instance (x0:Array ώ) (x1:ώ) (x2:Array z):MC p (Go.Builtin.copy_ x0 x1 x2):=MC.of (Go.Builtin.copy_.eq_def _ _ _)
def aaB(x0:Array ώ)(x1:ώ)(x2:Array z):az p (Go.Builtin.copy_ x0 x1 x2):=MC.h
instance (x0:Array ώ) (x1:ώ) (x2:Array z):MC p (Go.Builtin.clear_ x0 x1 x2):=MC.of (Go.Builtin.clear_.eq_def _ _ _)
def aaA(x0:Array ώ)(x1:ώ)(x2:Array z):az p (Go.Builtin.clear_ x0 x1 x2):=MC.h
instance (x0:ϖ) (x1:Nat):MC p (Go.Builtin.holdsCells x0 x1):=MC.of (Go.Builtin.holdsCells.eq_def _ _)
instance (x0:Nat) (x1:Nat) (x2:Nat) (x3:Option ϖ) (x4:z):MC p (Go.Builtin.mayShare x0 x1 x2 x3 x4):=MC.of (Go.Builtin.mayShare.eq_def _ _ _ _ _)
instance (x0:Array ώ) (x1:ώ) (x2:Array z):MC p (Go.Builtin.append_ x0 x1 x2):=MC.of (Go.Builtin.append_.eq_def _ _ _)
def aaz(x0:Array ώ)(x1:ώ)(x2:Array z):az p (Go.Builtin.append_ x0 x1 x2):=MC.h
instance (x0:Ĺ) (x1:Nat) (x2:í):MC p (Go.Conv.floatToInt x0 x1 x2):=MC.of (Go.Conv.floatToInt.eq_def _ _ _)
def aaR(x0:Ĺ)(x1:Nat)(x2:í):az p (Go.Conv.floatToInt x0 x1 x2):=MC.h
instance (x0:í) (x1:Int):MC p (Go.Conv.intToInt x0 x1):=MC.of (Go.Conv.intToInt.eq_def _ _)
def aaS(x0:í)(x1:Int):az p (Go.Conv.intToInt x0 x1):=MC.h
instance (x0:ώ) (x1:ByteArray):MC p (Go.Conv.stringToBytes x0 x1):=MC.of (Go.Conv.stringToBytes.eq_def _ _)
def aaT(x0:ώ)(x1:ByteArray):az p (Go.Conv.stringToBytes x0 x1):=MC.h
instance (x0:Bool) (x1:Nat) (x2:ώ) (x3:z):MC p (Go.Instr.checkKey x0 x1 x2 x3):=⟨by
 induction x1 generalizing x2 x3 with
 |zero=>exact trivial
 |succ n ih=>
 unfold Go.Instr.checkKey
 repeat' first| (with_reducible first|exact MC.h|exact ih _ _|exact newObj id|exact setObj _ id|refine bind' ?_ λ_=>?_|refine zm _ (λ_ _=>?_) _|refine sO _ (λ_ _=>?_) _|refine Hs _ (λ_ _=>?_) _|refine map _ ?_|refine yb _ λ_=>?_|refine AJ _ λ_=>?_|refine foldlM _ (λ_ _=>?_) _|refine ite ?_ ?_) |split|dsimp only|trivial⟩
instance (x0:ώ) (x1:z) (x2:List Ğ) (x3:Nat):MC p (Go.Instr.findAsking x0 x1 x2 x3):=⟨by
 induction x2 generalizing x3 with
 |nil=>exact trivial
 |cons a l ih=>
 unfold Go.Instr.findAsking
 repeat' first| (with_reducible first|exact MC.h|exact ih _|exact newObj id|exact setObj _ id|refine bind' ?_ λ_=>?_|refine zm _ (λ_ _=>?_) _|refine sO _ (λ_ _=>?_) _|refine Hs _ (λ_ _=>?_) _|refine map _ ?_|refine yb _ λ_=>?_|refine AJ _ λ_=>?_|refine foldlM _ (λ_ _=>?_) _|refine ite ?_ ?_) |split|dsimp only|trivial⟩
instance (x0:ώ) (x1:z) (x2:List Ğ):MC p (Go.Instr.findKey x0 x1 x2):=MC.of (Go.Instr.findKey.eq_def _ _ _)
instance (x0:ώ) (x1:z) (x2:z) (x3:Bool):MC p (Go.Instr.lookup x0 x1 x2 x3):=MC.of (Go.Instr.lookup.eq_def _ _ _ _)
def abO(x0:ώ)(x1:z)(x2:z)(x3:Bool):az p (Go.Instr.lookup x0 x1 x2 x3):=MC.h
instance (x0:z) (x1:z):MC p (Go.Instr.keyThatStays x0 x1):=MC.of (Go.Instr.keyThatStays.eq_def _ _)
instance (x0:ώ) (x1:z) (x2:z) (x3:z):MC p (Go.Instr.mapUpdate x0 x1 x2 x3):=MC.of (Go.Instr.mapUpdate.eq_def _ _ _ _)
def abS(x0:ώ)(x1:z)(x2:z)(x3:z):az p (Go.Instr.mapUpdate x0 x1 x2 x3):=MC.h
instance (x0:Nat):MC p (Go.Instr.getLoop x0):=MC.of (Go.Instr.getLoop.eq_def _)
instance (x0:Æ) (x1:Array z) (x2:Array Tmp) (x3:Ϙ) (x4:Ϙ) (x5:Option Nat):MC p (Go.Instr.enterLoop x0 x1 x2 x3 x4 x5):=MC.of (Go.Instr.enterLoop.eq_def _ _ _ _ _ _)
def abH(x0:Æ)(x1:Array z)(x2:Array Tmp)(x3:Ϙ)(x4:Ϙ)(x5:Option Nat):az p (Go.Instr.enterLoop x0 x1 x2 x3 x4 x5):=MC.h
instance (x0:Nat) (x1:Array z):MC p (Go.Instr.yield x0 x1):=MC.of (Go.Instr.yield.eq_def _ _)
def abW(x0:Nat)(x1:Array z):az p (Go.Instr.yield x0 x1):=MC.h
instance (x0:Nat):MC p (Go.Instr.beginRound x0):=MC.of (Go.Instr.beginRound.eq_def _)
def abC(x0:Nat):az p (Go.Instr.beginRound x0):=MC.h
instance (x0:Nat) (x1:Option Ϙ):MC p (Go.Instr.endRound x0 x1):=MC.of (Go.Instr.endRound.eq_def _ _)
def abG(x0:Nat)(x1:Option Ϙ):az p (Go.Instr.endRound x0 x1):=MC.h
instance (x0:Nat):MC p (Go.Instr.endLoop x0):=MC.of (Go.Instr.endLoop.eq_def _)
def abF(x0:Nat):az p (Go.Instr.endLoop x0):=MC.h
instance (x0:Nat):MC p (Go.Instr.takeDeferred x0):=MC.of (Go.Instr.takeDeferred.eq_def _)
def abV(x0:Nat):az p (Go.Instr.takeDeferred x0):=MC.h
def results(x0:Ç)(x1:Array z):az p (Go.results x0 x1):=by
 unfold Go.results
 repeat' first| (with_reducible first|exact MC.h|refine bind' ?_ λ_=>?_|refine yb _ λ_=>?_|refine ite ?_ ?_) |split|dsimp only|trivial
instance (x0:Ç) (x1:Array z):MC p (Go.results x0 x1):=⟨results x0 x1⟩
end az
end Go.Sim
namespace Go.Sim
open Go
def XC(w:N)(a:ϖ)(s:String):yX (w.noCell a s):=by unfold Ad0;split<;>trivial
def afH(e:w.farLoad p a b=.error h):yX h:=by
 unfold World.farLoad at e;split at e
 ·split at e
  ·cases e
  ·cases e;trivial
 ·cases e;exact XC _ _ _
def afJ(e:w.farStore p a v b=.error h):yX h:=by
 unfold Ad2 at e;split at e
 ·split at e
  ·cases e
  ·cases e;trivial
 ·cases e;exact XC _ _ _
def anZ{s:Sem α}(V:az p s):∀(w:N) (h:Halt) (w':N),s.run p w=.halt h w'->yX h:=by
 induction s with
 |pure a=>intro w h w' e;cases e
 |load m a k ih=>
  intro w h w' e;simp only[ϥ] at e;split at e
  ·exact ih _ (V _) _ _ _ e
  ·split at e
   ·exact ih _ (V _) _ _ _ e
   ·rename_i hf;cases e;exact afH hf
 |store m a v k ih=>
  intro w h w' e;cases v<;>simp only[ϥ] at e<;>first
   | (cases e;trivial)
   | (split at e
      ·split at e
       ·cases e;trivial
       ·exact ih V _ _ _ e
      ·split at e
       ·exact ih V _ _ _ e
       ·rename_i hf;cases e;exact afJ hf)
 |new o k ih=>intro w h w' e;exact ih _ (V.2 _) _ _ _ e
 |shape r k ih=>intro w h w' e;exact ih _ (V _) _ _ _ e
 |freeze a n k ih=>intro w h w' e;exact ih V _ _ _ e
 |frozen a k ih=>intro w h w' e;exact ih _ (V _) _ _ _ e
 |getObj r k ih=>
  intro w h w' e;simp only[ϥ] at e;split at e
  ·cases e;trivial
  ·exact ih _ (V _) _ _ _ e
  ·cases e;trivial
 |setObj r o k ih=>
  intro w h w' e;simp only[ϥ] at e;split at e
  ·cases e;trivial
  ·exact ih V.2 _ _ _ e
  ·cases e;trivial
 |choose q k ih=>
  intro w h w' e;simp only[ϥ] at e;split at e
  ·exact ih _ (V _) _ _ _ e
  ·exact ih _ (V _) _ _ _ e
 |sys c k ih=>exact V.elim
 |program k ih=>intro w h w' e;exact ih _ V _ _ _ e
 |mark m k ih=>intro w h w' e;exact ih V _ _ _ e
 |halt h=>intro w h' w' e;cases e;exact V
def uX:Ą->N
 | .go _ w _=>w
 | .ended _ w _=>w
 |_=>default
def agr(hr:Tape):Ą->Ą
 | .go g w es=>.go g (bq w hr) es
 | .ended o w es=>.ended o (bq w hr) es
 |s=>s
inductive DL:Bool->List Ê->Prop
 |nil:DL U []
 |stop:DL D [cQ]
 |cons {b:Bool} (r:Nat) {ds:List Ê} (h:DL b ds):DL b (⟨.collected r,#[]⟩::ds)
inductive pY:List ϝ->Prop
 |base {fr:ϝ} (h:DL D fr.defers):pY [fr]
 |call {fr:ϝ} {cs:List ϝ} (h:DL U fr.defers) (t:pY cs):pY (fr::cs)
inductive Du:Ą->Prop
 |plain {g:ϐ} {w:N} {es:Array Ø} (h:Plain g) (hn:bO w.heap):Du (.go g w es)
 |ended {o:Outcome} {w:N} {es:Array Ø}:Du (.ended o w es)
 |sM {fr:ϝ} {cs:List ϝ} {w:N} {es:Array Ø} {ch:List Abt} (hm:fr.mode=.panicking ch) (hd:pY (fr::cs)) (hn:bO w.heap):Du (.go (aT fr cs) w es)
structure Good(f:N->Ą)(w:N):Prop where
 cls:Du (f w)
 drawn:w.drawn<=(uX (f w)).drawn
 tape:(uX (f w)).tape=w.tape
 loc:∀hr:Tape,(∀j q,w.drawn<=j->j<(uX (f w)).drawn->hr j q=w.tape j q)->(f (bq w hr)).bare=agr hr (f w).bare
def TB{s:Ą}:Du s.bare↔Du s:=by
 cases s with
 |go g w es=>
  refine⟨λh=>?_,λh=>?_⟩
  ·have:∀s,Du s->s=.go g w #[]->Du (.go g w es):=by
    intro s V e;cases V with
    |plain h hn=>cases e;exact .plain h hn
    |ended=>cases e
    |sM hm hd hn=>cases e;exact .sM hm hd hn
   exact this _ h rfl
  ·have:∀s,Du s->s=.go g w es->Du (.go g w #[]):=by
    intro s V e;cases V with
    |plain h hn=>cases e;exact .plain h hn
    |ended=>cases e
    |sM hm hd hn=>cases e;exact .sM hm hd hn
   exact this _ h rfl
 |ended o w es=>exact⟨λ_=>.ended,λ_=>.ended⟩
 |_=>exact⟨λh=>(by cases h),λh=>(by cases h)⟩
def UF(s:Ą):uX s.bare=uX s:=by cases s<;>rfl
def Good.congr{f g:N->Ą}(h:∀w,(f w).bare=(g w).bare)(x:Good g w):Good f w:=by
 have e:uX (f w)=uX (g w):=by rw[<-UF,h,UF]
 refine⟨TB.1 (by rw[h];exact TB.2 x.cls),by rw[e];exact x.drawn,by rw[e];exact x.tape,λhr hT=>?_⟩;rw[e] at hT;rw[h,h];exact x.loc hr hT
def Good.pure(h:Plain g)(hn:bO w.heap):Good (λw=>.go g w es) w:=⟨.plain h hn,ϊ _,rfl,λ_ _=>rfl⟩
def Good.ended{o:Outcome}{w:N}{es:Array Ø}:Good (λw=>.ended o w es) w:=⟨.ended,ϊ _,rfl,λ_ _=>rfl⟩
def Good.sM{fr:ϝ}{cs:List ϝ}{w:N}{es:Array Ø}{ch:List Abt}(hm:fr.mode=.panicking ch)(hd:pY (fr::cs))(hn:bO w.heap):Good (λw=>.go (aT fr cs) w es) w:=
 ⟨.sM hm hd hn,ϊ _,rfl,λ_ _=>rfl⟩
def Good.vS{s:Sem α}(V:az p s){k:ě α->Ą}(hn:bO w.heap)
 (cD:∀a au,s.run p w=.ok a au->bO au.heap->Good (λw=>k (.ok a w)) au)
 (hh:∀h au,s.run p w=.halt h au->yX h->bO au.heap->Good (λw=>k (.halt h w)) au):Good (λw=>k (s.run p w)) w:=by
 have hd:=Yd V w;have eQ:=an0 V w hn;cases e:s.run p w with
 |ok a au=>
  rw[e] at hd eQ;simp only[Dh] at hd eQ;have g:=cD a au e eQ;refine⟨by simp only[e];exact g.cls,by simp only[e];exact Ϥ hd.1 g.drawn,by simp only[e];exact g.tape.trans hd.2,λhr hT=>?_⟩
  simp only[e] at hT |-;have l:=Yh V w hr (λj q h1 h2=>hT j q h1 (by rw[e] at h2;exact Ϣ h2 g.drawn));rw[l,e];exact g.loc hr λj q h1 h2=>(hT j q (Ϥ hd.1 h1) h2).trans (by rw[hd.2])
 |halt h au=>
  have ho:=anZ V w h au e;rw[e] at hd eQ;simp only[Dh] at hd eQ;have g:=hh h au e ho eQ;refine⟨by simp only[e];exact g.cls,by simp only[e];exact Ϥ hd.1 g.drawn,by simp only[e];exact g.tape.trans hd.2,λhr hT=>?_⟩
  simp only[e] at hT |-;have l:=Yh V w hr (λj q h1 h2=>hT j q h1 (by rw[e] at h2;exact Ϣ h2 g.drawn));rw[l,e];exact g.loc hr λj q h1 h2=>(hT j q (Ϥ hd.1 h1) h2).trans (by rw[hd.2])
def aet{ch:List Abt}(hm:fr.mode=.panicking ch)(hd:pY (fr::cs))(hn:bO w.heap):
 (∃o aa,step p (ï fr cs w)=.ended o aa)\/∃kS mJ aa zf,step p (ï fr cs w)=.next (ï kS mJ aa)/\kS.mode=.panicking zf/\pY (kS::mJ)/\bO aa.heap:=by
 have Fg:ϙ p D (aT fr cs) w=Ð p D fr cs H w:=by unfold ϙ;simp only[hm]
 have hDL:∃b,DL b fr.defers/\(b=D->cs=[])/\(b=U->pY cs):=by
  cases hd with
  |base h=>exact⟨D,h,λ_=>rfl,λh=>(by cases h)⟩|call h t=>exact⟨U,h,λh=>(by cases h),λ_=>t⟩
 obtain⟨b,hl,h1,h2⟩:=hDL;generalize zQ:fr.defers=df at hl;cases hl with
 |nil=>
  have ht:=h2 rfl;have key:∀(c:ϝ) (rest:List ϝ),cs=c::rest->(∃o,Ð p D fr cs H w=.ended o w)\/Ð p D fr cs H w=.go {frame:=c.raise ch,callers:=rest,status:=.running,dying:=H} w:=by
   intro c rest fh;subst fh;unfold Ð;simp only[zQ,hm];by_cases hc:fr.catches p=D
   ·rw[if_pos hc];exact .inl ⟨_,rfl⟩
   ·rw[if_neg hc];exact .inr rfl
  have rz:∀c:ϝ,(∃zf,(c.raise ch).mode=.panicking zf)/\(c.raise ch).defers=c.defers:=by intro c;unfold Ack;split<;>exact⟨⟨_,rfl⟩,rfl⟩
  obtain⟨c,rest,fh⟩:∃c rest,cs=c::rest:=by
   cases ht with
   |base h=>exact⟨_,_,rfl⟩|call h t=>exact⟨_,_,rfl⟩
  obtain⟨⟨zf,zO⟩,U8⟩:=rz c;rcases key c rest fh with⟨o,e⟩ |e
  ·left;refine⟨o,w,Ab1 ?_⟩;rw[show ϙ p D {frame:=fr,callers:=cs,status:=.running,dying:=H} w=_ from Fg,e];rfl
  ·right;refine⟨c.raise ch,rest,w,zf,Ab2 ?_,zO,?_,hn⟩
   ·rw[show ϙ p D {frame:=fr,callers:=cs,status:=.running,dying:=H} w=_ from Fg,e];rfl
   ·subst fh;cases ht with
    |base h=>exact .base (U8▸h)|call h t=>exact .call (U8▸h) t
 |stop=>
  left;have e:Ð p D fr cs H w=Ĩ p {fr with defers:=[]} cs H cQ w:=by unfold Ð;simp only[zQ,cQ]
  have e2:∃o,(Ĩ p {fr with defers:=[]} cs H cQ w).bare=.ended o w:=by unfold Ĩ cQ;simp[Go.invoke,Go.stuck,ϧ,bind,Ϭ]
  obtain⟨o,e2⟩:=e2;refine⟨o,w,Ab1 ?_⟩;rw[show ϙ p D {frame:=fr,callers:=cs,status:=.running,dying:=H} w=_ from Fg,e];exact e2
 | @cons _ r ds h=>
   have e:(Ð p D fr cs H w).bare=(match(Ŝ r).run p w with
    | .ok calls w=>(.go {frame:={fr with defers:=calls++ds},callers:=cs,status:=.running,dying:=H} w:Ą)
    | .halt _ w=>.ended (.stuck "the deferred calls of a range-over-func loop have been taken" (fr.pos p)) w).bare:=by
    unfold Ð;simp only[zQ,Ņ,Ady];cases(Ŝ r).run p w<;>rfl
   have bh:(Ŝ r).run p w=.ok [] {w with heap:=w.heap.setIfInBounds r (.deferred H)}\/∃h au,(Ŝ r).run p w=.halt h au:=by
    unfold Ŝ;simp only[Go.getObj,bind,Ϭ,ϥ];cases ho:w.heap[r]? with
    |none=>right;exact⟨_,_,rfl⟩
    |some o=>
     cases o;case deferred calls=>
      cases calls with
      |none=>right;simp[Go.stuck,ϥ]
      |some l=>
       cases l with
       |nil=>left;simp[Go.setObj,Ϭ,ϥ,ho,pure]
       |cons x l=>exact absurd (show qX (.deferred (J (x::l))) from trivial) (hn.get ho)
     all_goals (right;simp[Go.stuck,ϥ])
   rcases bh with T| ⟨h',au,T⟩
   ·right;rw[T] at e;refine⟨{fr with defers:=ds},cs,_,ch,Ab2 (w':={w with heap:=w.heap.setIfInBounds r (.deferred H)}) ?_,hm,?_,hn.set r (λh=>h)⟩
    ·rw[show ϙ p D {frame:=fr,callers:=cs,status:=.running,dying:=H} w=_ from Fg,e];rfl
    ·cases b with
     |true=>rw[h1 rfl];exact .base h
     |false=>exact .call h (h2 rfl)
   ·left;rw[T] at e;refine⟨_,_,Ab1 (o:=.stuck "the deferred calls of a range-over-func loop have been taken" (fr.pos p)) (w':=au) ?_⟩;rw[show ϙ p D {frame:=fr,callers:=cs,status:=.running,dying:=H} w=_ from Fg,e];rfl
def aes:∀(n:Nat) {fr:ϝ} {cs:List ϝ} {w:N} {ch:List Abt},fr.mode=.panicking ch->pY (fr::cs)->bO w.heap->
 ∀ {kS:ϝ} {mJ:List ϝ} {aa:N},runN p n (ï fr cs w)=.next (ï kS mJ aa)->∃zf,kS.mode=.panicking zf:=by
 intro n;induction n with
 |zero=>intro fr cs w ch hm hd hn kS mJ aa e;simp only[runN,ï,Stepped.next.injEq,Machine.mk.injEq] at e;obtain⟨_,e,_⟩:=e;simp only[Array.mk.injEq,List.cons.injEq,Aco] at e;exact⟨ch,e.1.1▸hm⟩
 |succ n ih=>
  intro fr cs w ch hm hd hn kS mJ aa e;simp only[runN] at e;rcases aet (p:=p) hm hd hn with⟨o,aa,h⟩ | ⟨arK,arw,au,ars,h,qz,gh,dn⟩
  ·rw[h] at e;cases e
  ·rw[h] at e;exact ih qz gh dn e
end Go.Sim
namespace Go.Sim
open Go
section
variable {P:ϗ}{F:Array Ç}{C:bX}{G:Nat->Bool}{Z:Ren}
def az.val{s:Sem z}(h:az p s):az p (do Ϩ (Ţ (<-s))):=az.bind' h λ_=>trivial
def az.unit{s:Sem Unit}(h:az p s):az p (do s;Ϩ Adn):=az.bind' h λ_=>trivial
def az.Gm{t:ώ}(h:p.underlying t=J d){f:ŗ->Sem α}(hf:az p (f d)):az p (Go.underlying t>>=f):=by
 show az p ((match p.underlying t with
  |some d=>(Ϩ d:Sem ŗ)
  |none=>Go.stuck _)>>=f)
 rw[h];exact hf
def az.convert{s d:ώ}(h:Rz P s d)(x:z):az (tw P F) (Go.convert s d x):=by
 cases h with
 |ints j k h1 h2=>
  unfold Go.convert;refine az.Gm (d:=.int j) (by rw[kJ];exact h1) (az.Gm (d:=.int k) (by rw[kJ];exact h2) ?_);cases x;case int=>exact az.aaS _ _
  case float=>exact az.aaR _ _ _
  case pointer q=>cases q<;>exact trivial
  all_goals exact trivial
 |bytes e h1 h2 h3=>
  unfold Go.convert;refine az.Gm (d:=.string) (by rw[kJ];exact h1) (az.Gm (d:=.slice e) (by rw[kJ];exact h2) ?_);cases x;case string=>exact az.Gm (d:=.int .u8) (by rw[kJ];exact h3) (az.aaT _ _)
  case slice q n c=>cases q<;>exact trivial
  all_goals exact trivial
def az.callFunc(ζ:Env P F C G)(f:Æ)(x:Array z):az (tw P F) (Go.callFunc f x):=by
 have TZ:∀fn c,F[f]?=J fn->fn.body=J c->(fn.name== "runtime.NumGoroutine")=U->az (tw P F) (Go.callFunc f x):=by
  intro fn c h1 h3 h5;have e1:(tw P F).funcs[f]?=J fn:=h1;unfold Go.callFunc;show az (tw P F) (match(tw P F).funcs[f]? with
   |none=>Go.stuck _
   |some fn=>_)
  simp only[e1,h5,h3,Aec,è,if_false];trivial
 by_cases hf:C.ok f=D
 ·obtain⟨fn,c,h1,h2,h3,h4,h5⟩:=ζ.get f hf;exact TZ fn c h1 h3 h5
 ·by_cases hh:C.hole f=D
  ·obtain⟨fn,fn',c,c',h1,h2,h3,h4,h5,h6⟩:=ζ.EZ f hh;exact TZ fn c h1 h3 h5
  ·rcases ζ.dead f (by simpa using hf) (by simpa using hh) with e| ⟨fn,e,θ⟩
   ·have e1:(tw P F).funcs[f]?=H:=e;unfold Go.callFunc;show az (tw P F) (match(tw P F).funcs[f]? with
     |none=>Go.stuck _
     |some fn=>_)
    simp only[e1];trivial
   ·have e1:(tw P F).funcs[f]?=J fn:=e;unfold Go.callFunc;show az (tw P F) (match(tw P F).funcs[f]? with
     |none=>Go.stuck _
     |some fn=>_)
    simp only[e1,θ.name,θ.body,θ.next,θ.row,θ.init,Option.isNone_none,è,if_false,if_true,Bool.false_and];trivial
def az.CG(ζ:Env P F C G)(hv:aj Z v v')(x:Array z):az (tw P F) (do let d <-Acg v x;Go.invoke d.target d.args):=by
 cases hv;case func fn fn' a a' b b' h ha h1 hb h2=>
  cases h with
  |func f=>exact az.callFunc ζ f _|yield hl=>exact az.abW _ _
 case nilFunc=>show az (tw P F) (Go.runtimePanic .nilDeref:Sem Next);exact az.runtimePanic _
 case fjunk=>
  have e:(do let d <-Acg (.func (.method "") #[.nilIface] #[]) x;Go.invoke d.target d.args:Sem Next)=Go.runtimePanic .nilDeref:=by
   show Go.invoke (.fn (.method "") #[]) (#[.nilIface]++x)=_;have h0:(#[Value.nilIface]++x)[0]?=J .nilIface:=by rw[Aaw (by simp)];rfl
   unfold Go.invoke;simp only[h0,Go.callMethod]
  rw[e];exact az.runtimePanic _
 all_goals exact trivial
def az.builtin{p:ϗ}{Q:ϗ}(b:Builtin)(ts:Array ώ)(t:ώ)(cs:Array Bool)(x:Array z)(n:Nat)(hb:wN Q ts n b=D):az p (Go.builtin b ts t cs x):=by
 cases b<;>try(simp[wN] at hb;done)
 case append=>exact az.val (az.aaz _ _ _)
 case clear=>exact az.val (az.aaA _ _ _)
 case copy=>exact az.val (az.aaB _ _ _)
 case len=>exact az.val (az.aaC _ _ _)
 case max=>exact az.val (az.Rp _ _ _)
 case min=>exact az.val (az.Rq _ _ _)
variable {e e':î->z}
def az.execOp(ζ:Env P F C G)(o:Oper)(ho:k8 P G o=D)(h:re G Z e e'):az (tw P F) (Go.execOp e o):=by
 unfold k8 at ho;rw[Ä] at ho;obtain⟨eT,ag⟩:=ho;have mem:∀x,x∈o.op.operands->aj Z (e x) (e' x):=λx hx=>h x (Xx eT hx)
 unfold Go.execOp;generalize o.op=op at *;cases op<;>try(simp[jA] at ag;done)
 case move x=>exact trivial
 case assign x=>exact trivial
 case pick c a b=>exact az.bind' (az.asBool _) λ_=>trivial
 case alloc t=>exact az.val (az.abB _ _ _)
 case box t x=>exact az.val (az.abD _ _)
 case build t ps=>exact az.val (az.Se _ _)
 case buildSlice t n ps=>exact az.val (az.abE _ _ _)
 case load t a=>exact az.val (az.abN _ _)
 case store t a x=>exact az.unit (az.abU _ _ _)
 case binOp bop t x y yt=>exact az.val (az.bind' (az.eqGuard _ _ _ _ _ _) λ_=>az.binOp _ _ _ _)
 case unOp u t x=>
  cases u<;>try(simp[jA] at ag;done)
  refine az.val ?_;unfold Op.unary;cases e x<;>exact trivial
 case convert s d x=>
  refine az.val (az.convert (P:=P) ?_ _);simp only[jA,BJ] at ag;split at ag
  ·exact .ints _ _ (by assumption) (by assumption)
  ·unfold BC at ag;split at ag
   ·exact .bytes _ (by assumption) (by assumption) (by assumption)
   ·cases ag
  ·cases ag
 case nilCheck x=>
  have hx:=mem x (by simp[Ã]);simp only;generalize e x=v at hx |-;generalize e' x=v' at hx;cases hx;case func fn fn' _ _ _ _ hf _ _ _ _=>cases hf<;>exact trivial
  all_goals first|exact trivial|exact az.runtimePanic _
 case makeFunc fn a b=>exact az.val (az.abP _ _ _)
 case makeMap t r=>exact az.val (az.abQ _ _)
 case makeSlice t l c=>exact az.val (az.abR _ _ _)
 case slice t x lo hi mx=>exact az.val (az.abT _ _ _ _ _)
 case fieldAddr s x i=>exact az.val (az.abK _ _ _)
 case field t x i=>exact az.val (az.abJ _ _ _)
 case indexAddr t x i=>exact az.val (az.abM _ _ _)
 case index t x i=>exact az.val (az.abL _ _ _)
 case lookup t x i ok=>exact az.val (az.abO _ _ _ _)
 case mapUpdate t m k x=>exact az.unit (az.abS _ _ _ _)
 case extract x i=>exact az.val (az.abI _ _)
 case call c=>
  obtain⟨callee,args,ts⟩:=c;cases callee with
  |invoke=>simp[jA] at ag
  |value f=>exact az.CG ζ (mem f (by simp[Ã,Call.operands])) _|builtin b=>exact az.builtin (Q:=P) b ts _ _ _ args.size (by simpa [jA] using ag)
end
end Go.Sim
namespace Go.Sim
open Go
def acm:(Ù p D fr cs H s w).bare=(match s.run p w with
 | .ok n au=>Ù p D fr cs H (.pure n) au
 | .halt h au=>Ù p D fr cs H (.halt h) au).bare:=by
 have e:s.runT p w #[]=(s.run p w,(s.runT p w #[]).2):=Prod.ext (Ady p s w #[]) rfl;unfold Ù;simp only[if_true];rw[e];cases T:s.run p w with
 |ok n au=>simp only[Ņ,ϧ];try(cases n<;>rfl)
 |halt h au=>simp only[Ņ,ϧ];try(cases h<;>first|rfl| (rename_i u;cases u<;>rfl))
def Sm:Next->Prop
 | .value _| .skip| .enter .. | .round .. =>True
 |_=>False
section
variable {P:ϗ}{F:Array Ç}{C:bX}{S:Tl}{G:Nat->Bool}{Z:Ren}
def Qv{s':Sem Next}(V:ep (tw P F) P C Z (lQ C) s s')(hw:cg C Z w w'):∀n au,s.run (tw P F) w=.ok n au->Sm n:=by intro n au T;obtain⟨bM,n',_,_,_,k,_⟩:=V Z Z.le_refl w {w' with tape:=w.tape,drawn:=w.drawn} #[] (cg.rel ⟨hw.dL,hw.dq,hw.fn,hw.inj,hw.obj⟩ (λ_ _=>rfl)) n au T;cases k<;>trivial
def TR{d d':List Ê}(h:kM S Z b d d'):DL b d:=by
 induction h with
 |nil=>exact .nil
 |stop=>exact .stop
 |cons hd _ ih=>cases hd;exact .cons _ ih
def YV(h:ee C S Z b fr ba)(hL:Below C S Z b cs bu):pY (fr::cs):=by
 induction hL generalizing fr ba with
 |base=>cases h with|mk f ht hk hd hm T hf=>exact .base (TR hd)
 |call hq aw _ ih=>
  refine .call ?_ (ih hq);cases h with|mk f ht hk hd hm T hf=>exact TR hd
def D8(fr:ϝ)(v:z):(fr.finish v).mode=fr.mode/\(fr.finish v).defers=fr.defers:=by unfold ē;split<;>exact⟨rfl,rfl⟩
def vM(h:fr.mode=.run):Plain (aT fr cs):=⟨⟨fr,cs,rfl⟩,λch e=>by simp only[h] at e;cases e⟩
def JK(h:fr.mode=.returning):Plain (aT fr cs):=⟨⟨fr,cs,rfl⟩,λch e=>by simp only[h] at e;cases e⟩
def L9(ζ:Env P F C G)(V:az (tw P F) s)(hn:bO w.heap)(hm:fr.mode=.run)(hd:pY (fr::cs))
 (xQ:∀n au,s.run (tw P F) w=.ok n au->Sm n):Good (λw=>Ù (tw P F) D fr cs H s w) w:=by
 refine Good.congr (λw=>acm) ?_;refine Good.vS V (k:=λr=>match r with
  | .ok n au=>Ù (tw P F) D fr cs H (.pure n) au
  | .halt h au=>Ù (tw P F) D fr cs H (.halt h) au) hn (λn au T dn=>?_) λh au T ho dn=>?_
 ·have Wk:=xQ n au T;refine Good.congr (g:=λw=>match n with
   | .value v=>.go (aT (fr.finish v) cs) w
   | .skip=>.go (aT (fr.finish L) cs) w
   | .enter f args=>.go (aT (à (tw P F) f args (match fr.todo with| .call _ D _ _::_=>.wrapped|_=>.normal)) (fr::cs)) w
   | .round l f tmps a b=>.go (aT (Frame.round l f tmps a b .normal) (fr::cs)) w
   |_=>.ended (.stuck "" "") w) (λw=>?_) ?_
  ·unfold Ù;simp only[if_true,ϧ,Ņ];cases n<;>first|rfl|exact Wk.elim
  ·cases n<;>first|exact Wk.elim|skip
   case value v=>exact Good.pure (vM ((D8 fr v).1.trans hm)) dn
   case skip=>exact Good.pure (vM ((D8 fr L).1.trans hm)) dn
   case enter f x=>exact Good.pure (vM rfl) dn
   case round l f tm a b=>exact Good.pure (vM rfl) dn
 ·cases h<;>first|exact ho.elim|skip
  case panic v=>
   obtain⟨ch,zO⟩:=raise_mode fr [{v,recovered:=U}];refine Good.congr (g:=λw=>.go (aT (fr.raise [{v,recovered:=U}]) cs) w) (λw=>?_) (Good.sM zO ?_ dn)
   ·unfold Ù;simp only[if_true,ϧ,Ņ]
   ·have:(fr.raise [{v,recovered:=U}]).defers=fr.defers:=by unfold Ack;split<;>rfl
    cases hd with
    |base h=>exact .base (this▸h)|call h t=>exact .call (this▸h) t
  case stuck why=>refine Good.congr (g:=λw=>.ended (.stuck why (fr.pos (tw P F))) w) (λw=>?_) Good.ended;unfold Ù;simp only[if_true,ϧ,Ņ]
  case unsupported u=>
   by_cases hu:∃g,u=.initOrder g
   ·obtain⟨g,rfl⟩:=hu;refine Good.congr (g:=λw=>early (tw P F) fr cs H g w) (λw=>?_) ?_
    ·unfold Ù;simp only[if_true,ϧ,Ņ]
    ·refine Good.congr (g:=λw=>.ended (.unsupported (.initOrder g) (fr.pos (tw P F))) w) (λw=>?_) Good.ended;unfold early;simp only[ζ.ahead,ζ.steps g,Aa4,è,if_false]
   ·refine Good.congr (g:=λw=>.ended (.unsupported u (fr.pos (tw P F))) w) (λw=>?_) Good.ended;unfold Ù;simp only[if_true,ϧ,Ņ];cases u<;>first|rfl|exact(hu ⟨_,rfl⟩).elim
def Good.Gb{s:Sem α}(V:az p s){q:ϗ}{k:ě α->Ą}(hn:bO w.heap)
 (cD:∀a au,s.run p w=.ok a au->bO au.heap->Good (λw=>k (.ok a w)) au)
 (hh:∀h au,s.run p w=.halt h au->yX h->bO au.heap->Good (λw=>k (.halt h w)) au):Good (λw=>â (seen q fn (s.runT p w #[]).2) (k (s.runT p w #[]).1)) w:=by
 refine Good.congr (g:=λw=>k (s.run p w)) (λw=>?_) (Good.vS V hn cD hh);rw[Ņ,Ady]
def TS(hn:bO w.heap)(cq:ee C S Z U fr ba)(hL:Below C S Z U cs bu)(m:Bool):Good (λw=>ĸ (tw P F) m fr cs H v w) w:=by
 cases cq with
 |mk f ht hk hd hm T hf=>
  cases hL with
  |call hq aw hL=>
   cases hq with
   |mk f ht hk hd hm T hf=>
    refine Good.pure (g:=aT (ē _ v) _) ?_ hn;cases hm with
    |run=>exact vM (D8 _ _).1|returning=>exact JK (D8 _ _).1
def Py{w':N}(hn:bO w.heap)(cq:ee C S Z b fr ba)(hL:Below C S Z b cs bu)(m:Bool)(j:Option Ϙ):Good (λw=>FM (tw P F) m fr cs w j) w:=by
 have ie:=cq;cases cq with
 | @mk f t t' ht k k' hk d d' hd md hm ro jE T fl hf=>
   unfold FM;cases T with
   |none=>
    simp only;split
    ·exact Good.pure (JK rfl) hn
    ·exact Good.pure (JK rfl) hn
    ·exact Good.ended
   |some hl=>
    have hb:b=U:=by
     cases b with
     |false=>rfl|true=>exact absurd (hf.base rfl) (by simp)
    subst hb;simp only;refine Good.Gb (az.abG _ _) (k:=λr=>match r with
     | .ok v w=>ĸ (tw P F) m _ cs H v w
     | .halt _ w=>.ended (.stuck "range over a function: no such loop" _) w) hn (λa au _ dn=>TS dn ie hL m) λ_ _ _ _ _=>Good.ended
def afy(ζ:Env P F C G)(hG:∀g,G g=D->Z g g)(hn:bO w.heap)(hw:cg C Z w w')(cq:ee C S Z q fr ba)(rT:fr.mode=.run)(hL:Below C S Z q cs bu)(m:Bool):
 Good (λw=>ϻ (tw P F) m D fr cs H w) w:=by
 have ie:=cq;have eW:=YV cq hL;have eL:iP C Z w {w' with tape:=w.tape,drawn:=w.drawn}:=cg.rel ⟨hw.dL,hw.dq,hw.fn,hw.inj,hw.obj⟩ (λ_ _=>rfl)
 cases cq with
 | @mk f t t' ht k k' hk d d' hd md hm ro jE T fl hf=>
   simp only at rT;subst rT;have cl:∀ {c},C.clean c->cC P G c=D:=λh=>(ζ.clean _).1 h
   have lc:∀ {c},cC P G c=D->C.clean c:=λh=>(ζ.clean _).2 h;have pu:∀ {k₁:List Item} {d:List Ê},Good (λw=>.go (aT ⟨f,t,k₁,d,.run,.normal,ro⟩ cs) w) w:=Good.pure (vM rfl) hn;have ev:∀ {k k':List Item} {d d':List Ê} {r r':Option Nat},re G Z (á ⟨f,t,k,d,.run,.normal,r⟩) (á ⟨f,t',k',d',.run,fl,r'⟩):=Ec hG ht;cases hk with
   |nil=>exact Py (w':=w') hn ie hL m H|stop=>exact Good.ended
   | @cons _ i i' k k' hi hk=>
     cases hi with
     |inBlock id=>exact pu|inScope c hc=>exact pu|inLoop c hc=>exact pu|inRangeFunc hl=>exact Good.ended
     |beginRound=>
      refine L9 ζ (az.unit ?_) hn rfl eW ?_
      ·cases T with
       |none=>exact trivial|some hl=>exact az.abC _
      ·refine Qv (P:=P) (C:=C) (Z:=Z) (Sim.Q2 (s':=jE.elim (Go.stuck "beginRound: no round") Ade) ?_) hw;cases T with
       |none=>exact Sim.stuck|some hl=>exact Sim.beginRound hl
     |endRangeFunc hl=>
      refine Good.Gb (az.abF _) (k:=λr=>match r with
       | .ok jump w=>.go (aT ⟨f,t,(jump.map Item.code).toList++k,d,.run,.normal,ro⟩ cs) w
       | .halt (.panic v) w=>.go (aT ((⟨f,t,_,d,.run,.normal,ro⟩:ϝ).raise [{v,recovered:=U}]) cs) w
       | .halt _ w=>.ended (.stuck "range over a function: no such loop" _) w) hn (λa au _ dn=>Good.pure (vM rfl) dn) λh au _ ho dn=>?_
      cases h with
      |panic v=>
       refine Good.sM (fr:=(⟨f,t,_,d,.run,.normal,ro⟩:ϝ).raise [{v,recovered:=U}]) (ch:=[{v,recovered:=U}]) rfl ?_ dn;cases eW with
       |base h=>exact .base h|call h t=>exact .call h t
      |_=>exact Good.ended
     |inRegion id dr ops todo hc=>
      cases todo with
      |nil=>exact pu
      |cons i rest=>
       have Ag:ops.all (k8 P G)=D:=cl hc;unfold ϻ;simp only;split
       ·unfold stepG.oper;simp only[Frame.oper?];cases ho:ops[i]? with
        |none=>exact Good.ended
        |some o=>
         have ma:o∈ops:= Ń ho;have jy:k8 P G o=D:=by simpa using ħ.1 Ag o ma
         have oN:∀q,o.op≠ .defer q:=λq e=>by simp[k8,jA,e] at jy
         have he:=ev (k:=.inRegion ops (i::rest)::k) (k':=.inRegion ops (i::rest)::k') (d:=d) (d':=d') (r:=ro) (r':=jE);have:=L9 ζ (az.execOp ζ o jy he) hn rfl eW (Qv (ep.execOp ζ o jy he) hw);simp only;cases T with
         |none=>exact this
         |some hl=>
          cases ag:o.op<;>first|exact absurd ag (oN _) |exact this
       ·exact Good.pure (vM (D8 _ _).1) hn
     |cut hc=>
      rcases mA.TO hc with rfl| ⟨x,y,y',rfl,rfl,ha,hb⟩
      ·exact Good.ended
      ·exact pu
     |code cd hc=>
      have fV:=cl hc;cases cd with
      |skip=>exact pu|label l=>exact pu|ret=>exact Py (w':=w') hn ie hL m (J .ret)|seq x y=>exact pu
      |cond x y υ=>
       unfold ϻ;simp only;split
       ·exact pu
       ·exact Good.ended
      |block id x=>exact pu|loop x=>exact pu|scope x=>exact pu
      |exit id=>
       have:=Py (P:=P) (F:=F) (w':=w') hn ie hL m (J (.exit id));unfold ϻ;simp only;cases exitTo id k with
       |none=>exact this|some k₁=>exact pu
      |region id ops dr=>
       unfold ϻ;simp only;cases dr with
       |false=>exact pu
       |true=>
        simp only[Aa4,è,if_false];refine Good.vS (p:=tw P F) (s:=Go.choose (.order f id)) (az.choose _) (k:=λr=>match r with
         | .ok n w=>.go (aT ⟨f,t,.inRegion ops (Region.schedule ((tw P F).follows .mixedOrders) ops n)::k,d,.run,.normal,ro⟩ cs) w
         | .halt _ w=>.ended (.stuck "order" ((⟨f,t,.code (.region id ops D)::k,d,.run,.normal,ro⟩:ϝ).pos (tw P F))) w) hn (λa au _ dn=>?_) (λh au _ _ _=>?_)
        ·exact Good.pure (vM rfl) dn
        ·exact Good.ended
      |rangeFunc g ps x y=>
       simp only[cC,Ä] at fV;refine Good.Gb (az.abH _ _ _ _ _ _) (k:=λr=>match r with
        | .ok (l,mark) w=>Ù (tw P F) D ⟨f,t,.inRangeFunc l::k,mark++d,.run,.normal,ro⟩ cs H
          (do let d <-resolve (á ⟨f,t,.inRangeFunc l::k,mark++d,.run,.normal,ro⟩) {callee:=.value g,args:=#[.const (.func (.yield l) #[] #[])],argTypes:=#[]} 0;Go.invoke d.target d.args) w
        | .halt _ w=>.ended (.stuck "range over a function: no such loop" _) w) hn (λa au bh dn=>?_) λ_ _ _ _ _=>Good.ended
       obtain⟨bM,y2,eF,eM,k1,⟨hl,Cj⟩,k3,k4,k5⟩:=Sim.enterLoop (P:=P) (F:=F) (C:=C) f ht ps (lc fV.1.2) (lc fV.2) T Z Z.le_refl w {w' with tape:=w.tape,drawn:=w.drawn} #[] eL a au bh;obtain⟨l1,Jp⟩:=a;obtain⟨xY,Jq⟩:=y2;simp only at hl Cj |-;have he:re G bM (á ⟨f,t,.inRangeFunc l1::k,Jp++d,.run,.normal,ro⟩) (á ⟨f,t',.inRangeFunc xY::k',Jq++d',.run,fl,jE⟩):=Ec (λg hg=>k4.le _ _ (hG g hg)) (ht.mono k4.le);have hy:aV bM #[Value.func (.yield l1) #[] #[]] #[Value.func (.yield xY) #[] #[]]:=cf.one (R:=aj bM) (aj.func (.yield hl) rfl (by simp) rfl (by simp));refine L9 ζ ?_ dn rfl ?_ (Qv (Sim.ml (Sim.CG ζ (he g fV.1.1) (by simpa [á] using hy))) k3.core)
       ·exact az.CG ζ (he g fV.1.1) _
       ·have nI:ee C S bM q ⟨f,t,.inRangeFunc l1::k,Jp++d,.run,.normal,ro⟩ ⟨f,t',.inRangeFunc xY::k',Jq++d',.run,fl,jE⟩:=.mk f (ht.mono k4.le) (.cons (.inRangeFunc hl) (hk.mono k4.le)) (kM.app Cj (hd.mono k4.le)) .run (by
         cases T with
         |none=>exact .none|some h=>exact .some (k4.le _ _ h)) hf
        exact YV nI (hL.mono k4.le)
      |goto l=>simp[cC] at fV
      |refuse s=>simp[cC] at fV
def aql(ζ:Env P F C G)(hn:bO w.heap)(hw:cg C Z w w')(cq:ee C S Z b fr ba)(rT:fr.mode=.returning)(hL:Below C S Z b cs bu)(m:Bool):
 Good (λw=>Ð (tw P F) m fr cs H w) w:=by
 have ie:=cq;cases cq with
 | @mk f t t' ht k k' hk d d' hd md hm ro jE T fl hf=>
   simp only at rT;subst rT;have E6:ro=H:=by
    rcases Aed ro with e| ⟨x,e⟩
    ·exact e
    ·exact absurd (hf.round (by simp[e])) (by simp)
   subst E6;cases hd with
   |nil=>
    obtain⟨fn,cd,h1,h2,h3,h4,h5⟩:=ζ.get f (hf.ok rfl rfl);have e1:(tw P F).funcs[f]?=J fn:=h1;unfold Ð;simp only[e1];refine Good.Gb (az.results _ _) (k:=λr=>match r with
     | .ok v w=>ĸ (tw P F) m _ cs H v w
     | .halt (.stuck s) w=>.ended (.stuck s _) w
     | .halt _ w=>.ended (.stuck "return: the result variables cannot be read" _) w) hn (λa au _ dn=>TS dn ie hL m) λh _ _ _ _=>?_
    cases h<;>exact Good.ended
   |stop=>refine Good.congr (g:=λw=>.ended (.stuck "call: a method without a receiver" ((⟨f,t,k,[],.returning,.normal,H⟩:ϝ).pos (tw P F))) w) (λw=>?_) Good.ended;unfold Ð Ĩ cQ;simp[Go.invoke,Go.stuck,ϧ,bind,Ϭ]
   |cons hi hd=>
    cases hi with
    | @collected r r' hb=>
      refine Good.Gb (az.abV _) (k:=λr=>match r with
       | .ok calls w=>.go {frame:={ (⟨f,t,k,_,.returning,.normal,H⟩:ϝ) with defers:=calls++_},callers:=cs,status:=.running,dying:=H} w
       | .halt _ w=>.ended (.stuck "the deferred calls of a range-over-func loop have been taken" _) w) hn (λa au _ dn=>Good.pure (JK rfl) dn) λ_ _ _ _ _=>Good.ended
def apx(ζ:Env P F C G)(hG:∀g,G g=D->Z g g)(hn:bO w.heap)(hw:cg C Z w w')(cq:ee C S Z q fr ba)(hL:Below C S Z q cs bu):
 Good (λw=>ϙ (tw P F) D (aT fr cs) w) w:=by
 have ie:=cq;cases cq with
 | @mk f t t' ht k k' hk d d' hd md hm ro jE T fl hf=>
   cases hm with
   |run=>exact afy ζ hG hn hw ie rfl hL D|returning=>exact aql ζ hn hw ie rfl hL D
end
inductive Safe(p:ϗ)(Q:ϐ->N->Prop):ϐ->N->Prop
 |stop {g:ϐ} {w:N} (h:Q g w):Safe p Q g w
 |step {g:ϐ} {w:N} (nx:Tape->ϐ×N) (h:∀hr:Tape,(∃es,ϙ p D g (bq w hr)=.go (nx hr).1 (nx hr).2 es)/\Plain (nx hr).1) (V:∀hr,Safe p Q (nx hr).1 (nx hr).2):Safe p Q g w
section
variable {P:ϗ}{F:Array Ç}{C:bX}{S:Tl}{G:Nat->Bool}
def Inv(C:bX)(S:Tl)(G:Nat->Bool)(g:ϐ)(w:N):Prop:=
 bO w.heap/\∃(Z:Ren) (b:Bool) (fr ba:ϝ) (cs bu:List ϝ) (w':N),g=aT fr cs/\(∀g,G g=D->Z g g)/\ee C S Z b fr ba/\Below C S Z b cs bu/\cg C Z w w'
def cg.left{Z:Ren}(h:cg C Z w w')(e:aa.heap=w.heap):cg C Z aa w':=⟨by rw[e];exact h.dL,h.dq,h.fn,h.inj,by rw[e];exact h.obj⟩
def cg.right{Z:Ren}(h:cg C Z w w')(e:aa.heap=w'.heap):cg C Z w aa:=⟨h.dL,by rw[e];exact h.dq,h.fn,h.inj,by rw[e];exact h.obj⟩
def Inv.bq{g:ϐ}{w:N}(h:Inv C S G g w)(hr:Tape):Inv C S G g (bq w hr):=by obtain⟨hn,Z,b,fr,ba,cs,bu,w',e,hG,cq,hL,hw⟩:=h;exact⟨hn,Z,b,fr,ba,cs,bu,w',e,hG,cq,hL,hw.left rfl⟩
def Inv.zr(ζ:Env P F C G)(h:Inv C S G g w):Good (λw=>ϙ (tw P F) D g w) w:=by obtain⟨hn,Z,b,fr,ba,cs,bu,w',e,hG,cq,hL,hw⟩:=h;subst e;exact apx ζ hG hn hw cq hL
def Inv.step(ζ:Env P F C G)(hh:∀f,C.hole f=U){g:ϐ}{w:N}(h:Inv C S G g w){dP:ϐ}{aa:N}{es:Array Ø}(e:ϙ (tw P F) D g w=.go dP aa es)(hp:Plain dP):Inv C S G dP aa:=by
 have ig:=h.zr ζ;have qF:bO aa.heap:=by
  have:=ig.cls;simp only[e] at this;cases this with
  |plain h hn=>exact hn|sM hm hd hn=>exact hn
 obtain⟨hn,Z,b,fr,ba,cs,bu,w',rfl,hG,cq,hL,hw⟩:=h;have eL:iP C Z w {w' with tape:=w.tape,drawn:=w.drawn}:=(hw.right (aa:={w' with tape:=w.tape,drawn:=w.drawn}) rfl).rel λ_ _=>rfl
 obtain⟨bM,eB,aF,es',h1,h2,h3,h4,h5⟩:=YS ζ hG eL cq hL D D D .running .running H H dP aa es e hp;cases h2 with
 |inside nI oG=>exact⟨qF,bM,_,_,_,_,_,aF,rfl,λg hg=>h4.le _ _ (hG g hg),nI,oG,h3⟩
 |hole f hf=>rw[hh f] at hf;cases hf
def aku(h:ï fr cs w=ï ba bu w'):fr=ba/\cs=bu/\w=w':=by simp only[ï,Machine.mk.injEq] at h;obtain⟨h1,h2,_⟩:=h;simp only[Array.mk.injEq,List.cons.injEq,Aco] at h2;exact⟨h2.1.1,h2.1.2.1,h1⟩
def Qn(ζ:Env P F C G)(hh:∀f,C.hole f=U){Q:ϐ->N->Prop}(hQ:∀g w hr,Q g w->Q g (bq w hr))(hQm:∀g w,Q g w->∀ch,g.frame.mode≠ .panicking ch)
 {BR:ϐ}{aR:N}(hi:Inv C S G BR aR)
 (aiC:∀hr:Tape,∃n kS mJ aa,runN (tw P F) n (ï BR.frame BR.callers (bq aR hr))=.next (ï kS mJ aa)/\Q (aT kS mJ) aa):Safe (tw P F) Q BR aR:=by
 apply ä;intro Ip
 let St:=ϐ×N
 let Bb:St->Prop:=λx=>Inv C S G x.1 x.2/\¬Safe (tw P F) Q x.1 x.2
 have ai:∀x:St,Bb x->∃hr:Tape,∀y:St,(∃es,ϙ (tw P F) D x.1 (bq x.2 hr)=.go y.1 y.2 es)->Plain y.1->¬Safe (tw P F) Q y.1 y.2:=by
  intro x hx;apply ä;intro br;apply hx.2;have eT:∀hr:Tape,∃y:St,(∃es,ϙ (tw P F) D x.1 (bq x.2 hr)=.go y.1 y.2 es)/\Plain y.1/\Safe (tw P F) Q y.1 y.2:=by intro hr;apply ä;intro h;exact br ⟨hr,λy h1 h2 h3=>h ⟨y,h1,h2,h3⟩⟩
  exact .step (λhr=>ì (eT hr)) (λhr=>⟨(Ï (eT hr)).1,(Ï (eT hr)).2.1⟩) (λhr=>(Ï (eT hr)).2.2)
 have an:∀x:St,∃hr:Tape,Bb x->∀y:St,(∃es,ϙ (tw P F) D x.1 (bq x.2 hr)=.go y.1 y.2 es)->Plain y.1->¬Safe (tw P F) Q y.1 y.2:=by
  intro x;by_cases hx:Bb x
  ·obtain⟨hr,h⟩:=ai x hx;exact⟨hr,λ_=>h⟩
  ·exact⟨λ_ _=>0,λh=>absurd h hx⟩
 obtain⟨τ,hτ⟩:∃τ:St->Tape,∀x,Bb x->∀y:St,(∃es,ϙ (tw P F) D x.1 (bq x.2 (τ x))=.go y.1 y.2 es)->Plain y.1->¬Safe (tw P F) Q y.1 y.2:=
  ⟨λx=>ì (an x),λx=>Ï (an x)⟩
 let Live:St->Prop:=λx=>∃y:St,(∃es,ϙ (tw P F) D x.1 (bq x.2 (τ x))=.go y.1 y.2 es)/\Plain y.1
 obtain⟨nx,OG,OH⟩:∃nx:St->St,(∀x,Live x->(∃es,ϙ (tw P F) D x.1 (bq x.2 (τ x))=.go (nx x).1 (nx x).2 es)/\Plain (nx x).1)/\∀x,¬Live x->nx x=x:=by
  refine⟨λx=> @dite _ (Live x) (Aa8 _) (λh=>ì h) (λ_=>x),λx h=>?_,λx h=>?_⟩
  ·simp only[h,dite_true];exact Ï h
  ·simp only[h,dite_false]
 let sq:Nat->St:=λi=>Nat.rec (BR,aR) (λ_ x=>nx x) i
 have sq0:sq 0=(BR,aR):=rfl;have J6:∀i,sq (i+1)=nx (sq i):=λ_=>rfl
 have vi:∀x:St,Bb x->Good (λw=>ϙ (tw P F) D x.1 w) (bq x.2 (τ x)):=λx hx=>(hx.1.bq (τ x)).zr ζ;have Et:∀i,Bb (sq i):=by
  intro i;induction i with
  |zero=>exact⟨hi,Ip⟩
  |succ i ih=>
   rw[J6];by_cases hl:Live (sq i)
   ·obtain⟨⟨es,h1⟩,h2⟩:=OG _ hl;exact⟨(ih.1.bq (τ (sq i))).step ζ hh h1 h2,hτ _ ih _ ⟨es,h1⟩ h2⟩
   ·rw[OH _ hl];exact ih
 have G4:∀i,(sq i).2.drawn<=(sq (i+1)).2.drawn:=by
  intro i;rw[J6];by_cases hl:Live (sq i)
  ·obtain⟨⟨es,h1⟩,h2⟩:=OG _ hl;have:=(vi _ (Et i)).drawn;simp only[h1,uX] at this;exact this
  ·rw[OH _ hl];exact ϊ _
 have OA:∀i j,i<=j->(sq i).2.drawn<=(sq j).2.drawn:=by
  intro i j h;induction h with
  |refl=>exact ϊ _|step _ ih=>exact Ϥ ih (G4 _)
 let At:Nat->Nat->Prop:=λj i=>(sq i).2.drawn<=j/\j<(sq (i+1)).2.drawn
 have hAt:∀j i k,At j i->At j k->i=k:=by
  intro j i k h1 h2;rcases Nat.lt_trichotomy i k with h|h|h
  ·have:=OA (i+1) k h;have:=h1.2;have:=h2.1;omega
  ·exact h
  ·have:=OA (k+1) i h;have:=h2.2;have:=h1.1;omega
 let hr:Tape:=λj q=> @dite _ (∃i,At j i) (Aa8 _) (λh=>τ (sq (ì h)) j q) λ_=>
  @dite _ (∃i,¬Live (sq i)) (Aa8 _) (λh=>τ (sq (ì h)) j q) λ_=>0
 have zH:∀i j q,At j i->hr j q=τ (sq i) j q:=by
  intro i j q h;have hex:∃i,At j i:=⟨i,h⟩
  show @dite _ (∃i,At j i) (Aa8 _) _ _=_;simp only[hex,dite_true];rw[hAt j _ i (Ï hex) h]
 have NZ:∀i,¬Live (sq i)->∀k,i<=k->sq k=sq i:=by
  intro i hl k hk;induction hk with
  |refl=>rfl|step _ ih=>rw[J6,ih,OH _ hl]
 have Ny:∀i j q,¬Live (sq i)->(sq i).2.drawn<=j->hr j q=τ (sq i) j q:=by
  intro i j q hl hj;have br:¬ ∃k,At j k:=by
   rintro⟨k,h1,h2⟩;rcases Nat.lt_or_ge k i with h|h
   ·have:=OA (k+1) i h;omega
   ·have e1:=NZ i hl (k+1) (by omega);rw[e1] at h2;omega
  have hex:∃i,¬Live (sq i):=⟨i,hl⟩
  show @dite _ (∃i,At j i) (Aa8 _) _ _=_;simp only[br,dite_false,hex,dite_true];have hc:=Ï hex;have:sq (ì hex)=sq i:=by
   rcases Nat.le_total i (ì hex) with h|h
   ·exact NZ i hl _ h
   ·exact(NZ _ hc _ h).symm
  rw[this]
 have OW:∀i,∃fr cs,(sq i).1=aT fr cs:=by intro i;obtain⟨_,_,_,fr,_,cs,_,_,e,_⟩:=(Et i).1;exact⟨fr,cs,e⟩
 have ah9:∀i,Live (sq i)->step (tw P F) (ï (sq i).1.frame (sq i).1.callers (bq (sq i).2 hr))=.next (ï (sq (i+1)).1.frame (sq (i+1)).1.callers (bq (sq (i+1)).2 hr)):=by
  intro i hl;obtain⟨⟨es,h1⟩,h2⟩:=OG _ hl;rw[<-J6] at h1 h2;have hg:=vi _ (Et i);have sX:=hg.loc hr (λj q a b=>by
   simp only[h1,uX] at b;exact zH i j q ⟨a,b⟩)
  simp only[h1] at sX;obtain⟨fr,cs,e⟩:=OW i;obtain⟨⟨Uj,wT,e1⟩,_⟩:=h2;rw[e] at sX |-;rw[e1] at sX |-;exact Ab2 sX
 have ahx:∀i,¬Live (sq i)->(∃o aa,step (tw P F) (ï (sq i).1.frame (sq i).1.callers (bq (sq i).2 hr))=.ended o aa)\/∃kS mJ aa ch,step (tw P F) (ï (sq i).1.frame (sq i).1.callers (bq (sq i).2 hr))=.next (ï kS mJ aa)/\kS.mode=.panicking ch/\pY (kS::mJ)/\bO aa.heap:=by
  intro i hl;have hg:=vi _ (Et i);have sX:=hg.loc hr (λj q a _=>Ny i j q hl a)
  have aa9:=hg.cls;obtain⟨fr,cs,e⟩:=OW i;generalize V:ϙ (tw P F) D (sq i).1 (bq (sq i).2 (τ (sq i)))=s at sX aa9;cases aa9 with
  |plain h hn=>exact absurd ⟨(_,_),⟨_,V⟩,h⟩ hl
  | @ended o w es=>
    left;rw[e] at sX |-;exact⟨o,_,Ab1 sX⟩
  | @sM Uj wT w1 es ch hm hd hn=>
    right;rw[e] at sX |-;exact⟨Uj,wT,bq w1 hr,ch,Ab2 sX,hm,hd,hn⟩
 have Wf:∀n,(∀i,i<n->Live (sq i))->runN (tw P F) n (ï (sq 0).1.frame (sq 0).1.callers (bq (sq 0).2 hr))=.next (ï (sq n).1.frame (sq n).1.callers (bq (sq n).2 hr)):=by
  intro n hl;induction n with
  |zero=>rfl|succ n ih=>rw[runN_add,ih λi hi=>hl i (by omega)];simp only[runN,ah9 n (hl n (by omega))]
 obtain⟨n,kS,mJ,aa,bh,hq⟩:=aiC hr;have bh:runN (tw P F) n (ï (sq 0).1.frame (sq 0).1.callers (bq (sq 0).2 hr))=.next (ï kS mJ aa):=bh;have hnQ:∀i,Q (aT (sq i).1.frame (sq i).1.callers) (bq (sq i).2 hr)->False:=by
  intro i h;apply(Et i).2;obtain⟨fr,cs,e⟩:=OW i;have:=hQ _ _ (sq i).2.tape h;rw[e] at this |-
  exact .stop this
 by_cases eT:∀i,i<n->Live (sq i)
 ·have:=Wf n eT;rw[this] at bh;simp only[Stepped.next.injEq] at bh;obtain⟨e1,e2,e3⟩:=aku bh;subst e1 e2 e3;exact hnQ n hq
 ·
  have:∃i,i<n/\¬Live (sq i)/\∀k,k<i->Live (sq k):=by
   have hex:∃i,i<n/\¬Live (sq i):=(by apply ä;intro h;exact eT λi hi=>ä λhl=>h ⟨i,hi,hl⟩);obtain⟨i,hi⟩:=hex;induction i using Nat.strongRecOn with
   |_ i ih=>
    by_cases hk:∃k,k<i/\¬Live (sq k)
    ·obtain⟨k,h1,h2⟩:=hk;exact ih k h1 ⟨by omega,h2⟩
    ·exact⟨i,hi.1,hi.2,λk rS=>ä λhl=>hk ⟨k,rS,hl⟩⟩
  obtain⟨i,dc,hl,NH⟩:=this;have h1:=Wf i NH;obtain⟨m,rfl⟩:∃m,n=i+(m+1):=⟨n - i - 1,by omega⟩
  have Cq:runN (tw P F) (i+(m+1)) (ï (sq 0).1.frame (sq 0).1.callers (bq (sq 0).2 hr))=.next (ï kS mJ aa):=bh;rw[runN_add,h1] at Cq;simp only[runN] at Cq;rcases ahx i hl with⟨o,w2,h2⟩ | ⟨jv,ju,w2,ch,h2,hm,hd,hn⟩
  ·rw[h2] at Cq;cases Cq
  ·rw[h2] at Cq;obtain⟨ch1,qy⟩:=aes m hm hd hn Cq;exact hQm _ _ hq ch1 qy
end
structure ay where
 O:Nat->Prop
 R:Nat->Prop
def ay.has(M:ay)(b:Nat):Prop:=M.O b\/M.R b
def ay.grow(M:ay)(w w':N):ay:=⟨λb=>M.O b\/(w.heap.size<=b/\b<w'.heap.size),M.R⟩
structure bR(M:ay)(w w':N):Prop where
 size:w.heap.size<=w'.heap.size
 kept:∀b,M.has b->w'.heap[b]?=w.heap[b]?
 tape:w'.tape=w.tape
 os:w'.os=w.os
 e:w'.output=w.output
def bR.refl(M:ay)(w:N):bR M w w:=⟨ϊ _,λ_ _=>rfl,rfl,rfl,rfl⟩
def bR.trans{M:ay}{w aa au:N}(h:bR M w aa)(k:bR M aa au):bR M w au:=
 ⟨Ϥ h.size k.size,λb hb=>(k.kept b hb).trans (h.kept b hb),k.tape.trans h.tape,k.os.trans h.os,k.e.trans h.e⟩
def bR.of_heap{M:ay}(h:w'.heap=w.heap)(ht:w'.tape=w.tape)(ho:w'.os=w.os)(hp:w'.output=w.output):bR M w w':=⟨by rw[h];exact ϊ _,λ_ _=>by rw[h],ht,ho,hp⟩
def yP(M:ay)(e:Ø):Prop:=
 (∃b:Nat,(e.loc=.obj b\/∃c:ϖ,e.loc=.cell c/\c.block=b)/\e.sync=U/\M.has b/\(e.write=D->M.O b))\/e.loc=.mark .noRoom\/∃f,e.loc=.mark (.extern f)
structure eZ(M:ay)(w w':N)(es:Array Ø):Prop where
 size:w.heap.size<=w'.heap.size
 kept:∀b,b<w.heap.size->¬M.O b->w'.heap[b]?=w.heap[b]?
 tape:w'.tape=w.tape
 os:w'.os=w.os
 e:w'.output=w.output
 ev:∀e∈es,yP (M.grow w w') e
def eZ.idle(M:ay)(w:N):eZ M w w #[]:=⟨ϊ _,λ_ _ _=>rfl,rfl,rfl,rfl,by simp⟩
inductive Walk(P:ϗ)(main:Bool)(Stop:ay->ϐ->N->Prop):ay->ϐ->N->Prop
 |stop {M:ay} {g:ϐ} {w:N} (h:∀aa,bR M w aa->Stop M g aa):Walk P main Stop M g w
 |step {M:ay} {g:ϐ} {w:N} (run:g.status=.running) (nx:N->ϐ×N×Array Ø)
   (h:∀aa,bR M w aa->ϙ P main g aa=.go (nx aa).1 (nx aa).2.1 (nx aa).2.2/\eZ M aa (nx aa).2.1 (nx aa).2.2)
   (V:∀aa,bR M w aa->Walk P main Stop (M.grow aa (nx aa).2.1) (nx aa).1 (nx aa).2.1):Walk P main Stop M g w
def Walk.rely{Stop:ay->ϐ->N->Prop}{M:ay}(h:Walk P main Stop M g w)(k:bR M w aa):Walk P main Stop M g aa:=by
 cases h with
 |stop h=>exact .stop λau k2=>h au (k.trans k2)
 |step run nx h V=>exact .step run nx (λau k2=>h au (k.trans k2)) λau k2=>V au (k.trans k2)
def Walk.bind{S1 S2:ay->ϐ->N->Prop}{M:ay}(h:Walk P main S1 M g w)(k:∀M g w,S1 M g w->Walk P main S2 M g w):Walk P main S2 M g w:=by
 induction h with
 | @stop M g w h=>have:=k M g w (h w (bR.refl M w));exact this
 |step run nx h _ ih=>exact .step run nx h ih
def Walk.mono{S1 S2:ay->ϐ->N->Prop}{M:ay}(h:Walk P main S1 M g w)(k:∀M g w,S1 M g w->S2 M g w):Walk P main S2 M g w:=by
 induction h with
 |stop h=>exact .stop λaa k1=>k _ _ _ (h aa k1)
 |step run nx h _ ih=>exact .step run nx h ih
def Ch(p:ϗ)(y x:ϐ×N):Prop:=∃(hr:Tape) (es:Array Ø),ϙ p D x.1 (bq x.2 hr)=.go y.1 y.2 es
inductive uE(p:ϗ)(x:ϐ×N):ϐ×N->Prop
 |refl:uE p x x
 |step {y υ:ϐ×N} (h:uE p x y) (k:Ch p υ y):uE p x υ
def uE.trans{x y υ:ϐ×N}(h:uE p x y)(k:uE p y υ):uE p x υ:=by
 induction k with
 |refl=>exact h
 |step _ k ih=>exact .step ih k
structure iO(M:ay)(Z:Ren)(w w':N)(b6:ay)(aM:Ren)(aa aF:N):Prop where
 le:Z.le aM
 new:∀a b,aM a b->Z a b\/(w.heap.size<=a/\w'.heap.size<=b)
 oa:w.heap.size<=aa.heap.size
 gO:w'.heap.size<=aF.heap.size
 lD:∀(a:Nat) (o:Obj),w.heap[a]?=J o->mw o->aa.heap[a]?=J o
 jd:∀b:Nat,M.has b->(∀a,Z a b->∃o,w.heap[a]?=J o/\mw o)->aF.heap[b]?=w'.heap[b]?
 R:b6.R=M.R
 O:∀b,M.O b->b6.O b
 On:∀b,b6.O b->M.O b\/(w'.heap.size<=b/\b<aF.heap.size)
 tape:aF.tape=w'.tape
 os:aF.os=w'.os
 e:aF.output=w'.output
def iO.refl(M:ay)(Z:Ren)(w w':N):iO M Z w w' M Z w w':=
 ⟨Z.le_refl,λ_ _ h=>.inl h,ϊ _,ϊ _,λ_ _ h _=>h,λ_ _ _=>rfl,rfl,λ_ h=>h,λ_ h=>.inl h,rfl,rfl,rfl⟩
def ay.vb{M b6:ay}(hR:b6.R=M.R)(hO:∀b,M.O b->b6.O b){b:Nat}(h:M.has b):b6.has b:=h.imp (hO b) λx=>by rw[hR];exact x
def iO.trans{M b6 ry:ay}{Z aM bM:Ren}{w w' aa aF au eF:N}(h:iO M Z w w' b6 aM aa aF)(k:iO b6 aM aa aF ry bM au eF)(hM:∀b,M.has b->b<w'.heap.size):iO M Z w w' ry bM au eF where
 le:=Ren.le_trans h.le k.le
 new a b x:=by
  rcases k.new a b x with x| ⟨x,y⟩
  ·exact h.new a b x
  ·exact .inr ⟨Ϥ h.oa x,Ϥ h.gO y⟩
 oa:=Ϥ h.oa k.oa
 gO:=Ϥ h.gO k.gO
 lD a o x f:=k.lD a o (h.lD a o x f) f
 jd b hb hf:=by
  refine(k.jd b (ay.vb h.R h.O hb) λa ha=>?_).trans (h.jd b hb hf);rcases h.new a b ha with x| ⟨_,y⟩
  ·obtain⟨o,ho,fo⟩:=hf a x;exact⟨o,h.lD a o ho fo,fo⟩
  ·have:=hM b hb;omega
 R:=k.R.trans h.R
 O b x:=k.O b (h.O b x)
 On b x:=by
  rcases k.On b x with x| ⟨x,y⟩
  ·rcases h.On b x with x| ⟨x,y⟩
   ·exact .inl x
   ·exact .inr ⟨x,Ϣ y k.gO⟩
  ·exact .inr ⟨Ϥ h.gO x,y⟩
 tape:=k.tape.trans h.tape
 os:=k.os.trans h.os
 e:=k.e.trans h.e
def iO.keep{M:ay}{Z:Ren}(h:bR M w' aF):iO M Z w w' M Z w aF:=
 ⟨Z.le_refl,λ_ _ h=>.inl h,ϊ _,h.size,λ_ _ h _=>h,λb hb _=>h.kept b hb,rfl,λ_ h=>h,λ_ h=>.inl h,h.tape,h.os,h.e⟩
def Fits(M:ay)(Z:Ren)(w:N):Prop:=∀a b,Z a b->M.O b\/(M.R b/\∃o,w.heap[a]?=J o/\mw o)
def cg.keep{C:bX}{M:ay}{Z:Ren}(h:cg C Z w w')(f:Fits M Z w)(k:bR M w' aF):cg C Z w aF where
 dL:=h.dL
 dq a b x:=Ϣ (h.dq a b x) k.size
 fn:=h.fn
 inj:=h.inj
 obj a b o x e:=by obtain⟨o',h1,h2⟩:=h.obj a b o x e;exact⟨o',by rw[k.kept b ((f a b x).imp id (·.1))];exact h1,h2⟩
section
variable {P:ϗ}{F:Array Ç}{C:bX}{S:Tl}{G:Nat->Bool}
structure Rel(P:ϗ)(F:Array Ç)(C:bX)(S:Tl)(G:Nat->Bool)(M:ay)(Z:Ren)(g:ϐ)(w:N)(g':ϐ)(w':N):Prop where
 gr:uG P (tw P F) C S Z g g'
 core:cg C Z w w'
 iy:∀g,G g=D->Z g g
 fits:Fits M Z w
 low:∀b,M.has b->b<w'.heap.size
def Rel.keep{M:ay}{Z:Ren}{g g':ϐ}{w w' aF:N}(h:Rel P F C S G M Z g w g' w')(k:bR M w' aF):Rel P F C S G M Z g w g' aF:=
 ⟨h.gr,h.core.keep h.fits k,h.iy,h.fits,λb hb=>Ϣ (h.low b hb) k.size⟩
def X7(ζ:Env P F C G){M:ay}{Z:Ren}(h:Rel P F C S G M Z g w g' w')
 (dc:∃b fr ba cs bu,g=aT fr cs/\g'=aT ba bu/\ee C S Z b fr ba/\Below C S Z b cs bu)
 {nx:Tape->ϐ×N}(hn:∀hr:Tape,(∃es,ϙ (tw P F) D g (bq w hr)=.go (nx hr).1 (nx hr).2 es)/\Plain (nx hr).1)(main:Bool):
 ∃(hr:Tape) (aM:Ren) (eB:ϐ) (aF:N) (es:Array Ø),ϙ P main g' w'=.go eB aF es/\eZ M w' aF es/\
  Rel P F C S G (M.grow w' aF) aM (nx hr).1 (nx hr).2 eB aF/\iO M Z w w' (M.grow w' aF) aM (nx hr).2 aF:=by
 obtain⟨b,fr,ba,cs,bu,rfl,rfl,cq,hL⟩:=dc
 let hr:Tape:=λj q=>w'.tape (w'.drawn+(j - w.drawn)) q
 obtain⟨⟨es0,h1⟩,h2⟩:=hn hr;have hw:iP C Z (bq w hr) w':=(h.core.left (aa:=bq w hr) rfl).rel λj q=>by show w'.tape (w'.drawn+(w.drawn+j - w.drawn)) q=w'.tape (w'.drawn+j) q;rw[Nat.add_sub_cancel_left]
 obtain⟨aM,eB,aF,es,k1,k2,k3,k4,k5⟩:=YS ζ h.iy hw cq hL D main D .running .running H H _ _ _ h1 h2;have MX:∀b,b<w'.heap.size->¬M.O b->∀a,Z a b->∃o,w.heap[a]?=J o/\mw o:=λb _ hb a ha=>((h.fits a b ha).resolve_left hb).2
 have aN:(bq w hr).heap.size=w.heap.size:=rfl;have Hm:eZ M w' aF es:=by
  refine⟨k4.gO,λb hb hO=>k4.jd b hb (MX b hb hO),k4.nf,k4.yo,k4.yp,λe he=>?_⟩;rcases k5 e he with⟨b,a,e1,e2,e3,e4⟩ |x
  ·refine .inl ⟨b,e1,e2,?_⟩;rcases k4.new a b e3 with x| ⟨x,y⟩
   ·rcases h.fits a b x with o| ⟨r,o,ho,fo⟩
    ·exact⟨.inl (.inl o),λ_=>.inl o⟩
    ·refine⟨.inr r,λFl=>?_⟩;rcases e4 with e4| ⟨o',pJ,e4⟩
     ·have:=h.core.dL a b x;rw[aN] at e4;omega
     ·have e5:w.heap[a]?=J o':=pJ;rw[ho] at e5;obtain rfl:=ϟ e5;exact absurd fo (e4 Fl)
   ·have hb:=k3.dq a b e3;exact⟨.inl (.inr ⟨y,hb⟩),λ_=>.inr ⟨y,hb⟩⟩
  ·exact .inr x
 refine⟨hr,aM,eB,aF,es,k1,Hm,⟨k2,k3,λg hg=>k4.le _ _ (h.iy g hg),λa b hab=>?_,λb hb=>?_⟩,⟨k4.le,k4.new,k4.oa,k4.gO,k4.lD,λb hb hf=>k4.jd b (h.low b hb) hf,rfl,λ_ x=>.inl x,λ_ x=>x,k4.nf,k4.yo,k4.yp⟩⟩
 ·rcases k4.new a b hab with x| ⟨x,y⟩
  ·rcases h.fits a b x with o| ⟨r,o,ho,fo⟩
   ·exact .inl (.inl o)
   ·exact .inr ⟨r,o,k4.lD a o ho fo,fo⟩
  ·exact .inl (.inr ⟨y,k3.dq a b hab⟩)
 ·rcases hb with(hb|hb) |hb
  ·exact Ϣ (h.low b (.inl hb)) k4.gO
  ·exact hb.2
  ·exact Ϣ (h.low b (.inr hb)) k4.gO
def Zx(ζ:Env P F C G)(main:Bool){Q:ϐ->N->Prop}{Stop:ay->ϐ->N->Prop}(V:Safe (tw P F) Q g w):
 ∀ {M:ay} {Z:Ren} {g':ϐ} {w':N},Rel P F C S G M Z g w g' w'->
  (∀(b6:ay) (aM:Ren) (dP:ϐ) (aa:N) (eB:ϐ) (aF:N),Rel P F C S G b6 aM dP aa eB aF->iO M Z w w' b6 aM aa aF->Safe (tw P F) Q dP aa->uE (tw P F) (g,w) (dP,aa)->
     (Q dP aa\/¬ ∃b fr ba cs bu,dP=aT fr cs/\eB=aT ba bu/\ee C S aM b fr ba/\Below C S aM b cs bu)->Stop b6 eB aF)->Walk P main Stop M g' w':=by
 induction V with
 | @stop g w h=>intro M Z g' w' hR eW;exact .stop λaa k=>eW M Z g w g' aa (hR.keep k) (.keep k) (.stop h) .refl (.inl h)
 | @step g w nx h V ih=>
   intro M Z g' w' hR eW;by_cases dc:∃b fr ba cs bu,g=aT fr cs/\g'=aT ba bu/\ee C S Z b fr ba/\Below C S Z b cs bu
   ·have key:∀aa:N,∃y:ϐ×N×Array Ø,bR M w' aa->∃(hr:Tape) (aM:Ren),ϙ P main g' aa=.go y.1 y.2.1 y.2.2/\eZ M aa y.2.1 y.2.2/\
     Rel P F C S G (M.grow aa y.2.1) aM (nx hr).1 (nx hr).2 y.1 y.2.1/\iO M Z w aa (M.grow aa y.2.1) aM (nx hr).2 y.2.1:=by
     intro aa;by_cases k:bR M w' aa
     ·obtain⟨hr,aM,eB,aF,es,a1,a2,a3,a4⟩:=X7 ζ (hR.keep k) dc h main;exact⟨(eB,aF,es),λ_=>⟨hr,aM,a1,a2,a3,a4⟩⟩
     ·exact⟨(g',aa,#[]),λx=>absurd x k⟩
    have bh:g'.status=.running:=(by obtain⟨b,fr,ba,cs,bu,_,rfl,_⟩:=dc;rfl);refine .step bh (λaa=>ì (key aa)) (λaa k=>?_) λaa k=>?_
    ·obtain⟨hr,aM,a1,a2,a3,a4⟩:=Ï (key aa) k;exact⟨a1,a2⟩
    ·obtain⟨hr,aM,a1,a2,a3,a4⟩:=Ï (key aa) k;refine ih hr a3 λry bM cz au Ee eF b1 b2 b3 b4 b5=>eW ry bM cz au Ee eF b1 (((iO.keep k).trans a4 hR.low).trans b2 hR.low) b3 ?_ b5;obtain⟨⟨es,h1⟩,_⟩:=h hr;exact uE.trans (.step .refl ⟨hr,es,h1⟩) b4
   ·exact .stop λaa k=>eW M Z g w g' aa (hR.keep k) (.keep k) (.step nx h V) .refl (.inr dc)
end
end Go.Sim
namespace Go.Sim
open Go Go.Conc
open Go.ConcN (sumTo upd sumTo_upd upd_ne upd_same)
def Jy:Loc->Prop:=λ_=>False
def MT{M:ay}{B:Nat}(h:yP M e)(hB:∀b,M.has b->b<B):EvL Jy B e:=by
 obtain⟨loc,wr,sy⟩:=e;rcases h with⟨b,e1,e2,e3,e4⟩ |e1| ⟨f,e1⟩
 ·simp only at e1 e2 e4;subst e2;rcases e1 with e1| ⟨c,e1,e5⟩
  ·subst e1;refine⟨λ_ _ h=>h.elim,by simp,by simp,?_⟩;cases wr<;>exact hB _ e3
  ·subst e1;refine⟨λ_ _ h=>h.elim,by simp,by simp,?_⟩;have:=hB _ e3;rw[<-e5] at this;cases wr<;>exact this
 ·simp only at e1;subst e1;exact⟨λ_ _ h=>h.elim,by simp,by simp,by cases wr<;>cases sy<;>exact trivial⟩
 ·simp only at e1;subst e1;exact⟨λ_ _ h=>h.elim,by simp,by simp,by cases wr<;>cases sy<;>exact trivial⟩
def qf(t:Trace):Prop:=∀op∈t,op.act≠ .mark .disable/\op.act≠ .mark .enable
def XF(h:qf t)(g:Nat):∀i,t.deaf g i=0:=by
 intro i;induction i with
 |zero=>rfl
 |succ i ih=>
  unfold Trace.deaf;split
  ·rename_i ag;exact absurd rfl (h _ (Ń ag)).1
  ·rename_i ag;exact absurd rfl (h _ (Ń ag)).2
  ·exact ih
def Jz(h:qf t){op:MemOp}(hi:t[i]?=J op):t.heard i:=⟨op.g,by simp[Trace.g?,hi],XF h _ _⟩
def F0(h:qf t)(g:Nat):Deaf t g=0:=XF h g _
def qf.app{u:Trace}(h:qf t)(k:qf u):qf (t++u):=λop ag=>(Aad.1 ag).elim (h op) (k op)
def PY{M:ay}{g:Nat}{pos:String}(h:∀e∈es,yP M e):qf (MemOp.ofEvents g fn pos es):=by
 intro op ag;obtain⟨e,he,rfl⟩:=Go.Conc.mem_ofEvents ag;obtain⟨loc,wr,sy⟩:=e;rcases h _ he with⟨b,e1,e2,_⟩ |e1| ⟨f,e1⟩
 ·simp only at e1 e2;subst e2;rcases e1 with e1| ⟨c,e1,_⟩<;>subst e1<;>cases wr<;>exact⟨by simp[ğ],by simp[ğ]⟩
 ·simp only at e1;subst e1;exact⟨by simp[ğ],by simp[ğ]⟩
 ·simp only at e1;subst e1;exact⟨by simp[ğ],by simp[ğ]⟩
section
variable {P:ϗ}
structure Fr(P:ϗ)(gs:Array ϐ)(w:N)(t:Trace)(q:Nat->Nat)(g:ϐ):Prop where
 zero:gs[0]?=J g
 lv:∀i x,0<i->gs[i]?=J x->QuitsIn P (q i) x
 il:Past Jy w.heap.size t
 nd:qf t
 gb:∀op∈t,op.g<gs.size
def Fr.akb{q:Nat->Nat}(h:Fr P gs w t q g):Leavers P t gs q:=
 ⟨λi x hi hx=>by rw[F0 h.nd];exact QuitsD.of_quitsIn (h.lv i x hi hx),λj _=>F0 h.nd j⟩
def woken_quits{b:ϐ}{k:Nat}(hB:QuitsIn P k b):woken P g g' w' b=b:=woken_quitsD (QuitsD.of_quitsIn hB)
def oW(g:Nat)(fn:Æ)(pos:String):MemOp.ofEvents g fn pos #[]=#[]:=by simp[MemOp.ofEvents]
def AA(M:ay)(w:N)(d:Nat):bR M w (w.at d):=bR.of_heap rfl rfl rfl rfl
def Un{sl:Option (Nat×Nat)}{q:Nat->Nat}(h:Fr P gs w t q g)(bh:g.status=.running):
 (∃d bB,stepT P (crowd gs w sl)=runT P (crowd gs (w.at d) bB) 0)\/
 ∃aY d bB ops q',stepT P (crowd gs w sl)=(.next (crowd aY (w.at d) bB),ops)/\aY.size=gs.size/\sumTo aY.size q'<sumTo gs.size q/\Fr P aY (w.at d) (t++ops) q' g:=by
 obtain⟨h0,hL,hP,hN,hG⟩:=h;have vc:∀g∈gs,awake g:=by
  intro x hx;obtain⟨i,hi,rfl⟩:=Aay.1 hx;rcases Nat.eq_zero_or_pos i with rfl|te
  ·have:gs[0]=g:=by simpa [ā hi] using h0
   rw[this];exact awake_of (.inl bh)
  ·exact awake_of ((hL i _ te (ā hi)).status.elim .inl λx=>.inr (.inr x))
 obtain⟨i,x,d,bB,hi,hg,eW⟩:=crowd_pick (P:=P) (w:=w) (sl:=sl) vc ⟨0,g,h0,bh⟩;rcases Nat.eq_zero_or_pos i with rfl|te
 ·exact .inl ⟨d,bB,eW⟩
 ·right;have hq:=hL i x te hi;have cJ:(i==0)=U:=by simp;omega
  have ao:i<gs.size:=(Ϝ.1 hi).1;cases qH:q i with
  |zero=>rw[qH] at hq;rw[show x.status=.finished from hq] at hg;cases hg
  |succ k=>
   rw[qH] at hq;rcases hq with hf| ⟨_,g',Fa,oQ⟩
   ·rw[hf] at hg;cases hg
   have vy:=runT_crowd_go (P:=P) (sl:=bB) (i:=i) hi (by rw[cJ];exact Fa (w.at d));rw[oW] at vy;have aN:((gs.map (woken P x g' (w.at d))).setIfInBounds i g').size=gs.size:=by simp
   have I2:sumTo gs.size (upd q i k)+(k+1)=sumTo gs.size q+k:=(by have:=sumTo_upd q k id ao;simpa [qH] using this);refine⟨(gs.map (woken P x g' (w.at d))).setIfInBounds i g',d,bB,#[],upd q i k,eW.trans vy,aN,by rw[aN];omega,?_,λj y hj hy=>?_,by rw[ç];exact hP,by rw[ç];exact hN,by rw[ç];exactλop ag=>by rw[aN];exact hG op ag⟩
   ·have aw:i≠0:=by omega
    rw[Ě aw,Ē,h0];simp[woken_run bh]
   ·by_cases qv:i=j
    ·subst qv;rw[Array.getElem?_setIfInBounds_self_of_lt (by simpa using ao)] at hy;obtain rfl:=ϟ hy;rw[upd_same];exact oQ
    ·rw[Ě qv,Ē] at hy;obtain⟨υ,hz,rfl⟩:=ď.1 hy;have Aj:=hL j υ hj hz;rw[woken_quits Aj,upd_ne q k (Ne.symm qv)];exact Aj
def Ul{sl:Option (Nat×Nat)}{q:Nat->Nat}{dP:ϐ}{M:ay}(h:Fr P gs w t q g)(V:ϙ P D g w=.go dP aa es)(hd:eZ M w aa es)(hM:∀b,M.has b->b<w.heap.size):
 ∃aY ops,runT P (crowd gs w sl) 0=(.next (crowd aY aa sl),ops)/\aY.size=gs.size/\Fr P aY aa (t++ops) q dP:=by
 obtain⟨h0,hL,hP,hN,hG⟩:=h;have vy:=runT_crowd_go (P:=P) (sl:=sl) (i:=0) h0 (show ϙ P (0==0) g w=_ from V)
 have ao:0<gs.size:=(Ϝ.1 h0).1;refine⟨_,_,vy,by simp,by simp[ao],λj x hj hx=>?_,(hP.mono hd.size).own λe he=>MT (hd.ev e he) λb hb=>?_,hN.app (PY hd.ev),λop ag=>?_⟩
 ·have aw:0≠j:=by omega
  rw[Ě aw,Ē] at hx;obtain⟨y,hy,rfl⟩:=ď.1 hx;have hq:=hL j y hj hy;rw[woken_quits hq];exact hq
 ·rcases hb with(hb|hb) |hb
  ·exact Ϣ (hM b (.inl hb)) hd.size
  ·exact hb.2
  ·exact Ϣ (hM b (.inr hb)) hd.size
 ·rw[Array.size_setIfInBounds,Array.size_map];rcases Aad.1 ag with ag|ag
  ·exact hG op ag
  ·obtain⟨e,_,rfl⟩:=Go.Conc.mem_ofEvents ag;exact ao
def BO{M:ay}(hd:eZ M w aa es)(hM:∀b,M.has b->b<w.heap.size):∀b,(M.grow w aa).has b->b<aa.heap.size:=by
 intro b hb;rcases hb with(hb|hb) |hb
 ·exact Ϣ (hM b (.inl hb)) hd.size
 ·exact hb.2
 ·exact Ϣ (hM b (.inr hb)) hd.size
def DK{Stop:ay->ϐ->N->Prop}{M:ay}(h:Walk P D Stop M g w):
 ∀(gs:Array ϐ) (sl:Option (Nat×Nat)) (t:Trace) (q:Nat->Nat),Fr P gs w t q g->(∀b,M.has b->b<w.heap.size)->
  ∃(Ψ:Nat) (aY:Array ϐ) (M':ay) (g':ϐ) (w':N) (bB:Option (Nat×Nat)) (t':Trace) (q':Nat->Nat),
    runNT P Ψ (crowd gs w sl) t=(.next (crowd aY w' bB),t')/\aY.size=gs.size/\Stop M' g' w'/\Fr P aY w' t' q' g':=by
 induction h with
 | @stop M g w h=>exactλgs sl t q hF hM=>⟨0,gs,M,g,w,sl,t,q,rfl,rfl,h w (bR.refl M w),hF⟩
 | @step M g w run nx h V ih=>
   have key:∀(n:Nat) (gs:Array ϐ) (sl:Option (Nat×Nat)) (t:Trace) (q:Nat->Nat) (au:N),sumTo gs.size q<=n->bR M w au->Fr P gs au t q g->(∀b,M.has b->b<au.heap.size)->
    ∃(Ψ:Nat) (aY:Array ϐ) (M':ay) (g':ϐ) (w':N) (bB:Option (Nat×Nat)) (t':Trace) (q':Nat->Nat),
     runNT P Ψ (crowd gs au sl) t=(.next (crowd aY w' bB),t')/\aY.size=gs.size/\Stop M' g' w'/\Fr P aY w' t' q' g':=by
    intro n;induction n with
    |zero=>
     intro gs sl t q au hn k hF hM;rcases Un (sl:=sl) hF run with⟨d,bB,eW⟩ | ⟨aY,d,bB,ops,q',_,_,ao,_⟩
     ·have k2:=k.trans (AA M au d);obtain⟨h1,h2⟩:=h _ k2;obtain⟨jw,ops,T,aN,mL⟩:=Ul (sl:=bB) (w:=au.at d) (M:=M) ⟨hF.zero,hF.lv,hF.il,hF.nd,hF.gb⟩ h1 h2 hM;obtain⟨Ψ,aY,M',g',w',oc,t',q',r1,r2,r3,r4⟩:=ih _ k2 jw bB _ q mL (BO h2 hM);exact⟨Ψ+1,aY,M',g',w',oc,t',q',by simp only[runNT,eW,T];exact r1,r2.trans aN,r3,r4⟩
     ·omega
    |succ n Fy=>
     intro gs sl t q au hn k hF hM;rcases Un (sl:=sl) hF run with⟨d,bB,eW⟩ | ⟨aY,d,bB,ops,q',eW,aN,ao,mL⟩
     ·have k2:=k.trans (AA M au d);obtain⟨h1,h2⟩:=h _ k2;obtain⟨jw,ops,T,aN,mL⟩:=Ul (sl:=bB) (w:=au.at d) (M:=M) ⟨hF.zero,hF.lv,hF.il,hF.nd,hF.gb⟩ h1 h2 hM;obtain⟨Ψ,aY,M',g',w',oc,t',q',r1,r2,r3,r4⟩:=ih _ k2 jw bB _ q mL (BO h2 hM);exact⟨Ψ+1,aY,M',g',w',oc,t',q',by simp only[runNT,eW,T];exact r1,r2.trans aN,r3,r4⟩
     ·obtain⟨Ψ,zw,M',g',w',oc,t',Qa,r1,r2,r3,r4⟩:=Fy aY bB (t++ops) q' (au.at d) (by omega) (k.trans (AA M au d)) mL hM;exact⟨Ψ+1,zw,M',g',w',oc,t',Qa,by simp only[runNT,eW];exact r1,r2.trans aN,r3,r4⟩
   exactλgs sl t q hF hM=>key _ gs sl t q w (ϊ _) (bR.refl M w) hF hM
end
end Go.Sim
