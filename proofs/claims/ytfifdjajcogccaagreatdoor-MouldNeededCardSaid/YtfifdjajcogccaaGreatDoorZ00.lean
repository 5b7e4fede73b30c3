import Derived.Conc.Beside
set_option linter.all false
set_option maxHeartbeats 0
set_option maxRecDepth 100000
open Array renaming getD_eq_getD_getElem? -> î, getElem_mem -> Aab, append_assoc -> Aac, mem_append -> Aad, push_eq_append -> ŏ, getElem?_eq_some_iff -> ϛ, append_empty -> á, getElem?_push -> ţ, getElem?_setIfInBounds -> Ù, forIn_toList -> Aaj, mapM_eq_mapM_toList -> į, all_eq_true_iff_forall_mem -> Ģ, getElem!_eq_getD -> Aam, getElem?_eq_none -> Ė, range -> Ő, getElem_map -> Aap, getElem_range -> Aaq, foldl_toList -> Aar, toList_zipIdx -> Aas, ext -> Aat, getElem_modify -> Aau, mem_replicate -> Aav, getElem?_append_left -> Aaw, mem_of_getElem? -> ļ, mem_iff_getElem -> Aay, getElem?_eq_getElem -> õ, getElem?_setIfInBounds_ne -> ė, getElem?_map -> Đ
open Bool renaming false_eq_true -> Ð, and_eq_true -> ϩ, not_true -> Aa4
open Classical renaming byContradiction -> Û, choose -> å, choose_spec -> Î, propDecidable -> Aa8
open Go renaming Addr -> ϝ, FuncId -> Â, IntKind -> æ, TypeId -> ό, Code -> ϖ, MapEntry -> Ě, Deferred -> È, Event -> Ñ, Program -> ϕ, Func -> Å, BoundsCode -> Abj, boundsPanic -> Abk, TypeDesc -> ő, byteOfCell -> ų, cellOfByte -> Abn, BinOp -> Ü, Operand -> Ë, Frame -> Ϛ, Goroutine -> ϐ, GStep -> ý, PanicEntry -> Abt, Result -> Ę, doReturn -> İ, callDeferred -> ģ, unwind -> Ï, stepG -> Ϙ, FloatKind -> Ĵ, lone -> ç, step_lone_ended -> Ab1, step_lone_go -> Ab2
open Go.Builtin renaming unsafeAdd_ -> Ľ, lenOf -> Ŵ, firstCells -> þ, zeroCells -> Œ, len_ -> Ab7, max_ -> Ab8, min_ -> Ab9, copy_ -> Aca, clear_ -> Acb, nextslicecap -> Acd, mayShare -> Ace, append_ -> Acf
open Go.Deferred renaming ofValue -> Acg
open Go.Frame renaming enter -> Ý, finish -> đ, eval -> Þ, raise -> Ack
open Go.GStep renaming after -> ß, bare_after -> ľ
open Go.GStep.go renaming injEq -> ħ
open Go.Goroutine.mk renaming injEq -> Aco
open Go.Instr renaming sliceBound -> Ť, sliceBounds -> ŵ, slice -> Acs, sliceAt -> Acu, extract -> Acv, makeMap -> Acw, makeSlice -> Acx, fill -> Ĩ, build -> Acz, buildSlice -> Ac0, checkKey -> Ac1, findAsking -> Ac2, sameNow -> œ, findNow -> Ł, findKey -> Ac5, lookup -> Ŕ, sameBits -> ć, keyThatStays -> Ac8, mapUpdate -> ŕ, getLoop -> Ada, yield -> Adb, enterLoop -> Adc, beginRound -> Ade, endRound -> Adf, endLoop -> Adg, takeDeferred -> Ŗ
open Go.IntKind renaming i64 -> ϙ
open Go.Made renaming infoAt -> Ŷ
open Go.MemAct renaming ofEvent -> ě
open Go.Mode renaming atomic -> ŷ
open Go.Next renaming value -> ť, skip -> Adn
open Go.Op renaming equalIn -> ł, equal -> Ÿ, addrMod -> Adq, eqGuardIn -> Ź, maxDepth -> ź, operands -> À
open Go.Result.ok renaming injEq -> ę
open Go.Sem renaming run -> Ϣ, runT -> Ϥ, bind -> ϫ, runT_fst -> Ady, store -> Ń
open Go.World renaming noCell -> Ad0, setCell -> ï, farStore -> Ad2, shape? -> Ad3, freeze -> Ad4, viewStore -> Ad5
open Go.stepG renaming apply -> Ò, exec -> ϱ
open Nat renaming le_refl -> ϊ, le_trans -> ϡ, lt_of_lt_of_le -> ϟ, zero_mul -> Aeb
open Option renaming isNone_some -> Aec, eq_none_or_eq_some -> Aed, map_eq_some_iff -> Č
open Option.some renaming inj -> Ϟ, injEq -> č
open Pure renaming pure -> ϥ
open Std.Legacy.Range renaming forIn_eq_forIn_range' -> Aei
open Bool renaming true -> θ, false -> χ
open Go renaming Value -> υ, undef -> ω, World -> Ψ
open Go.Value renaming slice -> ζ, pointer -> π, tuple -> μ
open Option renaming some -> φ, none -> ν
variable{α σ β ι:Type}{es:Array Go.Event}{gs:Array Go.Goroutine}{c t':Array υ}{b q main:Bool}{a:Go.Addr}{e:Go.Event}{fr ba:Go.Frame}{fn:Go.FuncId}{g g':Go.Goroutine}{h:Go.Halt}{o:Go.Obj}{p P' P:Go.Program}{s:Go.Sem Go.Next}{t:Go.Trace}{d:Go.TypeDesc}{cs bu:List Go.Frame}{n i:Nat}{l l':Option υ}{m:String}{w w' aa aF:Ψ}{v x x' y y' v' a' b' s':υ}
namespace Go.Sim
open Go
abbrev Ren:=Nat->Nat->Prop
def Ren.le(ρ ax:Ren):Prop:=∀a b,ρ a b->ax a b
def Ren.le_refl(ρ:Ren):ρ.le ρ:=λ_ _ h=>h
def Ren.le_trans{ρ ax fw:Ren}(h:ρ.le ax)(h':ax.le fw):ρ.le fw:=λa b x=>h' a b (h a b x)
def eh(ρ:Ren)(a b:ϝ):Prop:=ρ a.block b.block/\a.off=b.off/\a.spot=b.spot
def eh.mono{ρ ax:Ren}(h:ρ.le ax){b:ϝ}(x:eh ρ a b):eh ax a b:=⟨h _ _ x.1,x.2⟩
def eh.add{ρ:Ren}{a b:ϝ}(h:eh ρ a b)(n:Nat):eh ρ (a.add n) (b.add n):=by
 obtain⟨h1,h2,h3⟩:=h;unfold Addr.add;split
 ·exact⟨h1,h2,h3⟩
 ·exact⟨h1,by simp[h2],rfl⟩
inductive Bf(ρ:Ren):Fn->Fn->Prop
 |func (f:Â):Bf ρ (.func f) (.func f)
 |yield {l l':Nat} (h:ρ l l'):Bf ρ (.yield l) (.yield l')
inductive aj(ρ:Ren):υ->υ->Prop
 |bool (b:Bool):aj ρ (.bool b) (.bool b)
 |int (k:æ) (n:Int):aj ρ (.int k n) (.int k n)
 |string (s:ByteArray):aj ρ (.string s) (.string s)
 |ptrNone:aj ρ (π ν) (π ν)
 |ptr {a b:ϝ} (h:eh ρ a b):aj ρ (π (φ a)) (π (φ b))
 |sliceNone (n c:Nat):aj ρ (ζ ν n c) (ζ ν n c)
 |slice {a b:ϝ} (n c:Nat) (h:eh ρ a b):aj ρ (ζ (φ a) n c) (ζ (φ b) n c)
 |sliceDead (a b:ϝ):aj ρ (ζ (φ a) 0 0) (ζ (φ b) 0 0)
 |mapNone:aj ρ (.map ν) (.map ν)
 |map {r r':Nat} (h:ρ r r'):aj ρ (.map (φ r)) (.map (φ r'))
 |chanNone:aj ρ (.chan ν) (.chan ν)
 |chan {r r':Nat} (h:ρ r r'):aj ρ (.chan (φ r)) (.chan (φ r'))
 |func {fn fn':Fn} {x x' y y':Array υ} (h:Bf ρ fn fn') (hx:x.size=x'.size) (h1:∀i (h:i<x.size) (h':i<x'.size),aj ρ x[i] x'[i])
   (hy:y.size=y'.size) (h2:∀i (h:i<y.size) (h':i<y'.size),aj ρ y[i] y'[i]):aj ρ (.func fn x y) (.func fn' x' y')
 |nilFunc:aj ρ .nilFunc .nilFunc
 |iface (t:ό) {v v':υ} (h:aj ρ v v'):aj ρ (.iface t v) (.iface t v')
 |nilIface:aj ρ .nilIface .nilIface
 |agg {x x':Array υ} (hx:x.size=x'.size) (h1:∀i (h:i<x.size) (h':i<x'.size),aj ρ x[i] x'[i]):aj ρ (.agg x) (.agg x')
 |tuple {x x':Array υ} (hx:x.size=x'.size) (h1:∀i (h:i<x.size) (h':i<x'.size),aj ρ x[i] x'[i]):aj ρ (.tuple x) (.tuple x')
 |junk {v':υ} (h:v'.cells=#[v']) (hb:∀b,v'≠ .bool b) (hc:v'≠ π ν/\v'≠ .nilIface/\v'≠ .nilFunc/\∀f x y,v'≠ .func f x y):aj ρ (μ #[]) v'
 |fjunk (fn':Fn) (x' y':Array υ):aj ρ (.func (.method "") #[.nilIface] #[]) (.func fn' x' y')
def cf(R:α->β->Prop)(x:Array α)(y:Array β):Prop:=x.size=y.size/\∀i (h:i<x.size) (h':i<y.size),R x[i] y[i]
abbrev aV(ρ:Ren):Array υ->Array υ->Prop:=cf (aj ρ)
def Bf.mono{ρ ax:Ren}(h:ρ.le ax){f g:Fn}(x:Bf ρ f g):Bf ax f g:=by
 cases x with
 |func f=>exact .func f
 |yield hl=>exact .yield (h _ _ hl)
def aj.mono{ρ ax:Ren}(h:ρ.le ax){v v':υ}(x:aj ρ v v'):aj ax v v':=by
 induction x with
 |bool b=>exact .bool b
 |int k n=>exact .int k n
 |string s=>exact .string s
 |ptrNone=>exact .ptrNone
 |ptr ha=>exact .ptr (ha.mono h)
 |sliceNone n c=>exact .sliceNone n c
 |slice n c ha=>exact .slice n c (ha.mono h)
 |sliceDead a b=>exact .sliceDead a b
 |mapNone=>exact .mapNone
 |map hr=>exact .map (h _ _ hr)
 |chanNone=>exact .chanNone
 |chan hr=>exact .chan (h _ _ hr)
 |func hf hx _ hy _ i1 i2=>exact .func (hf.mono h) hx i1 hy i2
 |nilFunc=>exact .nilFunc
 |iface t _ ih=>exact .iface t ih
 |nilIface=>exact .nilIface
 |agg hx _ ih=>exact .agg hx ih
 |tuple hx _ ih=>exact .tuple hx ih
 |junk h hb hc=>exact .junk h hb hc
 |fjunk f x y=>exact .fjunk f x y
inductive gR{α β:Type}(R:α->β->Prop):List α->List β->Prop
 |nil:gR R [] []
 |cons {a:α} {b:β} {x:List α} {y:List β} (h:R a b) (t:gR R x y):gR R (a::x) (b::y)
section arr
variable {α β:Type}{R:α->β->Prop}
def cf.mono{R':α->β->Prop}(h:∀a b,R a b->R' a b){x:Array α}{y:Array β}(hx:cf R x y):cf R' x y:=⟨hx.1,λi a b=>h _ _ (hx.2 i a b)⟩
def cf.empty:cf R #[] #[]:=⟨rfl,λi h=>by simp at h⟩
def cf.push{x:Array α}{y:Array β}(h:cf R x y){a:α}{b:β}(hab:R a b):cf R (x.push a) (y.push b):=by
 refine⟨by simp[h.1],λi hi bG=>?_⟩
 simp only[Array.getElem_push];have hs:=h.1;by_cases ao:i<x.size
 ·rw[dif_pos ao,dif_pos (hs▸ao)];exact h.2 i _ _
 ·rw[dif_neg ao,dif_neg (hs▸ao)];exact hab
def cf.append{x x':Array α}{y y':Array β}(h:cf R x y)(h':cf R x' y'):cf R (x++x') (y++y'):=by
 refine⟨by simp[h.1,h'.1],λi hi bG=>?_⟩
 have hs:=h.1;simp only[Array.getElem_append];by_cases ao:i<x.size
 ·rw[dif_pos ao,dif_pos (hs▸ao)];exact h.2 i _ _
 ·rw[dif_neg ao,dif_neg (hs▸ao)]
  have:=h'.2 (i - x.size) (by simp at hi;omega) (by simp at bG;omega)
  simpa [hs] using this
def cf.set{x:Array α}{y:Array β}(h:cf R x y)(i:Nat){a:α}{b:β}(hab:R a b):cf R (x.setIfInBounds i a) (y.setIfInBounds i b):=by
 refine⟨by simp[h.1],λj hj rQ=>?_⟩
 rw[Array.getElem_setIfInBounds (by simpa using hj),Array.getElem_setIfInBounds (by simpa using rQ)]
 split
 ·exact hab
 ·exact h.2 j _ _
def cf.get? {x:Array α}{y:Array β}(h:cf R x y)(i:Nat):(x[i]?=ν/\y[i]?=ν)\/∃a b,x[i]?=φ a/\y[i]?=φ b/\R a b:=by
 by_cases ao:i<x.size
 ·exact .inr ⟨x[i],y[i]'(h.1▸ao),by simp[ao],by simp[h.1▸ao],h.2 i _ _⟩
 ·refine .inl ⟨by simp;omega,?_⟩
  have:=h.1;simp;omega
def cf.getD{x:Array α}{y:Array β}(h:cf R x y)(i:Nat){a:α}{b:β}(hab:R a b):R (x.getD i a) (y.getD i b):=by
 rcases h.get? i with⟨h1,h2⟩ | ⟨u,v,h1,h2,h3⟩
 ·simpa [î,h1,h2] using hab
 ·simpa [î,h1,h2] using h3
def cf.extract{x:Array α}{y:Array β}(h:cf R x y)(i j:Nat):cf R (x.extract i j) (y.extract i j):=by
 refine⟨by simp[h.1],λk hk kU=>?_⟩
 simp only[Array.getElem_extract];exact h.2 _ _ _
def cf.refl{R:α->α->Prop}{x:Array α}(h:∀a∈x,R a a):cf R x x:=⟨rfl,λ_ hi _=>h _ (Aab hi)⟩
def cf.one{a:α}{b:β}(h:R a b):cf R #[a] #[b]:=⟨rfl,λi hi _=>by
 have:i=0:=by simp at hi;omega
 subst this;exact h⟩
def cf.pQ{x:Array α}{y:Array β}(h:cf R x y):gR R x.toList y.toList:=by
 obtain⟨x⟩:=x;obtain⟨y⟩:=y;obtain⟨h1,h2⟩:=h;simp only[List.size_toArray,List.getElem_toArray] at h1 h2;simp only;induction x generalizing y with
 |nil=>cases y with
  |nil=>exact .nil
  |cons=>simp at h1
 |cons a x ih=>cases y with
  |nil=>simp at h1
  |cons b y=>
   refine .cons (h2 0 (by simp) (by simp)) (ih y (by simpa using h1) λi hi bG=>?_)
   have:=h2 (i+1) (by simpa using hi) (by simpa using bG)
   simpa using this
def cf.amA{x:List α}{y:List β}(h:gR R x y):cf R x.toArray y.toArray:=by
 induction h with
 |nil=>exact .empty
 |cons hab _ ih=>
  refine⟨by have:=ih.1;simp at this;simp[this],λi hi bG=>?_⟩
  cases i with
  |zero=>simpa using hab
  |succ i=>
   have:=ih.2 i (by simpa using hi) (by simpa using bG)
   simpa using this
end arr
def aj.wH{ρ:Ren}{x y:Array υ}(h:aV ρ x y):aj ρ (.agg x) (.agg y):=.agg h.1 h.2
def aj.tuple'{ρ:Ren}{x y:Array υ}(h:aV ρ x y):aj ρ (.tuple x) (.tuple y):=.tuple h.1 h.2
def aj.undef{ρ:Ren}:aj ρ ω ω:=.tuple' .empty
def aV.mono{ρ ax:Ren}(h:ρ.le ax){x y:Array υ}(hx:aV ρ x y):aV ax x y:=cf.mono (λ_ _=>aj.mono h) hx
def aj.cells{ρ:Ren}{v v':υ}(h:aj ρ v v'):aV ρ v.cells v'.cells:=by
 have h0:=h;cases h;case agg hx h1=>exact⟨hx,h1⟩
 case junk h hb _=>rw[h];exact cf.one h0
 all_goals exact cf.one h0
structure bX where
 ok:Â->Bool
 hole:Â->Bool
 clean:ϖ->Prop
def Full(c:Array υ)(fr:Nat×Nat):Prop:=fr.1=0/\c.size<=fr.2
inductive j5(ρ:Ren):Ě->Ě->Prop
 |mk {k k' v v':υ} (b:Nat) (hk:aj ρ k k') (hv:aj ρ v v'):j5 ρ ⟨k,v,b⟩ ⟨k',v',b⟩
inductive uD(ρ:Ren):È->È->Prop
 |collected {r r':Nat} (h:ρ r r'):uD ρ ⟨.collected r,#[]⟩ ⟨.collected r',#[]⟩
inductive Bn(C:bX)(ρ:Ren):Loop->Loop->Prop
 |mk (st:LoopState) (qP:Option ϖ) (fn:Â) {tm Y5:Array υ} (ps:Array Tmp) (qi body:ϖ) {d d':Nat} (ht:aV ρ tm Y5) (hd:ρ d d')
   (ha:C.clean qi) (hb:C.clean body) (hp:∀c,qP=φ c->C.clean c):Bn C ρ ⟨st,qP,fn,tm,ps,qi,body,d⟩ ⟨st,qP,fn,Y5,ps,qi,body,d'⟩
inductive jq(C:bX)(ρ:Ren):Obj->Obj->Prop
 |cells {c c':Array υ} (e:ό) {fr ba:Nat×Nat} (h:aV ρ c c') (hf:ba=fr\/Full c fr):jq C ρ (.cells c e fr) (.cells c' e ba)
 |map {es es':Array Ě} (clock:Nat) (h:cf (j5 ρ) es es'):jq C ρ (.map es clock) (.map es' clock)
 |loop {l l':Loop} (h:Bn C ρ l l'):jq C ρ (.loop l) (.loop l')
 |FY:jq C ρ (.deferred ν) (.deferred ν)
 |calls:jq C ρ (.deferred (φ [])) (.deferred (φ []))
 |stringIter (s:ByteArray) (p:Nat):jq C ρ (.stringIter s p) (.stringIter s p)
 |number {a b:ϝ} (lost:Bool) (h:eh ρ a b):jq C ρ (.number a lost) (.number b lost)
def j5.mono{ρ ax:Ren}(h:ρ.le ax){a b:Ě}(x:j5 ρ a b):j5 ax a b:=by
 cases x with|mk b hk hv=>exact .mk b (hk.mono h) (hv.mono h)
def Bn.mono{C:bX}{ρ ax:Ren}(h:ρ.le ax){a b:Loop}(x:Bn C ρ a b):Bn C ax a b:=by
 cases x with|mk st qP fn ps qi body ht hd ha hb hp=>exact .mk st qP fn ps qi body (ht.mono h) (h _ _ hd) ha hb hp
def jq.mono{C:bX}{ρ ax:Ren}(h:ρ.le ax){a b:Obj}(x:jq C ρ a b):jq C ax a b:=by
 cases x with
 |cells e hc hf=>exact .cells e (hc.mono h) hf
 |map clock hm=>exact .map clock (cf.mono (λ_ _=>j5.mono h) hm)
 |loop hl=>exact .loop (hl.mono h)
 |FY=>exact .FY
 |calls=>exact .calls
 |stringIter s p=>exact .stringIter s p
 |number l ha=>exact .number l (ha.mono h)
def mw:Obj->Prop
 | .cells c _ fr=>Full c fr
 |_=>False
structure iP(C:bX)(ρ:Ren)(w w':Ψ):Prop where
 dL:∀a b,ρ a b->a<w.heap.size
 dq:∀a b,ρ a b->b<w'.heap.size
 fn:∀a b b',ρ a b->ρ a b'->b=b'
 inj:∀a a' b,ρ a b->ρ a' b->a=a'
 obj:∀a b o,ρ a b->w.heap[a]?=φ o->∃o',w'.heap[b]?=φ o'/\jq C ρ o o'
 tape:∀j q,w.tape (w.drawn+j) q=w'.tape (w'.drawn+j) q
structure Trans(ρ ax:Ren)(w w' aa aF:Ψ):Prop where
 le:ρ.le ax
 new:∀a b,ax a b->ρ a b\/(w.heap.size<=a/\w'.heap.size<=b)
 oa:w.heap.size<=aa.heap.size
 gO:w'.heap.size<=aF.heap.size
 lD:∀(a:Nat) (o:Obj),w.heap[a]?=φ o->mw o->aa.heap[a]?=φ o
 jd:∀b:Nat,b<w'.heap.size->(∀a,ρ a b->∃o,w.heap[a]?=φ o/\mw o)->aF.heap[b]?=w'.heap[b]?
 Xh:∀b:Nat,w'.heap.size<=b->b<aF.heap.size->∃a,ax a b
 Kc:aa.tape=w.tape
 nf:aF.tape=w'.tape
 yo:aF.os=w'.os
 yp:aF.output=w'.output
def Trans.refl(ρ:Ren)(w w':Ψ):Trans ρ ρ w w' w w':=
 ⟨ρ.le_refl,λ_ _ h=>.inl h,ϊ _,ϊ _,λ_ _ h _=>h,λ_ _ _=>rfl,λb h h'=>by omega,rfl,rfl,rfl,rfl⟩
def Trans.trans{ρ ax fw:Ren}{w w' aa aF au eF:Ψ}(h:Trans ρ ax w w' aa aF)(k:Trans ax fw aa aF au eF):Trans ρ fw w w' au eF where
 le:=Ren.le_trans h.le k.le
 new a b x:=by
  rcases k.new a b x with x| ⟨x,y⟩
  ·exact h.new a b x
  ·exact .inr ⟨ϡ h.oa x,ϡ h.gO y⟩
 oa:=ϡ h.oa k.oa
 gO:=ϡ h.gO k.gO
 lD a o x f:=k.lD a o (h.lD a o x f) f
 jd b hb hf:=by
  have e:=h.jd b hb hf;rw[<-e];refine k.jd b (ϟ hb h.gO) λa ha=>?_
  rcases h.new a b ha with x| ⟨_,y⟩
  ·obtain⟨o,ho,fo⟩:=hf a x
   exact⟨o,h.lD a o ho fo,fo⟩
  ·omega
 Xh b hb dv:=by
  by_cases ao:b<aF.heap.size
  ·obtain⟨a,ha⟩:=h.Xh b hb ao
   exact⟨a,k.le _ _ ha⟩
  ·exact k.Xh b (by omega) dv
 Kc:=k.Kc.trans h.Kc
 nf:=k.nf.trans h.nf
 yo:=k.yo.trans h.yo
 yp:=k.yp.trans h.yp
def rf(ρ:Ren)(w:Ψ)(e:Ñ):Prop:=
 (∃(b a:Nat),(e.loc=.obj b\/∃c:ϝ,e.loc=.cell c/\c.block=b)/\e.sync=χ/\ρ a b/\(w.heap.size<=a\/∃o,w.heap[a]?=φ o/\(e.write=θ->¬mw o)))
 \/e.loc=.mark .noRoom\/∃f,e.loc=.mark (.extern f)
def rf.mono{ρ ax:Ren}(h:ρ.le ax)(x:rf ρ w e):rf ax w e:=by
 rcases x with⟨b,a,h1,h2,h3,h4⟩ |x
 ·exact .inl ⟨b,a,h1,h2,h _ _ h3,h4⟩
 ·exact .inr x
def rf.back{ρ ax fw:Ren}(h:Trans ρ ax w w' aa aF)(x:rf fw aa e):rf fw w e:=by
 rcases x with⟨b,a,h1,h2,h3,h4⟩ |x
 ·refine .inl ⟨b,a,h1,h2,h3,?_⟩
  by_cases ao:w.heap.size<=a
  ·exact .inl ao
  ·right
   rcases h4 with h4| ⟨o,ho,hf⟩
   ·have:=h.oa;omega
   ·obtain⟨JH,V5⟩:∃JH,w.heap[a]?=φ JH:=⟨w.heap[a]'(by omega),by simp⟩
    refine⟨JH,V5,λhw mP=>?_⟩
    have:=h.lD a JH V5 mP;rw[ho] at this;obtain rfl:=Ϟ this;exact hf hw mP
 ·exact .inr x
def Sim(P' P:ϕ)(C:bX)(ρ:Ren)(R:Ren->α->β->Prop)(s:Sem α)(s':Sem β):Prop:=
 ∀aM,ρ.le aM->∀(w w':Ψ) (es:Array Ñ),iP C aM w w'->∀a aa,s.run P' w=.ok a aa->
  ∃bM b aF eM,s'.runT P w' es=(.ok b aF,es++eM)/\R bM a b/\iP C bM aa aF/\Trans aM bM w w' aa aF/\∀e∈eM,rf bM w e
section
variable {P' P:ϕ}{C:bX}{ρ:Ren}{α β γ δ:Type}{R:Ren->α->β->Prop}{S:Ren->γ->δ->Prop}
def Sim.mono{ax:Ren}(h:ρ.le ax){s:Sem α}{s':Sem β}(x:Sim P' P C ρ R s s'):Sim P' P C ax R s s':=λaM h1=>x aM (Ren.le_trans h h1)
def Sim.TI{R':Ren->α->β->Prop}{s:Sem α}{s':Sem β}(x:Sim P' P C ρ R s s')(h:∀ax a b,ρ.le ax->R ax a b->R' ax a b):Sim P' P C ρ R' s s':=by
 intro aM h1 w w' es hw a aa hr;obtain⟨bM,b,aF,eM,h2,h3,h4,h5,h6⟩:=x aM h1 w w' es hw a aa hr;exact⟨bM,b,aF,eM,h2,h _ _ _ (Ren.le_trans h1 h5.le) h3,h4,h5,h6⟩
def Sim.pure{a:α}{b:β}(h:∀ax,ρ.le ax->R ax a b):Sim P' P C ρ R (.pure a) (.pure b):=by
 intro aM h1 w w' es hw a' aa hr;simp only[Ϣ,ę] at hr;obtain⟨rfl,rfl⟩:=hr;exact⟨aM,b,w',#[],by simp[Ϥ],h _ h1,hw,Trans.refl ..,by simp⟩
def Sim.halt{h:Halt}{s':Sem β}:Sim P' P C ρ R (.halt h) s':=by
 intro aM h1 w w' es hw a aa hr;simp[Ϣ] at hr
def run_bind{s:Sem α}{f:α->Sem γ}:(s.bind f).run p w=match s.run p w with| .ok a w=>(f a).run p w| .halt h w=>.halt h w:=by
 induction s generalizing w with
 |pure a=>rfl
 |load m a k ih=>
  simp only[ϫ,Ϣ]
  (repeat' split)<;>simp_all
 |store m a v k ih=>
  cases v<;>simp only[ϫ,Ϣ]<;>(repeat' split)<;>simp_all
 |new o k ih=>simp only[ϫ,Ϣ,ih]
 |shape r k ih=>simp only[ϫ,Ϣ,ih]
 |freeze a n k ih=>simp only[ϫ,Ϣ,ih]
 |frozen a k ih=>simp only[ϫ,Ϣ,ih]
 |getObj r k ih=>
  simp only[ϫ,Ϣ]
  (repeat' split)<;>simp_all
 |setObj r o k ih=>
  simp only[ϫ,Ϣ]
  (repeat' split)<;>simp_all
 |choose q k ih=>
  simp only[ϫ,Ϣ]
  (repeat' split)<;>simp_all
 |sys c k ih=>simp only[ϫ,Ϣ,ih]
 |program k ih=>simp only[ϫ,Ϣ,ih]
 |mark m k ih=>simp only[ϫ,Ϣ,ih]
 |halt h=>rfl
def qR{s:Sem α}{f:α->Sem γ}:
 (s.bind f).runT p w es=match s.runT p w es with| (.ok a w,es)=>(f a).runT p w es| (.halt h w,es)=>(.halt h w,es):=by
 induction s generalizing w es with
 |pure a=>rfl
 |load m a k ih=>
  simp only[ϫ,Ϥ]
  (repeat' split)<;>simp_all
 |store m a v k ih=>
  cases v<;>simp only[ϫ,Ϥ]<;>(repeat' split)<;>simp_all
 |new o k ih=>simp only[ϫ,Ϥ,ih]
 |shape r k ih=>simp only[ϫ,Ϥ,ih]
 |freeze a n k ih=>simp only[ϫ,Ϥ,ih]
 |frozen a k ih=>simp only[ϫ,Ϥ,ih]
 |getObj r k ih=>
  simp only[ϫ,Ϥ]
  (repeat' split)<;>simp_all
 |setObj r o k ih=>
  simp only[ϫ,Ϥ]
  (repeat' split)<;>simp_all
 |choose q k ih=>
  simp only[ϫ,Ϥ]
  (repeat' split)<;>simp_all
 |sys c k ih=>simp only[ϫ,Ϥ,ih]
 |program k ih=>simp only[ϫ,Ϥ,ih]
 |mark m k ih=>simp only[ϫ,Ϥ,ih]
 |halt h=>rfl
def Sim.bind{s:Sem α}{s':Sem β}{f:α->Sem γ}{g:β->Sem δ}(h:Sim P' P C ρ R s s')(hf:∀ax,ρ.le ax->∀a b,R ax a b->Sim P' P C ax S (f a) (g b)):
 Sim P' P C ρ S (s.bind f) (s'.bind g):=by
 intro aM h1 w w' es hw c au hr;rw[run_bind] at hr;cases e:s.run P' w with
 |halt h w=>rw[e] at hr;cases hr
 |ok a aa=>
  rw[e] at hr;obtain⟨bM,b,aF,eM,h2,h3,h4,h5,h6⟩:=h aM h1 w w' es hw a aa e;obtain⟨Dj,d,eF,PX,k2,k3,k4,k5,k6⟩:=hf bM (Ren.le_trans h1 h5.le) a b h3 bM bM.le_refl aa aF (es++eM) h4 c au hr;refine⟨Dj,d,eF,eM++PX,?_,k3,k4,h5.trans k5,λx hx=>?_⟩
  ·rw[qR,h2]
   simp only[k2,Aac]
  ·rcases Aad.1 hx with hx|hx
   ·exact(h6 x hx).mono k5.le
   ·exact(k6 x hx).back h5
end
end Go.Sim
namespace Go.Sim
open Go
section
variable {P' P:ϕ}{C:bX}{ρ:Ren}
def T8:υ->Bool
 | .agg _| .tuple _=>χ
 |_=>θ
def iP.N6(h:iP C ρ w w'){a b:Nat}(hab:ρ a b):∃o,w.heap[a]?=φ o/\∃o',w'.heap[b]?=φ o'/\jq C ρ o o':=by
 have:=h.dL a b hab;have e:w.heap[a]?=φ w.heap[a]:=by simp[this]
 exact⟨_,e,h.obj a b _ hab e⟩
def To(h: w.cell? a=φ v):∃c e fr,w.heap[a.block]?=φ (.cells c e fr)/\a.spot=ν/\c[a.off]?=φ v:=by
 unfold World.cell? at h;split at h
 ·rename_i c e fr hh
  split at h
  ·cases h
  ·rename_i hs
   exact⟨c,e,_,hh,by cases mQ:a.spot<;>simp_all,h⟩
 ·cases h
def mH{e:ό}{fr:Nat×Nat}(h:w.heap[a.block]?=φ (.cells c e fr))(hs:a.spot=ν)(hc:c[a.off]?=φ v): w.cell? a=φ v:=by
 unfold World.cell?;simp[h,hs,hc]
def iP.cell{w w':Ψ}(h:iP C ρ w w'){a b:ϝ}(hab:eh ρ a b){v:υ}(hv: w.cell? a=φ v):
 ∃c c' e fr ba v',w.heap[a.block]?=φ (.cells c e fr)/\w'.heap[b.block]?=φ (.cells c' e ba)/\aV ρ c c'/\(ba=fr\/Full c fr)/\c[a.off]?=φ v/\c'[b.off]?=φ v'/\aj ρ v v'/\ w'.cell? b=φ v':=by
 obtain⟨c,e,fr,hh,hs,hc⟩:=To hv;obtain⟨ag5,UP,ag6⟩:=hab;obtain⟨o',pJ,hr⟩:=h.obj _ _ _ ag5 hh
 ·cases hr with
  | @cells _ c' _ _ ba dg hf=>
    rcases dg.get? a.off with⟨x,_⟩ | ⟨u,u',x,y,z⟩
    ·rw[hc] at x;cases x
    ·rw[hc] at x
     obtain rfl:=Ϟ x;exact⟨c,c',e,fr,ba,u',hh,pJ,dg,hf,hc,by rw[<-UP];exact y,z,mH pJ (ag6▸hs) (by rw[<-UP];exact y)⟩
def Sim.load{a b:ϝ}(h:eh ρ a b):Sim P' P C ρ aj (Go.load a) (Go.load b):=by
 intro aM h1 w w' es hw v aa hr;have h:=h.mono h1;unfold Go.load at hr |-
 simp only[Ϣ] at hr;split at hr
 ·rename_i v' hv
  simp only[ę] at hr;obtain⟨rfl,rfl⟩:=hr;obtain⟨c,c',e,fr,ba,v2,q1,q2,q3,q4,q5,q6,q7,q8⟩:=hw.cell h hv;refine⟨aM,v2,w',#[⟨.cell b,χ,χ⟩],?_,q7,hw,Trans.refl ..,λx hx=>?_⟩
  ·simp only[Ϥ,q8,ŏ];rfl
  ·simp at hx
   subst hx;exact .inl ⟨b.block,a.block,.inr ⟨b,rfl,rfl⟩,rfl,h.1,.inr ⟨_,q1,λx=>by cases x⟩⟩
 ·rename_i hn
  unfold World.farLoad at hr;obtain⟨o,ho,Ca⟩:=hw.N6 h.1;rw[ho] at hr;cases o<;>simp_all [Ad0]<;>(obtain⟨o',_,x⟩:=Ca;cases x)
def zp{e:ό}{fr:Nat×Nat}(h:w.heap[a.block]?=φ (.cells c e fr)): w.frozen? a=(decide (fr.1<=a.off) && decide (a.off<fr.2)):=by
 unfold World.frozen?;rw[h]
def C4{e:ό}{fr:Nat×Nat}(h:w.heap[a.block]?=φ (.cells c e fr))(hs:a.spot=ν)(i:Nat):
 (w.setCell a v).heap[i]?=if i=a.block then φ (.cells (c.setIfInBounds a.off v) e fr) else w.heap[i]?:=by
 unfold ï;simp only[Array.getElem?_modify,hs]
 by_cases hi:i=a.block
 ·subst hi;simp[h]
 ·rw[if_neg (λe=>hi e.symm),if_neg hi]
def Sim.store{a b:ϝ}{v v':υ}(h:eh ρ a b)(hv:aj ρ v v'):Sim P' P C ρ (λ_ _ _=>True) (Go.store a v) (Go.store b v'):=by
 intro aM h1 w w' es hw u aa hr;have h:=h.mono h1;have hv:=hv.mono h1;have Cm:∀(p:ϕ) (w:Ψ),T8 v=θ->(Go.store a v).run p w=match w.cell? a with
  |some _=>if w.frozen? a then .halt (.unsupported (.unsafePointer "a write to bytes that a string shares")) w else .ok () (w.setCell a v)
  |none=>match w.farStore p a v χ with| .ok (w,_)=>.ok () w| .error h=>.halt h w:=by
  intro p w ho;cases v<;>first|rfl|cases ho
 have ain:∀(p:ϕ) (w:Ψ) (es:Array Ñ),T8 v'=θ-> w.frozen? b=χ->(w.cell? b).isSome->(Go.store b v').runT p w es=(.ok () (w.setCell b v'),es.push ⟨.cell b,θ,χ⟩):=by
  intro p w es ho hf hc;obtain⟨x,hx⟩:=Option.isSome_iff_exists.1 hc;cases v'<;>first| (unfold Go.store;simp only[Ϥ,hx,hf,Ð,if_false];rfl) |cases ho
 have xN:T8 v=θ:=by
  cases v<;>first|rfl| (unfold Go.store at hr;simp[Ϣ] at hr)
 have aip:T8 v'=θ:=by cases hv<;>first|rfl|cases xN
 rw[Cm _ _ xN] at hr;split at hr
 ·rename_i x hx
  split at hr
  ·cases hr
  ·rename_i Vc
   simp only[ę] at hr;obtain⟨_,rfl⟩:=hr;obtain⟨c,c',e,fr,ba,v2,q1,q2,q3,q4,q5,q6,q7,q8⟩:=hw.cell h hx;obtain⟨_,_,_,hh,mQ,_⟩:=To hx;have ao:=(ϛ.1 q5).1
   have Ob: w.frozen? a=χ:=by simpa using Vc
   rw[zp q1] at Ob;have xM:¬Full c fr:=λ⟨x,y⟩=>by
    have:decide (a.off<fr.2)=θ:=by simp;omega
    simp[x,this] at Ob
   have cq:ba=fr:=q4.resolve_right xM;subst cq;have Wm:b.spot=ν:=h.2.2▸mQ;have hfb: w'.frozen? b=χ:=by rw[zp q2,<-h.2.1];exact Ob
   refine⟨aM,(),w'.setCell b v',#[⟨.cell b,θ,χ⟩],?_,trivial,?_,?_,λy hy=>?_⟩
   ·rw[ain _ _ _ aip hfb (by rw[q8];rfl)];simp
   ·refine⟨λi j x=>by simpa [ï] using hw.dL i j x,λi j x=>by simpa [ï] using hw.dq i j x,hw.fn,hw.inj,λi j o xE ho=>?_,hw.tape⟩
    rw[C4 q1 mQ] at ho;rw[C4 q2 Wm];by_cases hi:i=a.block
    ·subst hi
     rw[if_pos rfl] at ho;obtain rfl:=Ϟ ho;have:j=b.block:=hw.fn _ _ _ xE h.1;subst this;exact⟨_,if_pos rfl,.cells e (by rw[h.2.1];exact q3.set _ hv) (.inl rfl)⟩
    ·rw[if_neg hi] at ho
     have:j≠b.block:=λe=>hi (hw.inj _ _ _ xE (e▸h.1))
     rw[if_neg this];exact hw.obj i j o xE ho
   ·refine⟨aM.le_refl,λ_ _ x=>.inl x,by simp[ï],by simp[ï],λi o ho hf=>?_,λj hj hk=>?_,λj hj rQ=>by simp[ï] at rQ;omega,rfl,rfl,rfl,rfl⟩
    ·rw[C4 q1 mQ]
     by_cases hi:i=a.block
     ·subst hi
      rw[q1] at ho;obtain rfl:=Ϟ ho;exact absurd hf xM
     ·rw[if_neg hi];exact ho
    ·rw[C4 q2 Wm]
     by_cases hi:j=b.block
     ·subst hi
      obtain⟨o,ho,hf⟩:=hk _ h.1;rw[q1] at ho;obtain rfl:=Ϟ ho;exact absurd hf xM
     ·rw[if_neg hi]
   ·simp at hy
    subst hy;exact .inl ⟨b.block,a.block,.inr ⟨b,rfl,rfl⟩,rfl,h.1,.inr ⟨_,q1,λ_=>xM⟩⟩
 ·rename_i hn
  unfold Ad2 at hr;obtain⟨o,ho,Ca⟩:=hw.N6 h.1;rw[ho] at hr;cases o<;>simp_all [Ad0]<;>(obtain⟨o',_,x⟩:=Ca;cases x)
def Ren.add(ρ:Ren)(a b:Nat):Ren:=λx y=>ρ x y\/(x=a/\y=b)
def Ren.Px(ρ:Ren)(a b:Nat):ρ.le (ρ.add a b):=λ_ _ h=>.inl h
def Sim.newObj{o o':Obj}(h:jq C ρ o o'):Sim P' P C ρ (λax a b=>ax a b) (Go.newObj o) (Go.newObj o'):=by
 intro aM h1 w w' es hw u aa hr;have h:=h.mono h1;unfold Go.newObj at hr |-
 simp only[Ϣ,ę] at hr;obtain⟨rfl,rfl⟩:=hr;refine⟨aM.add w.heap.size w'.heap.size,w'.heap.size,{w' with heap:=w'.heap.push o'},#[],by simp only[Ϥ,á],.inr ⟨rfl,rfl⟩,?_,?_,by simp⟩
 ·refine⟨λa b x=>?_,λa b x=>?_,λa b b' x y=>?_,λa a' b x y=>?_,λa b q x hq=>?_,hw.tape⟩
  ·rcases x with x| ⟨x,_⟩
   ·have:=hw.dL _ _ x;simp;omega
   ·simp;omega
  ·rcases x with x| ⟨_,x⟩
   ·have:=hw.dq _ _ x;simp;omega
   ·simp;omega
  ·rcases x with x| ⟨x,x'⟩<;>rcases y with y| ⟨y,y'⟩
   ·exact hw.fn _ _ _ x y
   ·have:=hw.dL _ _ x;omega
   ·have:=hw.dL _ _ y;omega
   ·omega
  ·rcases x with x| ⟨x,x'⟩<;>rcases y with y| ⟨y,y'⟩
   ·exact hw.inj _ _ _ x y
   ·have:=hw.dq _ _ x;omega
   ·have:=hw.dq _ _ y;omega
   ·omega
  ·rcases x with x| ⟨rfl,rfl⟩
   ·have ao:=hw.dL _ _ x
    have xI:=hw.dq _ _ x;simp only[ţ] at hq |-
    rw[if_neg (by omega)] at hq
    rw[if_neg (by omega)]
    obtain⟨q',e,r⟩:=hw.obj _ _ _ x hq;exact⟨q',e,r.mono (aM.Px _ _)⟩
   ·simp only[ţ] at hq |-
    simp only[if_true] at hq;obtain rfl:=Ϟ hq;exact⟨o',by simp,h.mono (aM.Px _ _)⟩
 ·refine⟨aM.Px _ _,λa b x=>?_,by simp,by simp,λa q hq hf=>?_,λb hb _=>?_,λb hb dv=>?_,rfl,rfl,rfl,rfl⟩
  ·rcases x with x| ⟨rfl,rfl⟩
   ·exact .inl x
   ·exact .inr ⟨ϊ _,ϊ _⟩
  ·have:=(ϛ.1 hq).1
   simp only[ţ]
   rw[if_neg (by omega)]
   exact hq
  ·simp only[ţ]
   rw[if_neg (by omega)]
  ·simp at dv
   exact⟨w.heap.size,.inr ⟨rfl,by omega⟩⟩
def Sim.getObj{a b:Nat}(h:ρ a b):Sim P' P C ρ (jq C) (Go.getObj a) (Go.getObj b):=by
 intro aM h1 w w' es hw u aa hr;have h:=h1 _ _ h;unfold Go.getObj at hr |-
 simp only[Ϣ] at hr;split at hr
 ·cases hr
 ·rename_i o br ho
  simp only[ę] at hr;obtain⟨rfl,rfl⟩:=hr;obtain⟨o',e,r⟩:=hw.obj _ _ _ h ho
  ·refine⟨aM,o',w',#[⟨.obj b,χ,χ⟩],?_,r,hw,Trans.refl ..,λx hx=>?_⟩
   ·cases r<;>first|exact(br _ _ _ rfl).elim| (simp only[Ϥ,e,ŏ];rfl)
   ·simp at hx
    subst hx;exact .inl ⟨b,a,.inl rfl,rfl,h,.inr ⟨o,ho,λx=>by cases x⟩⟩
 ·cases hr
def Sim.setObj{a b:Nat}{o o':Obj}(h:ρ a b)(IS:jq C ρ o o'):Sim P' P C ρ (λ_ _ _=>True) (Go.setObj a o) (Go.setObj b o'):=by
 intro aM h1 w w' es hw u aa hr;have h:=h1 _ _ h;have IS:=IS.mono h1;unfold Go.setObj at hr |-
 simp only[Ϣ] at hr;split at hr
 ·cases hr
 ·rename_i q EX hq
  simp only[ę] at hr;obtain⟨_,rfl⟩:=hr;have xM:¬mw q:=by
   intro hf;cases q<;>first|exact hf.elim|exact(EX _ _ _ rfl).elim
  have ao:=hw.dL _ _ h;have xI:=hw.dq _ _ h;obtain⟨q',e,r⟩:=hw.obj _ _ _ h hq;refine⟨aM,(),{w' with heap:=w'.heap.setIfInBounds b o'},#[⟨.obj b,θ,χ⟩],?_,trivial,?_,?_,λx hx=>?_⟩
  ·cases r<;>first|exact(EX _ _ _ rfl).elim| (cases IS<;>(simp only[Ϥ,e,ŏ];rfl))
  ·refine⟨λi j x=>by simpa using hw.dL i j x,λi j x=>by simpa using hw.dq i j x,hw.fn,hw.inj,λi j x xE hx=>?_,hw.tape⟩
   simp only[Ù] at hx |-
   by_cases hi:a=i
   ·subst hi
    rw[if_pos rfl,if_pos ao] at hx;obtain rfl:=Ϟ hx;obtain rfl:b=j:=hw.fn _ _ _ h xE;exact⟨o',by simp[xI],IS⟩
   ·rw[if_neg hi] at hx
    have:b≠j:=λe=>hi (hw.inj _ _ _ h (e▸xE))
    rw[if_neg this];exact hw.obj i j x xE hx
  ·refine⟨aM.le_refl,λ_ _ x=>.inl x,by simp,by simp,λi x hx hf=>?_,λj hj hk=>?_,λj hj rQ=>by simp at rQ;omega,rfl,rfl,rfl,rfl⟩
   ·simp only[Ù]
    by_cases hi:a=i
    ·subst hi
     rw[hq] at hx;obtain rfl:=Ϟ hx;exact absurd hf xM
    ·rw[if_neg hi];exact hx
   ·simp only[Ù]
    by_cases hi:b=j
    ·subst hi
     obtain⟨x,hx,hf⟩:=hk _ h;rw[hq] at hx;obtain rfl:=Ϟ hx;exact absurd hf xM
    ·rw[if_neg hi]
  ·simp at hx
   subst hx;exact .inl ⟨b,a,.inl rfl,rfl,h,.inr ⟨q,hq,λ_=>xM⟩⟩
 ·cases hr
def Sim.choose(q:Question):Sim P' P C ρ (λ_ a b=>a=b) (Go.choose q) (Go.choose q):=by
 intro aM h1 w w' es hw u aa hr;unfold Go.choose at hr |-
 simp only[Ϣ] at hr;split at hr
 ·rename_i hf
  simp only[ę] at hr;obtain⟨rfl,rfl⟩:=hr;exact⟨aM,0,w',#[],by simp only[Ϥ,hf,if_true,á],rfl,hw,Trans.refl ..,by simp⟩
 ·rename_i hf
  simp only[ę] at hr;obtain⟨rfl,rfl⟩:=hr;have ht:=hw.tape 0 q;simp only[Nat.add_zero] at ht;refine⟨aM,q.cut (w'.tape w'.drawn q),{w' with drawn:=w'.drawn+1},#[],by simp only[Ϥ,hf,Ð,if_false,á],by rw[ht],⟨hw.dL,hw.dq,hw.fn,hw.inj,hw.obj,λj r=>?_⟩,⟨aM.le_refl,λ_ _ x=>.inl x,ϊ _,ϊ _,λ_ _ x _=>x,λ_ _ _=>rfl,λb hb dv=>by simp at dv;omega,rfl,rfl,rfl,rfl⟩,by simp⟩
  have:=hw.tape (1+j) r;simpa [Nat.add_assoc] using this
def Sim.program:Sim P' P C ρ (λ_ a b=>a=P'/\b=P) Go.program Go.program:=by
 intro aM h1 w w' es hw u aa hr;unfold Go.program at hr |-
 simp only[Ϣ,ę] at hr;obtain⟨rfl,rfl⟩:=hr;exact⟨aM,P,w',#[],by simp only[Ϥ,á],⟨rfl,rfl⟩,hw,Trans.refl ..,by simp⟩
def Sim.shape{a b:Nat}(h:ρ a b):Sim P' P C ρ (λ_ a b=>a=b) (Go.shape a) (Go.shape b):=by
 intro aM h1 w w' es hw u aa hr;have h:=h1 _ _ h;unfold Go.shape at hr |-
 simp only[Ϣ,ę] at hr;obtain⟨rfl,rfl⟩:=hr;refine⟨aM,w'.shape? b,w',#[],by simp only[Ϥ,á],?_,hw,Trans.refl ..,by simp⟩
 obtain⟨o,ho,o',pJ,r⟩:=hw.N6 h;unfold Ad3;rw[ho,pJ];cases r with
 |cells e hc hf=>simp[hc.1]
 |_=>rfl
def Sim.noRoom:Sim P' P C ρ (λ_ _ _=>True) (Go.mark .noRoom) (Go.mark .noRoom):=by
 intro aM h1 w w' es hw u aa hr;unfold Go.mark at hr |-
 simp only[Ϣ,ę] at hr;obtain⟨_,rfl⟩:=hr;exact⟨aM,(),w',#[⟨.mark .noRoom,χ,θ⟩],by simp only[Ϥ,ŏ],trivial,hw,Trans.refl ..,λx hx=>by simp at hx;subst hx;exact .inr (.inl rfl)⟩
end
end Go.Sim
namespace Go.Sim
open Go
def Flat(v:υ):Prop:=aj (λ_ _=>False) v v
def Flat.rel(h:Flat v)(ρ:Ren):aj ρ v v:=aj.mono (λ_ _ x=>x.elim) h
def tw(P:ϕ)(F:Array Å):ϕ:={P with funcs:=F,globals:=#[]}
def Zd(P:ϕ)(F:Array Å):∀(f:Nat) (t:ό),Ŷ (tw P F).toTables f t=Ŷ P.toTables f t
 |0,t=>rfl
 |f+1,t=>by
  have e:Ŷ (tw P F).toTables f=Ŷ P.toTables f:=funext λt=>Zd P F f t
  show(if t<P.types.size then P.types[t]? else(Made.decode (t - P.types.size)).bind (Made.reckon (Ŷ (tw P F).toTables f)))=_
  rw[e];rfl
def mm(P:ϕ)(F:Array Å)(t:ό):(tw P F).info? t= P.info? t:=by
 show(if t<P.types.size then P.types[t]? else Ŷ (tw P F).toTables Made.depth t)=_
 rw[Zd];rfl
def kJ(P:ϕ)(F:Array Å)(t:ό):(tw P F).underlying t=P.underlying t:=by
 unfold Program.underlying;rw[mm];cases h: P.info? t with
 |none=>rfl
 |some i=>
  obtain⟨d,_⟩:=i;cases d;case named n u=>exact congrArg (Option.map _) (mm P F u)
  all_goals rfl
structure pA(P:ϕ):Prop where
 zero:∀t i v,P.info? t=φ i->i.zero=φ v->Flat v
section
variable {P:ϕ}{F:Array Å}{C:bX}{ρ:Ren}{α β γ δ:Type}
variable {R:Ren->α->β->Prop}{S:Ren->γ->δ->Prop}
def Sim.bind'{s:Sem α}{s':Sem β}{f:α->Sem γ}{g:β->Sem δ}(h:Sim P' P C ρ R s s')(hf:∀ax,ρ.le ax->∀a b,R ax a b->Sim P' P C ax S (f a) (g b)):
 Sim P' P C ρ S (s>>=f) (s'>>=g):=Sim.bind h hf
def Sim.pure'{a:α}{b:β}(h:∀ax,ρ.le ax->R ax a b):Sim P' P C ρ R (ϥ a) (ϥ b):=Sim.pure h
def Sim.stuck{P':ϕ}{why:String}{s':Sem β}:Sim P' P C ρ R (Go.stuck why:Sem α) s':=Sim.halt
def Sim.AW{why:String}{f:α->Sem γ}{s':Sem δ}:Sim P' P C ρ S ((Go.stuck why:Sem α)>>=f) s':=Sim.halt
def Sim.unsupported{P':ϕ}{u:Unsupported}{s':Sem β}:Sim P' P C ρ R (Go.unsupported u:Sem α) s':=Sim.halt
def Sim.Dc{u:Unsupported}{f:α->Sem γ}{s':Sem δ}:Sim P' P C ρ S ((Go.unsupported u:Sem α)>>=f) s':=Sim.halt
def bH(P':ϕ)(s:Sem α):Prop:=∀w a aa,s.run P' w≠ .ok a aa
def Sim.never{s:Sem α}{s':Sem β}(h:bH P' s):Sim P' P C ρ R s s':=λ_ _ w _ _ _ a aa hr=>absurd hr (h w a aa)
def bH.bind{P':ϕ}{s:Sem α}{f:α->Sem γ}(h:bH P' s):bH P' (s>>=f):=by
 intro w a aa hr;have hr:(s.bind f).run P' w=.ok a aa:=hr;rw[run_bind] at hr;cases e:s.run P' w with
 |ok b au=>exact h _ _ _ e
 |halt h' au=>rw[e] at hr;cases hr
def bH.lH{s:Sem α}{f:α->Sem γ}(h:∀a,bH P' (f a)):bH P' (s>>=f):=by
 intro w a aa hr;have hr:(s.bind f).run P' w=.ok a aa:=hr;rw[run_bind] at hr;cases e:s.run P' w with
 |ok b au=>rw[e] at hr;exact h b _ _ _ hr
 |halt h' au=>rw[e] at hr;cases hr
def bH.halt{P':ϕ}{h:Halt}:bH P' (.halt h:Sem α):=λw a aa hr=>by simp[Ϣ] at hr
def oV(e:RuntimeError):bH P' (runtimePanic e:Sem α):=by
 unfold runtimePanic;refine bH.lH λp=>?_
 cases e<;>simp only<;>first|exact bH.halt|exact bH.lH λ_=>bH.lH λ_=>bH.halt|exact bH.lH λ_=>bH.halt
def vJ(k:æ)(x y:Int)(c:Abj):bH P' (Abk k x y c:Sem α):=by
 unfold Abk;simp only;split<;>exact bH.lH λ_=>oV _
def Sim.typeInfo(t:ό):Sim (tw P F) P C ρ (λ_ a b=>a=b/\ P.info? t=φ b) (typeInfo t) (typeInfo t):=by
 unfold Go.typeInfo;refine Sim.bind' Sim.program λax _ a b h=>?_
 obtain⟨rfl,rfl⟩:=h;rw[mm];cases h: b.info? t with
 |none=>exact Sim.stuck
 |some i=>exact Sim.pure' λ_ _=>⟨rfl,rfl⟩
def Sim.underlying(t:ό):Sim (tw P F) P C ρ (λ_ a b=>a=b/\P.underlying t=φ b) (underlying t) (underlying t):=by
 unfold Go.underlying;refine Sim.bind' Sim.program λax _ a b h=>?_
 obtain⟨rfl,rfl⟩:=h;rw[kJ];cases h:b.underlying t with
 |none=>exact Sim.stuck
 |some i=>exact Sim.pure' λ_ _=>⟨rfl,rfl⟩
def Sim.zeroValue(T:pA P)(t:ό):Sim (tw P F) P C ρ aj (zeroValue t) (zeroValue t):=by
 unfold Go.zeroValue;refine Sim.bind' (Sim.typeInfo t) λax _ a b h=>?_
 obtain⟨rfl,hi⟩:=h;cases hz:a.zero with
 |none=>exact Sim.unsupported
 |some v=>exact Sim.pure' λ_ _=>(T.zero t a v hi hz).rel _
def Sim.sizeOf(t:ό):Sim (tw P F) P C ρ (λ_ a b=>a=b) (sizeOf t) (sizeOf t):=by
 unfold Go.sizeOf;refine Sim.bind' (Sim.typeInfo t) λax _ a b h=>?_
 obtain⟨rfl,_⟩:=h;exact Sim.pure' λ_ _=>rfl
def Sim.isAgg(t:ό):Sim (tw P F) P C ρ (λ_ a b=>a=b) (isAgg t) (isAgg t):=by
 unfold Go.isAgg;refine Sim.bind' (Sim.underlying t) λax _ a b h=>?_
 obtain⟨rfl,_⟩:=h;cases a<;>exact Sim.pure' λ_ _=>rfl
def Sim.loadCellsFrom{a b:ϝ}(h:eh ρ a b)(n:Nat):∀(i:Nat) {acc GZ:Array υ} {ax:Ren},ρ.le ax->aV ax acc GZ->Sim (tw P F) P C ax aV (loadCellsFrom a i n acc) (loadCellsFrom b i n GZ):=by
 induction n with
 |zero=>intro i acc GZ ax hl Ep;exact Sim.pure' λfw ed=>Ep.mono ed
 |succ n ih=>
  intro i acc GZ ax hl Ep;unfold Go.loadCellsFrom;exact Sim.bind' (Sim.load ((h.mono hl).add i)) λfw ed v v' hv=>ih (i+1) (Ren.le_trans hl ed) ((Ep.mono ed).push hv)
def Sim.loadCells{a b:ϝ}(h:eh ρ a b)(n:Nat):Sim (tw P F) P C ρ aV (loadCells a n) (loadCells b n):=
 Sim.loadCellsFrom h n 0 ρ.le_refl .empty
def Sim.storeCells{a b:ϝ}{vs Zp:List υ}(h:eh ρ a b)(hv:gR (aj ρ) vs Zp):∀(i:Nat),Sim (tw P F) P C ρ (λ_ _ _=>True) (storeCells a vs i) (storeCells b Zp i):=by
 induction hv with
 |nil=>intro i;exact Sim.pure' λ_ _=>trivial
 |cons hv _ ih=>
  intro i;unfold Go.storeCells;exact Sim.bind' (Sim.store (h.add i) hv) λax h' _ _ _=>(ih (i+1)).mono h'
def Sim.loadVar(t:ό){a b:ϝ}(h:eh ρ a b):Sim (tw P F) P C ρ aj (loadVar t a) (loadVar t b):=by
 unfold Go.loadVar;refine Sim.bind' (Sim.isAgg t) λax h' x y e=>?_
 subst e;have h:=h.mono h';cases x with
 |true=>
  simp only[if_true];refine Sim.bind' (Sim.sizeOf t) λfw ed x y e=>?_
  subst e;exact Sim.bind' (Sim.loadCells (h.mono ed) x) λeA _ c c' hc=>Sim.pure' λ_ h4=>aj.wH (hc.mono h4)
 |false=>exact Sim.load h
def Sim.storeVar(t:ό){a b:ϝ}{v v':υ}(h:eh ρ a b)(hv:aj ρ v v'):Sim (tw P F) P C ρ (λ_ _ _=>True) (storeVar t a v) (storeVar t b v'):=by
 unfold Go.storeVar;refine Sim.bind' (Sim.sizeOf t) λax h' x y e=>?_
 subst e;have hc:=(hv.mono h').cells;rw[<-hc.1];split
 ·exact Sim.stuck
 ·exact Sim.storeCells (h.mono h') hc.pQ 0
def Sim.newRow(e:ό){c c':Array υ}(h:aV ρ c c'):Sim (tw P F) P C ρ eh (newRow e c) (newRow e c'):=by
 unfold Go.newRow;exact Sim.bind' (Sim.newObj (.cells e h (.inl rfl))) λax _ a b hab=>Sim.pure' λ_ h2=>⟨h2 _ _ hab,rfl,rfl⟩
def Sim.newVar(t:ό){v v':υ}(h:aj ρ v v'):Sim (tw P F) P C ρ eh (newVar t v) (newVar t v'):=Sim.newRow t h.cells
def Sim.part(t:ό){c c':Array υ}(h:aV ρ c c')(off:Nat):Sim (tw P F) P C ρ aj (part t c off) (part t c' off):=by
 unfold Go.part;refine Sim.bind' (Sim.isAgg t) λax h' x y e=>?_
 subst e;have h:=h.mono h';cases x with
 |true=>
  simp only[if_true];refine Sim.bind' (Sim.sizeOf t) λfw ed x y e=>?_
  subst e;exact Sim.pure' λ_ h4=>aj.wH ((h.mono (Ren.le_trans ed h4)).extract _ _)
 |false=>
  simp only[Ð,if_false];rcases h.get? off with⟨e1,_⟩ | ⟨u,v,e1,e2,I5⟩
  ·rw[e1];exact Sim.stuck
  ·rw[e1,e2];exact Sim.pure' λ_ h4=>I5.mono h4
def Sim.asIntOf{v v':υ}(h:aj ρ v v'):Sim (tw P F) P C ρ (λ_ a b=>a=b) (asIntOf v) (asIntOf v'):=by
 cases h<;>first|exact Sim.pure' λ_ _=>rfl|exact Sim.halt
def Sim.asInt{v v':υ}(h:aj ρ v v'):Sim (tw P F) P C ρ (λ_ a b=>a=b) (asInt v) (asInt v'):=
 Sim.bind' (Sim.asIntOf h) λ_ _ a b e=>by subst e;exact Sim.pure' λ_ _=>rfl
def Sim.asBool{v v':υ}(h:aj ρ v v'):Sim (tw P F) P C ρ (λ_ a b=>a=b) (asBool v) (asBool v'):=by
 cases h<;>first|exact Sim.pure' λ_ _=>rfl|exact Sim.halt
def Sim.asAgg{v v':υ}(h:aj ρ v v'):Sim (tw P F) P C ρ aV (asAgg v) (asAgg v'):=by
 cases h;case agg hx h1=>exact Sim.pure' λ_ h'=>aV.mono h' ⟨hx,h1⟩
 all_goals exact Sim.halt
def Sim.asAddr{v v':υ}(h:aj ρ v v'):Sim (tw P F) P C ρ eh (asAddr v) (asAddr v'):=by
 cases h;case ptr hx=>exact Sim.pure' λ_ h'=>eh.mono h' hx
 case ptrNone=>exact Sim.never (show bH (tw P F) (Go.asAddr (π ν)) from oV .nilDeref)
 all_goals exact Sim.halt
def Sim.sureAddr{v v':υ}(h:aj ρ v v'):Sim (tw P F) P C ρ eh (Instr.sureAddr v) (Instr.sureAddr v'):=by
 cases h;case ptr hx=>exact Sim.pure' λ_ h'=>eh.mono h' hx
 all_goals exact Sim.halt
end
end Go.Sim
namespace Go.Sim
open Go
section
variable {P:ϕ}{F:Array Å}{C:bX}{ρ:Ren}{α β γ δ:Type}
variable {R:Ren->α->β->Prop}{S:Ren->γ->δ->Prop}
def KH(ρ:Ren):Prop:=(∀a b b',ρ a b->ρ a b'->b=b')/\(∀a a' b,ρ a b->ρ a' b->a=a')
def Sim.cO{s:Sem σ}{s':Sem σ}{f:σ->Sem γ}{g:σ->Sem δ}(h:Sim P' P C ρ (λ_ a b=>a=b) s s')(hf:∀ax,ρ.le ax->∀a,Sim P' P C ax S (f a) (g a)):
 Sim P' P C ρ S (s>>=f) (s'>>=g):=Sim.bind' h λax h' a b e=>by subst e;exact hf ax h' a
def Sim.map{s:Sem α}{s':Sem β}{f:α->γ}{g:β->δ}(h:Sim P' P C ρ R s s')(hf:∀ax,ρ.le ax->∀a b,R ax a b->∀fw,ax.le fw->S fw (f a) (g b)):
 Sim P' P C ρ S (f<$>s) (g<$>s'):=by
 rw[map_eq_pure_bind,map_eq_pure_bind];exact Sim.bind' h λax h' a b r=>Sim.pure' λfw ed=>hf ax h' a b r fw ed
def Sim.fR{t:ό}{f:ő->Sem γ}{g:ő->Sem δ}(hf:∀ax,ρ.le ax->∀a,P.underlying t=φ a->Sim (tw P F) P C ax S (f a) (g a)):
 Sim (tw P F) P C ρ S (Go.underlying t>>=f) (Go.underlying t>>=g):=Sim.bind' (Sim.underlying t) λax h' a b e=>by obtain⟨rfl,e⟩:=e;exact hf ax h' a e
def Sim.Db{t:ό}{f:TypeInfo->Sem γ}{g:TypeInfo->Sem δ}(hf:∀ax,ρ.le ax->∀a,P.info? t=φ a->Sim (tw P F) P C ax S (f a) (g a)):
 Sim (tw P F) P C ρ S (Go.typeInfo t>>=f) (Go.typeInfo t>>=g):=Sim.bind' (Sim.typeInfo t) λax h' a b e=>by obtain⟨rfl,e⟩:=e;exact hf ax h' a e
def Sim.sO(l:List ι){f g:ι->σ->Sem (ForInStep σ)}(h:∀x∈l,∀s,Sim P' P C ρ (λ_ a b=>a=b) (f x s) (g x s)):
 ∀s,Sim P' P C ρ (λ_ a b=>a=b) (forIn l s f) (forIn l s g):=by
 induction l with
 |nil=>intro s;exact Sim.pure' λ_ _=>rfl
 |cons x l ih=>
  intro s;rw[List.forIn_cons,List.forIn_cons];refine Sim.cO (h x (by simp) s) λax h' r=>?_
  cases r with
  |done s=>exact Sim.pure' λ_ _=>rfl
  |yield s=>exact(ih (λy hy s=>h y (by simp[hy]) s) s).mono h'
def Sim.zm(l:Array ι){f g:ι->σ->Sem (ForInStep σ)}(h:∀x∈l,∀s,Sim P' P C ρ (λ_ a b=>a=b) (f x s) (g x s))(s:σ):
 Sim P' P C ρ (λ_ a b=>a=b) (forIn l s f) (forIn l s g):=by
 rw[<-Aaj,<-Aaj];exact Sim.sO _ (λx hx s=>h x (by simpa using hx) s) s
def Sim.AJ(l:List ι){f g:ι->Sem σ}(h:∀x∈l,Sim P' P C ρ (λ_ a b=>a=b) (f x) (g x)):
 Sim P' P C ρ (λ_ a b=>a=b) (l.mapM f) (l.mapM g):=by
 induction l with
 |nil=>simp only[List.mapM_nil];exact Sim.pure' λ_ _=>rfl
 |cons x l ih=>
  simp only[List.mapM_cons];refine Sim.cO (h x (by simp)) λax h' a=>?_
  refine Sim.cO ((ih λy hy=>h y (by simp[hy])).mono h') λfw ed b=>Sim.pure' λ_ _=>rfl
def Sim.yb(l:Array ι){f g:ι->Sem σ}(h:∀x∈l,Sim P' P C ρ (λ_ a b=>a=b) (f x) (g x)):
 Sim P' P C ρ (λ_ a b=>a=b) (l.mapM f) (l.mapM g):=by
 rw[į,į];exact Sim.map (Sim.AJ _ λx hx=>h x (by simpa using hx)) λ_ _ a b e _ _=>by rw[e]
def Sim.alloc(T:pA P)(t:ό):Sim (tw P F) P C ρ aj (Instr.alloc t θ (μ #[])) (Instr.alloc t θ (μ #[])):=by
 unfold Instr.alloc;refine Sim.bind' (Sim.zeroValue T t) λax h' v v' hv=>?_
 exact Sim.bind' (Sim.newVar t hv) λfw ed a b hab=>Sim.pure' λ_ h=>.ptr (hab.mono h)
def Sim.box(t:ό){v v':υ}(h:aj ρ v v'):Sim (tw P F) P C ρ aj (Instr.box t v) (Instr.box t v'):=by
 unfold Instr.box;exact Sim.bind' (Sim.newVar t h) λfw ed a b hab=>Sim.pure' λ_ h=>.ptr (hab.mono h)
def Sim.loadAt(t:ό){v v':υ}(h:aj ρ v v'):Sim (tw P F) P C ρ aj (Instr.loadAt t v) (Instr.loadAt t v'):=
 Sim.bind' (Sim.sureAddr h) λ_ _ _ _ hab=>Sim.loadVar t hab
def Sim.storeAt(t:ό){v v' x x':υ}(h:aj ρ v v')(hx:aj ρ x x'):Sim (tw P F) P C ρ (λ_ _ _=>True) (Instr.storeAt t v x) (Instr.storeAt t v' x'):=
 Sim.bind' (Sim.sureAddr h) λ_ h' _ _ hab=>Sim.storeVar t hab (hx.mono h')
def Sim.fieldAt(s:ό){v v':υ}(h:aj ρ v v')(i:Nat)(cD:∀fs f,P.underlying s=φ (.struct fs)->fs[i]?=φ f->∃info,P.info? f.type=φ info/\info.size≠0):
 Sim (tw P F) P C ρ aj (Instr.fieldAt s v i) (Instr.fieldAt s v' i):=by
 unfold Instr.fieldAt;refine Sim.fR λax h' d hd=>?_
 cases d;case struct fs=>
  simp only;cases hf:fs[i]? with
  |none=>exact Sim.stuck
  |some f=>
   simp only;refine Sim.bind' (Sim.sureAddr (h.mono h')) λfw ed a b hab=>?_
   refine Sim.bind' (R:=eh) ?_ λeA h3 a b hab=>Sim.pure' λ_ h4=>.ptr (hab.mono h4)
   unfold Go.fieldPlace;unfold Go.sizeOf;obtain⟨info,hi,hz⟩:=cD fs f hd hf;simp only[bind_assoc,pure_bind];refine Sim.Db λeA h3 i bG=>?_
   rw[hi] at bG;obtain rfl:=Ϟ bG;simp only[if_neg hz];exact Sim.pure' λ_ h4=>(hab.mono (Ren.le_trans h3 h4)).add _
 all_goals exact Sim.stuck
inductive fK{α β:Type}(R:α->β->Prop):Option α->Option β->Prop
 |none:fK R ν ν
 |some {a:α} {b:β} (h:R a b):fK R (φ a) (φ b)
def fK.mono{α β:Type}{R R':α->β->Prop}(h:∀a b,R a b->R' a b){x:Option α}{y:Option β}(k:fK R x y):fK R' x y:=by
 cases k with
 |none=>exact .none
 |some k=>exact .some (h _ _ k)
def tq(t:ό)(k:æ)(i:Int)(base:Option ϝ)(len:Nat)(elem:ό):Sem υ:=do
 let apV:=len<=1 && (match <-Go.underlying t with| .array .. =>θ|_=>χ)
 match base with
 |some a=>
  if 0<=i/\i<len then pure (π (φ (a.add (i.toNat * (<-Go.sizeOf elem)))))
  else if apV then Go.unsupported (.noEntry "op/indexAddr.an index out of range at an array of length 0 or 1 (ledger 616)")
  else Abk k i len .index
 |none=>Abk k i 0 .index
def Sim.tq(t:ό)(k:æ)(i:Int){x y:Option ϝ}(hxy:fK (eh ρ) x y)(len:Nat)(e:ό):
 Sim (tw P F) P C ρ aj (tq t k i x len e) (tq t k i y len e):=by
 unfold Go.Sim.tq;refine Sim.fR λmq h4 d' Ez=>?_
 cases hxy with
 |none=>exact Sim.never (vJ _ _ _ _)
 |some hxy=>
  simp only;split
  ·exact Sim.cO (Sim.sizeOf _) λv8 h5 n=>Sim.pure' λ_ h6=>.ptr ((hxy.mono (Ren.le_trans h4 (Ren.le_trans h5 h6))).add _)
  ·split
   ·split
    ·exact Sim.unsupported
    ·exact Sim.never (vJ _ _ _ _)
   ·split
    ·exact Sim.unsupported
    ·exact Sim.never (vJ _ _ _ _)
def Sim.ajb(t:ό)(k:æ)(i:Int)(x y:ϝ)(e:ό):Sim (tw P F) P C ρ aj (Go.Sim.tq t k i (φ x) 0 e) (Go.Sim.tq t k i (φ y) 0 e):=by
 unfold Go.Sim.tq;refine Sim.fR λmq h4 d' Ez=>?_
 have hn:¬ (0<=i/\i<((0:Nat):Int)):=by omega
 simp only[if_neg hn];split
 ·split
  ·exact Sim.unsupported
  ·exact Sim.never (vJ _ _ _ _)
 ·split
  ·exact Sim.unsupported
  ·exact Sim.never (vJ _ _ _ _)
def Sim.indexAt(t:ό){v v' x x':υ}(h:aj ρ v v')(hx:aj ρ x x'):Sim (tw P F) P C ρ aj (Instr.indexAt t v x) (Instr.indexAt t v' x'):=by
 unfold Instr.indexAt;refine Sim.cO (Sim.asIntOf hx) λax h' ki=>?_
 obtain⟨k,i⟩:=ki;simp only;refine Sim.fR λfw ed d hd=>?_
 have h:=h.mono (Ren.le_trans h' ed);cases d;case array n e=>
  simp only;refine Sim.bind' (Sim.sureAddr h) λeA h3 a b hab=>?_
  exact Sim.tq t k i (.some hab) n e
 case slice e=>
  cases h;case slice n c hab=>exact Sim.tq t k i (.some hab) n e
  case sliceNone n c=>exact Sim.tq t k i .none n e
  case sliceDead a b=>exact Sim.ajb t k i a b e
  all_goals exact Sim.AW
 all_goals (cases h<;>exact Sim.AW)
def Sim.field(t:ό){v v':υ}(h:aj ρ v v')(i:Nat):Sim (tw P F) P C ρ aj (Instr.field t v i) (Instr.field t v' i):=by
 unfold Instr.field;refine Sim.fR λax h' d hd=>?_
 cases d;case struct fs=>
  simp only;cases hf:fs[i]? with
  |none=>exact Sim.stuck
  |some f=>exact Sim.bind' (Sim.asAgg (h.mono h')) λ_ _ _ _ hab=>Sim.part _ hab _
 all_goals exact Sim.stuck
def Sim.index(t:ό){v v' x x':υ}(h:aj ρ v v')(hx:aj ρ x x'):Sim (tw P F) P C ρ aj (Instr.index t v x) (Instr.index t v' x'):=by
 unfold Instr.index;refine Sim.cO (Sim.asIntOf hx) λax h' ki=>?_
 obtain⟨k,i⟩:=ki;simp only;refine Sim.fR λfw ed d hd=>?_
 have h:=h.mono (Ren.le_trans h' ed);cases d;case array n e=>
  cases h;case agg hx h1=>
   simp only;split
   ·exact Sim.cO (Sim.sizeOf _) λv8 h5 n=>Sim.part _ (aV.mono h5 ⟨hx,h1⟩) _
   ·exact Sim.never (vJ _ _ _ _)
  all_goals exact Sim.stuck
 case string=>
  cases h;case string s=>
   simp only;split
   ·exact Sim.pure' λ_ _=>.int _ _
   ·exact Sim.never (vJ _ _ _ _)
  all_goals exact Sim.stuck
 all_goals (cases h<;>exact Sim.stuck)
def Sim.sliceBound{v v':υ}(h:aj ρ v v')(y:Nat)(c:Abj):Sim (tw P F) P C ρ (λ_ a b=>a=b) (Ť v y c) (Ť v' y c):=by
 unfold Ť;refine Sim.cO (Sim.asIntOf h) λax h' ki=>?_
 obtain⟨k,i⟩:=ki;simp only;split
 ·exact Sim.pure' λ_ _=>rfl
 ·exact Sim.never (vJ _ _ _ _)
def wM(l:Option υ)(mx:Bool)(y x:Nat):Sem (Nat×Nat×Nat):=
 match l with
 |some v=>Ť v y (if mx=θ then BoundsCode.slice3C else BoundsCode.sliceB)>>=λl=>ϥ (l,y,x)
 |none=>ϥ 0>>=λl=>ϥ (l,y,x)
def Sim.aoD(hl:fK (aj ρ) l l')(mx:Bool)(y x:Nat):Sim (tw P F) P C ρ (λ_ a b=>a=b) (wM l mx y x) (wM l' mx y x):=by
 cases hl with
 |none=>exact Sim.pure' λ_ _=>rfl
 |some hl=>exact Sim.cO (Sim.sliceBound hl _ _) λ_ _ _=>Sim.pure' λ_ _=>rfl
def Sim.sliceBounds(b:Bool)(n c:Nat){l l' h h' m m':Option υ}(hl:fK (aj ρ) l l')(hh:fK (aj ρ) h h')(hm:fK (aj ρ) m m'):
 Sim (tw P F) P C ρ (λ_ a b=>a=b) (ŵ b n c l h m) (ŵ b n c l' h' m'):=by
 have tl:∀(ax:Ren),ρ.le ax->∀(mx:Bool) (x y:Nat),Sim (tw P F) P C ax (λ_ a b=>a=b) (wM l mx y x) (wM l' mx y x):=
  λax h' mx x y=>Sim.aoD (hl.mono λ_ _ x=>aj.mono h' x) mx y x
 unfold ŵ;cases hm with
 |none=>
  cases hh with
  |none=>exact tl ρ ρ.le_refl χ c n
  |some hh=>
   simp only[pure_bind];exact Sim.cO (Sim.sliceBound hh _ _) λax h' y=>tl ax h' χ c y
 |some hm=>
  refine Sim.cO (Sim.sliceBound hm _ _) λax h' x=>?_
  cases hh with
  |none=>exact Sim.AW
  |some hh=>exact Sim.cO (Sim.sliceBound (hh.mono h') _ _) λfw ed y=>tl fw (Ren.le_trans h' ed) θ x y
def Sim.J4(h:aj ρ v v')(c:Abj):Sim (tw P F) P C ρ (λ_ a b=>a=0/\b=0) (Ť v 0 c) (Ť v' 0 c):=by
 unfold Ť;refine Sim.cO (Sim.asIntOf h) λax h' ki=>?_
 obtain⟨k,i⟩:=ki;simp only;split
 ·have:i.toNat=0:=by omega
  exact Sim.pure' λ_ _=>⟨this,this⟩
 ·exact Sim.never (vJ _ _ _ _)
def Sim.aoE(hl:fK (aj ρ) l l')(mx:Bool):Sim (tw P F) P C ρ (λ_ a b=>a=(0,0,0)/\b=(0,0,0)) (wM l mx 0 0) (wM l' mx 0 0):=by
 cases hl with
 |none=>exact Sim.pure' λ_ _=>⟨rfl,rfl⟩
 |some hl=>exact Sim.bind' (Sim.J4 hl _) λ_ _ a b ⟨ha,hb⟩=>by subst ha hb;exact Sim.pure' λ_ _=>⟨rfl,rfl⟩
def Sim.ao4(b:Bool){h h' m m':Option υ}(hl:fK (aj ρ) l l')(hh:fK (aj ρ) h h')(hm:fK (aj ρ) m m'):
 Sim (tw P F) P C ρ (λ_ a b=>a=(0,0,0)/\b=(0,0,0)) (ŵ b 0 0 l h m) (ŵ b 0 0 l' h' m'):=by
 have tl:∀(ax:Ren),ρ.le ax->∀(mx:Bool),Sim (tw P F) P C ax (λ_ a b=>a=(0,0,0)/\b=(0,0,0)) (wM l mx 0 0) (wM l' mx 0 0):=
  λax h' mx=>Sim.aoE (hl.mono λ_ _ x=>aj.mono h' x) mx
 unfold ŵ;cases hm with
 |none=>
  cases hh with
  |none=>exact tl ρ ρ.le_refl χ
  |some hh=>
   simp only[pure_bind];exact Sim.bind' (Sim.J4 hh _) λax h' x y hxy=>by obtain⟨rfl,rfl⟩:=hxy;exact tl ax h' χ
 |some hm=>
  refine Sim.bind' (Sim.J4 hm _) λax h' x y hxy=>?_
  obtain⟨rfl,rfl⟩:=hxy;cases hh with
  |none=>exact Sim.AW
  |some hh=>exact Sim.bind' (Sim.J4 (hh.mono h') _) λfw ed x y hxy=>by obtain⟨rfl,rfl⟩:=hxy;exact tl fw (Ren.le_trans h' ed) θ
def Sim.slice(t:ό){v v':υ}{l l' h h' m m':Option υ}(hv:aj ρ v v')(hl:fK (aj ρ) l l')(hh:fK (aj ρ) h h')(hm:fK (aj ρ) m m'):
 Sim (tw P F) P C ρ aj (Acs t v l h m) (Acs t v' l' h' m'):=by
 unfold Acs;refine Sim.fR λcF h1 d hd=>?_
 have hv:=hv.mono h1;have hl:=hl.mono λ_ _ x=>aj.mono h1 x
 have hh:=hh.mono λ_ _ x=>aj.mono h1 x
 have hm:=hm.mono λ_ _ x=>aj.mono h1 x
 cases d;case string=>
  cases hv;case string s=>
   cases hm with
   |some _=>exact Sim.AW
   |none=>
    refine Sim.cO (Sim.sliceBounds _ _ _ hl hh .none) λbQ h2 x=>Sim.pure' λ_ _=>.string _
  all_goals exact Sim.stuck
 case slice e=>
  cases hv;case slice n c hab=>
   refine Sim.cO (Sim.sliceBounds _ _ _ hl hh hm) λbQ h2 x=>?_
   obtain⟨x1,x2,x3⟩:=x;simp only;refine Sim.cO (Sim.sizeOf _) λeA h3 n=>?_
   refine Sim.pure' λmq h4=>?_
   have hab:=hab.mono (Ren.le_trans h2 (Ren.le_trans h3 h4));split
   ·exact .slice _ _ hab
   ·exact .slice _ _ (hab.add _)
  case sliceNone n c=>
   refine Sim.cO (Sim.sliceBounds _ _ _ hl hh hm) λbQ h2 x=>?_
   obtain⟨x1,x2,x3⟩:=x;simp only;refine Sim.cO (Sim.sizeOf _) λeA h3 n=>?_
   refine Sim.pure' λmq h4=>?_
   split<;>exact .sliceNone _ _
  case sliceDead a b=>
   refine Sim.bind' (Sim.ao4 _ hl hh hm) λbQ h2 x y hxy=>?_
   obtain⟨rfl,rfl⟩:=hxy;simp only;refine Sim.cO (Sim.sizeOf _) λeA h3 n=>?_
   refine Sim.pure' λmq h4=>?_
   split<;>exact .sliceDead _ _
  all_goals exact Sim.stuck
 case pointer arr=>
  simp only;refine Sim.bind' (Sim.asAddr hv) λbQ h2 a b hab=>?_
  refine Sim.fR λeA h3 d' Ez=>?_
  cases d';case array n e=>
   simp only;refine Sim.cO (Sim.sliceBounds _ _ _ (hl.mono λ_ _ x=>aj.mono (Ren.le_trans h2 h3) x) (hh.mono λ_ _ x=>aj.mono (Ren.le_trans h2 h3) x) (hm.mono λ_ _ x=>aj.mono (Ren.le_trans h2 h3) x)) λmq h4 x=>?_
   obtain⟨x1,x2,x3⟩:=x;simp only;refine Sim.cO (Sim.sizeOf _) λv8 h5 n=>?_
   refine Sim.pure' λRl h6=>?_
   have hab:=hab.mono (Ren.le_trans h3 (Ren.le_trans h4 (Ren.le_trans h5 h6)));split
   ·exact .slice _ _ hab
   ·exact .slice _ _ (hab.add _)
  all_goals exact Sim.stuck
 all_goals (cases hv<;>exact Sim.stuck)
def Sim.sliceAt(t:ό){v v':υ}{l l' h h' m m':Option υ}(hv:aj ρ v v')(hl:fK (aj ρ) l l')(hh:fK (aj ρ) h h')(hm:fK (aj ρ) m m'):
 Sim (tw P F) P C ρ aj (Acu t v l h m) (Acu t v' l' h' m'):=by
 unfold Acu;refine Sim.fR λcF h1 d hd=>?_
 have hv:=hv.mono h1;have hl:=hl.mono λ_ _ x=>aj.mono h1 x
 have hh:=hh.mono λ_ _ x=>aj.mono h1 x
 have hm:=hm.mono λ_ _ x=>aj.mono h1 x
 cases d;case array n e=>
  simp only;refine Sim.bind' (Sim.sureAddr hv) λbQ h2 a b hab=>?_
  refine Sim.cO (Sim.sliceBounds _ _ _ (hl.mono λ_ _ x=>aj.mono h2 x) (hh.mono λ_ _ x=>aj.mono h2 x) (hm.mono λ_ _ x=>aj.mono h2 x)) λmq h4 x=>?_
  obtain⟨x1,x2,x3⟩:=x;simp only;refine Sim.cO (Sim.sizeOf _) λv8 h5 n=>?_
  refine Sim.pure' λRl h6=>?_
  have hab:=hab.mono (Ren.le_trans h4 (Ren.le_trans h5 h6));split
  ·exact .slice _ _ hab
  ·exact .slice _ _ (hab.add _)
 all_goals exact Sim.slice t hv hl hh hm
def bH.program{P':ϕ}{f:ϕ->Sem γ}(h:bH P' (f P')):bH P' (Go.program>>=f):=by
 intro w a aa hr;exact h w a aa hr
def bH.typeInfo{t:ό}{f:TypeInfo->Sem γ}(h:∀i,P.info? t=φ i->bH (tw P F) (f i)):bH (tw P F) (Go.typeInfo t>>=f):=by
 unfold Go.typeInfo;rw[bind_assoc];refine bH.program ?_
 rw[mm];cases e: P.info? t with
 |none=>exact bH.halt
 |some i=>exact h i e
def Za(P:ϕ)(F:Array Å):∀(n:Nat) (t u:ό),(tw P F).alikeButTags n t u=P.alikeButTags n t u
 |0,_,_=>rfl
 |n+1,t,u=>by
  have e:(tw P F).alikeButTags n=P.alikeButTags n:=funext λt=>funext λu=>Za P F n t u
  unfold Program.alikeButTags;rw[e,mm,mm]
def aqh(P:ϕ)(F:Array Å)(t:ό):(tw P F).underlyingId t=P.underlyingId t:=by
 unfold Program.underlyingId;rw[mm]
def C9(P:ϕ)(F:Array Å):(tw P F).depth=P.depth:=rfl
def aqg(P:ϕ)(F:Array Å)(t:ό):(tw P F).stoodInAs t=P.stoodInAs t:=by
 unfold Program.stoodInAs;simp only[kJ,Za,aqh,C9];rfl
def Zf(P:ϕ)(F:Array Å)(t:ό):(tw P F).stoodInHeld t=P.stoodInHeld t:=by
 unfold Program.stoodInHeld;rw[aqg,mm]
def Kh(P:ϕ)(F:Array Å):∀(d:Nat) (t:ό),(tw P F).eqGuardType d t=P.eqGuardType d t
 |0,_=>rfl
 |d+1,t=>by
  have e:(tw P F).eqGuardType d=P.eqGuardType d:=funext λt=>Kh P F d t
  unfold Program.eqGuardType;rw[kJ,e]
def ix(P:ϕ):Nat->ό->Bool
 |0,_=>χ
 |d+1,t=>
  match P.info? t with
  |none=>χ
  |some i=>
   (match i.desc with| .named "sync.copyChecker" _=>χ|_=>θ) &&
   match P.underlying t with
   |some .bool|some (.int _) |some .string|some (.slice _) |some (.map _ _) |some (.func _ _ _)=>θ
   |some (.struct fs)=>fs.all λf=>ix P d f.type
   |some (.array _ e)=>ix P d e
   |_=>χ
def Sim.equalIn:∀(d n:Nat) (t:ό) {x x' y y':υ} {ρ:Ren},ix P n t=θ->aj ρ x x'->aj ρ y y'->
 Sim (tw P F) P C ρ (λ_ a b=>a=b) (ł d t x y) (ł d t x' y'):=by
 intro d;induction d with
 |zero=>intro n t x x' y y' ρ _ _ _;exact Sim.halt
 |succ d ih=>
  intro n t x x' y y' ρ h hx hy;cases n with
  |zero=>cases h
  |succ n=>
  unfold ł;refine Sim.fR λcF h1 ds hd=>?_
  have hx:=hx.mono h1;have hy:=hy.mono h1;unfold ix at h;cases hi: P.info? t with
  |none=>rw[hi] at h;cases h
  |some info=>
  rw[hi,hd] at h;simp only[ϩ] at h;obtain⟨dg,h⟩:=h;cases ds;case bool=>
   cases hx<;>first|exact Sim.stuck| (cases hy<;>first|exact Sim.pure' λ_ _=>rfl|exact Sim.stuck)
  case string=>
   cases hx<;>first|exact Sim.stuck| (cases hy<;>first|exact Sim.pure' λ_ _=>rfl|exact Sim.stuck)
  case int k=>
   cases hx;case int k a=>
    cases hy;case int k' b=>
     have key:Sim (tw P F) P C cF (λ_ a b=>a=b) (if k=k' then ϥ (a==b) else Go.stuck "==: kinds differ") (if k=k' then ϥ (a==b) else Go.stuck "==: kinds differ"):=by
      split
      ·exact Sim.pure' λ_ _=>rfl
      ·exact Sim.stuck
     cases a with
     |ofNat a=>cases a<;>(cases b with|ofNat b=>cases b<;>exact key|negSucc b=>exact key)
     |negSucc a=>cases b with|ofNat b=>cases b<;>exact key|negSucc b=>exact key
    case ptr hab=>
     cases a with
     |ofNat a=>cases a<;>first|exact Sim.pure' λ_ _=>rfl|exact Sim.unsupported
     |negSucc a=>exact Sim.unsupported
    all_goals first|exact Sim.unsupported|exact Sim.stuck
   case ptr hab=>
    cases hy;case ptr hab'=>
     refine Sim.never ?_
     refine bH.lH λ_=>bH.lH λ_=>bH.program ?_
     split
     ·rename_i hc
      simp[tw] at hc
     ·refine bH.typeInfo λi bG=>?_
      rw[hi] at bG;obtain rfl:=Ϟ bG;split
      ·rename_i dD
       rw[dD] at dg;cases dg
      ·exact bH.halt
    case int k' b=>
     cases b with
     |ofNat b=>cases b<;>first|exact Sim.pure' λ_ _=>rfl|exact Sim.unsupported
     |negSucc b=>exact Sim.unsupported
    all_goals first|exact Sim.unsupported|exact Sim.stuck
   case ptrNone=>cases hy<;>exact Sim.unsupported
   all_goals (cases hy<;>first|exact Sim.unsupported|exact Sim.stuck)
  case slice e=>
   cases hx<;>first|exact Sim.stuck| (cases hy<;>first|exact Sim.pure' λ_ _=>rfl|exact Sim.stuck)
  case map k e=>
   cases hx<;>first|exact Sim.stuck| (cases hy<;>first|exact Sim.pure' λ_ _=>rfl|exact Sim.stuck)
  case func a b c=>
   cases hx<;>first|exact Sim.stuck| (cases hy<;>first|exact Sim.pure' λ_ _=>rfl|exact Sim.stuck)
  case struct fs=>
   cases hx;case agg hxs hxs'=>
    cases hy;case agg hys hys'=>
     simp only;refine Sim.bind' Sim.program λbQ h2 p p' hp=>?_
     obtain⟨rfl,rfl⟩:=hp;rw[Zf];split
     ·exact Sim.unsupported
     ·refine Sim.cO (Sim.zm fs (λf hf s=>?_) _) λeA h3 r=>?_
      ·have Oa:ix p' n f.type=θ:=by
        simp only[Ģ] at h;exact h f hf
       split
       ·refine Sim.bind' (Sim.part f.type (aV.mono h2 ⟨hxs,hxs'⟩) _) λeA h3 a a' ha=>?_
        refine Sim.bind' (Sim.part f.type (aV.mono (Ren.le_trans h2 h3) ⟨hys,hys'⟩) _) λmq h4 b b' hb=>?_
        refine Sim.cO (ih n f.type Oa (ha.mono h4) hb) λv8 h5 r=>?_
        cases r<;>exact Sim.pure' λ_ _=>rfl
       ·exact Sim.pure' λ_ _=>rfl
      ·obtain⟨r,_⟩:=r
       cases r<;>exact Sim.pure' λ_ _=>rfl
    all_goals exact Sim.stuck
   all_goals (cases hy<;>exact Sim.stuck)
  case array len e=>
   cases hx;case agg hxs hxs'=>
    cases hy;case agg hys hys'=>
     simp only;refine Sim.cO (Sim.sizeOf e) λbQ h2 m=>?_
     simp only[Aei];refine Sim.cO (Sim.sO _ (λi hi s=>?_) _) λeA h3 r=>?_
     ·refine Sim.bind' (Sim.part e (aV.mono h2 ⟨hxs,hxs'⟩) _) λeA h3 a a' ha=>?_
      refine Sim.bind' (Sim.part e (aV.mono (Ren.le_trans h2 h3) ⟨hys,hys'⟩) _) λmq h4 b b' hb=>?_
      refine Sim.cO (ih n e h (ha.mono h4) hb) λv8 h5 r=>?_
      cases r<;>exact Sim.pure' λ_ _=>rfl
     ·obtain⟨r,_⟩:=r
      cases r<;>exact Sim.pure' λ_ _=>rfl
    all_goals exact Sim.stuck
   all_goals (cases hy<;>exact Sim.stuck)
  all_goals cases h
def Gl(P:ϕ)(F:Array Å)(t:ό):(tw P F).cellsOf t=P.cellsOf t:=by unfold Program.cellsOf;rw[mm]
def Kg(P:ϕ)(F:Array Å)(t:ό):(tw P F).bytesOf t=P.bytesOf t:=by unfold Program.bytesOf;rw[mm]
def QV(P:ϕ)(F:Array Å):∀(d:Nat) (t:ό) (o:Nat),ų (tw P F) d t o=ų P d t o
 |0,_,_=>rfl
 |d+1,t,o=>by
  have e:ų (tw P F) d=ų P d:=funext λt=>funext λo=>QV P F d t o
  unfold ų;simp only[kJ,e,Gl,Kg]
def Zb(P:ϕ)(F:Array Å):∀(d:Nat) (t:ό) (o:Nat),Abn (tw P F) d t o=Abn P d t o
 |0,_,_=>rfl
 |d+1,t,o=>by
  have e:Abn (tw P F) d=Abn P d:=funext λt=>funext λo=>Zb P F d t o
  unfold Abn;simp only[kJ,e,Gl,Kg]
def aqc(P:ϕ)(F:Array Å)(d:Nat)(e:ό)(c o:Nat)(b:Int):cellAtBytes (tw P F) d e c o b=cellAtBytes P d e c o b:=by
 unfold cellAtBytes;simp only[Gl,Kg,QV,Zb]
def Sim.Gc{a b:Nat}{f:Option (ό×Nat)->Sem γ}{g:Option (ό×Nat)->Sem δ}(h:ρ a b)(hf:∀ax,ρ.le ax->∀x,Sim P' P C ax S (f x) (g x)):
 Sim P' P C ρ S (Go.shape a>>=f) (Go.shape b>>=g):=Sim.cO (Sim.shape h) hf
def Sim.viewAt{P':ϕ}{a b:Nat}(h:ρ a b):Sim P' P C ρ (λ_ x y=>x=ν/\y=ν) (Go.viewAt a) (Go.viewAt b):=by
 unfold Go.viewAt;refine Sim.Gc h λax h' x=>?_
 cases x with
 |some x=>exact Sim.pure' λ_ _=>⟨rfl,rfl⟩
 |none=>
  refine Sim.bind' (Sim.getObj (h' _ _ h)) λfw ed o o' r=>?_
  cases r<;>exact Sim.pure' λ_ _=>⟨rfl,rfl⟩
def Sim.numberAt{P':ϕ}{a b:Nat}(h:ρ a b):Sim P' P C ρ (λρ x y=>fK (λp q=>eh ρ p.1 q.1/\p.2=q.2) x y) (Go.numberAt a) (Go.numberAt b):=by
 unfold Go.numberAt;refine Sim.Gc h λax h' x=>?_
 cases x with
 |some x=>exact Sim.pure' λ_ _=>.none
 |none=>
  refine Sim.bind' (Sim.getObj (h' _ _ h)) λfw ed o o' r=>?_
  cases r;case number l hab=>exact Sim.pure' λ_ h3=>.some ⟨hab.mono h3,rfl⟩
  all_goals exact Sim.pure' λ_ _=>.none
def Sim.behindNumber{P':ϕ}{a b:ϝ}(h:eh ρ a b):Sim P' P C ρ (λρ x y=>eh ρ x.1 y.1/\x.2=y.2) (Go.behindNumber a) (Go.behindNumber b):=by
 unfold Go.behindNumber;refine Sim.bind' (Sim.numberAt h.1) λax h' x y r=>?_
 cases r with
 |none=>exact Sim.pure' λ_ h3=>⟨(h.mono h').mono h3,rfl⟩
 |some r=>exact Sim.pure' λ_ h3=>⟨r.1.mono h3,r.2⟩
def Sim.asNumber{P':ϕ}{a b:ϝ}(h:eh ρ a b)(l:Bool):Sim P' P C ρ aj (Go.asNumber a l) (Go.asNumber b l):=by
 unfold Go.asNumber;exact Sim.bind' (Sim.newObj (.number l h)) λax _ a b hab=>Sim.pure' λ_ h3=>.ptr ⟨h3 _ _ hab,rfl,rfl⟩
def Sim.noView{P':ϕ}{a b:ϝ}(h:eh ρ a b):Sim P' P C ρ (λ_ _ _=>True) (Go.noView a) (Go.noView b):=by
 unfold Go.noView;refine Sim.bind' (Sim.viewAt h.1) λax h' x y r=>?_
 obtain⟨rfl,rfl⟩:=r;exact Sim.pure' λ_ _=>trivial
def Sim.byteOf{a b:ϝ}(h:eh ρ a b):Sim (tw P F) P C ρ (λ_ x y=>x=y) (Go.byteOf a) (Go.byteOf b):=by
 unfold Go.byteOf;rw[<-h.2.2,<-h.2.1];cases a.spot with
 |some s=>exact Sim.pure' λ_ _=>rfl
 |none=>
  refine Sim.bind' Sim.program λcF h1 p p' hp=>?_
  obtain⟨rfl,rfl⟩:=hp;refine Sim.bind' (Sim.noView (h.mono h1)) λbQ h2 _ _ _=>?_
  refine Sim.Gc (h.mono (Ren.le_trans h1 h2)).1 λeA h3 x=>?_
  cases x with
  |none=>exact Sim.stuck
  |some x=>
   simp only[Gl,Kg,QV,C9];split
   ·exact Sim.pure' λ_ _=>rfl
   ·cases ų p' p'.depth x.1 (a.off % p'.cellsOf x.1) with
    |none=>exact Sim.stuck
    |some _=>exact Sim.pure' λ_ _=>rfl
def Sim.unsafeAdd(t:ό)(hx:aj ρ x x')(hy:aj ρ y y'):Sim (tw P F) P C ρ (λρ u u'=>∃a b,u=π (φ a)/\u'=π (φ b)/\eh ρ a b) (Ľ #[] t #[x,y]) (Ľ #[] t #[x',y']):=by
 unfold Ľ;cases hx;case ptrNone=>
  refine Sim.cO (Sim.asInt hy) λcF h1 n=>?_
  simp only;split
  ·exact Sim.unsupported
  ·split
   ·exact Sim.Dc
   ·exact Sim.unsupported
 case ptr hab=>
  refine Sim.cO (Sim.asInt hy) λcF h1 n=>?_
  have hab:=hab.mono h1;simp only;split
  ·refine Sim.bind' (Sim.viewAt hab.1) λbQ h2 x y r=>?_
   obtain⟨rfl,rfl⟩:=r;exact Sim.pure' λ_ h3=>⟨_,_,rfl,rfl,hab.mono (Ren.le_trans h2 h3)⟩
  ·split
   ·exact Sim.Dc
   ·refine Sim.Gc hab.1 λeA h3 x=>?_
    cases x with
    |none=>exact Sim.unsupported
    |some x=>
     refine Sim.bind' Sim.program λmq h4 p p' hp=>?_
     obtain⟨rfl,rfl⟩:=hp;simp only[aqc,C9,Gl,hab.2.1];split
     ·exact Sim.pure' λ_ h5=>⟨_,_,rfl,rfl,(hab.mono (Ren.le_trans h3 (Ren.le_trans h4 h5))).1,rfl,hab.2.2⟩
     ·exact Sim.unsupported
 all_goals exact Sim.stuck
def FP(t:ό)(x y:υ):Sem υ:=do
 let π (φ n):=x|Ľ #[] t #[x,y]
 let (a,lost) <-Go.behindNumber n
 match <-Ľ #[] t #[π (φ a),y] with
 | .pointer (φ b)=>Go.asNumber b lost
 |v=>pure v
def Sim.FP(t:ό){x x' y y':υ}(hx:aj ρ x x')(hy:aj ρ y y'):Sim (tw P F) P C ρ aj (FP t x y) (FP t x' y'):=by
 unfold Go.Sim.FP;have gen:Sim (tw P F) P C ρ aj (Ľ #[] t #[x,y]) (Ľ #[] t #[x',y']):=(Sim.unsafeAdd t hx hy).TI λ_ _ _ _ ⟨a,b,e1,e2,h⟩=>by subst e1 e2;exact .ptr h
 cases hx;case ptr hab=>
  refine Sim.bind' (Sim.behindNumber hab) λbQ h2 a b r=>?_
  obtain⟨a,l⟩:=a;obtain⟨b,l'⟩:=b;obtain⟨r,e⟩:=r;simp only at r e |-
  subst e;refine Sim.bind' (Sim.unsafeAdd t (.ptr r) (hy.mono h2)) λeA h3 u u' hu=>?_
  obtain⟨a,b,rfl,rfl,hab⟩:=hu;exact Sim.asNumber hab _
 case junk=>exact Sim.stuck
 all_goals exact gen
def Sim.movedNumber(t:ό){x x' y y':υ}(hx:aj ρ x x')(hy:aj ρ y y'):Sim (tw P F) P C ρ aj (Go.movedNumber t x y) (Go.movedNumber t x' y'):=by
 unfold Go.movedNumber;refine Sim.fR λcF h1 d _=>?_
 have hx:=hx.mono h1;have hy:=hy.mono h1;cases d<;>first|exact Sim.Dc|exact Sim.FP t hx hy
def Sim.Ax(op:Ü)(t:ό)(k:æ)(a:Int)(k':æ)(b:Int):Sim (tw P F) P C ρ aj (Go.binOp op t (.int k a) (.int k' b)) (Go.binOp op t (.int k a) (.int k' b)):=by
 have shift:∀op,Sim (tw P F) P C ρ aj (Op.shift op k a k' b) (Op.shift op k a k' b):=by
  intro op;unfold Op.shift;split
  ·exact Sim.never (oV _)
  ·cases op<;>first|exact Sim.stuck|exact Sim.pure' λ_ _=>.int _ _
 have div:∀op,Sim (tw P F) P C ρ aj (Op.intDiv op k a b) (Op.intDiv op k a b):=by
  intro op;unfold Op.intDiv;split
  ·exact Sim.never (oV _)
  ·cases op<;>first|exact Sim.stuck|exact Sim.pure' λ_ _=>.int _ _
 cases op;case shl=>exact shift .shl
 case shr=>exact shift .shr
 all_goals
  simp only[Go.binOp];split
  ·exact Sim.stuck
  ·first|exact div _|exact Sim.pure' λ_ _=>.int _ _|exact Sim.pure' λ_ _=>.bool _
def Sim.AV(op:Ü)(t:ό)(a b:ByteArray):Sim (tw P F) P C ρ aj (Go.binOp op t (.string a) (.string b)) (Go.binOp op t (.string a) (.string b)):=by
 cases op;case add=>
  simp only[Go.binOp,Op.stringOp];split
  ·exact Sim.unsupported
  ·exact Sim.pure' λ_ _=>.string _
 all_goals first|exact Sim.pure' λ_ _=>.bool _|exact Sim.stuck
def Sim.Te{x y:Sem Bool}(h:Sim (tw P F) P C ρ (λ_ a b=>a=b) x y)(f:Bool->Bool):Sim (tw P F) P C ρ aj (x>>=λb=>ϥ (Value.bool (f b))) (y>>=λb=>ϥ (Value.bool (f b))):=
 Sim.cO h λ_ _ _=>Sim.pure' λ_ _=>.bool _
def Pj(t:ό)(y:υ):bH (tw P F) (Ÿ t (μ #[]) y):=by
 show bH _ (ł (9999+1) t (μ #[]) y);unfold ł;refine bH.lH λd=>?_
 cases d<;>first|exact bH.halt| (cases y<;>exact bH.halt)
def Pk(t:ό)(x:υ):bH (tw P F) (Ÿ t x (μ #[])):=by
 show bH _ (ł (9999+1) t x (μ #[]));unfold ł;refine bH.lH λd=>?_
 cases d<;>(cases x<;>first|exact bH.halt| (rename_i a _ _;cases a<;>exact bH.halt) | (rename_i a;cases a<;>exact bH.halt))
def Sim.SZ(neq:Bool)(t:ό)(ht:ix P n t=θ)(hx:aj ρ x x')(hy:aj ρ y y'):
 Sim (tw P F) P C ρ aj (Go.binOp (if neq then .neq else .eql) t x y) (Go.binOp (if neq then .neq else .eql) t x' y'):=by
 have e:Sim (tw P F) P C ρ (λ_ a b=>a=b) (Ÿ t x y) (Ÿ t x' y'):=Sim.equalIn _ n t ht hx hy
 have e1:=Sim.Te e id;have e2:=Sim.Te e not;cases neq;all_goals
  simp only[Ð,if_false,if_true];cases hx<;>cases hy<;>first|exact e1|exact e2|exact Sim.Ax .eql t _ _ _ _|exact Sim.AV .eql t _ _|exact Sim.Ax .neq t _ _ _ _|exact Sim.AV .neq t _ _|exact Sim.never (bH.bind (Pj _ _)) |exact Sim.never (bH.bind (Pk _ _))
def Sim.movedPointer(t:ό){x x' y y':υ}(hx:aj ρ x x')(hy:aj ρ y y'):Sim (tw P F) P C ρ aj (Go.movedPointer t x y) (Go.movedPointer t x' y'):=by
 unfold Go.movedPointer;have gen:∀ax,ρ.le ax->Sim (tw P F) P C ax aj (Ľ #[] t #[x,y]) (Ľ #[] t #[x',y']):=λax h'=>(Sim.unsafeAdd t (hx.mono h') (hy.mono h')).TI λ_ _ _ _ ⟨a,b,e1,e2,h⟩=>by subst e1 e2;exact .ptr h
 cases hx;case ptr hab=>
  refine Sim.bind' (Sim.numberAt hab.1) λbQ h2 a b r=>?_
  cases r with
  |none=>exact gen bQ h2
  |some r=>exact Sim.Dc
 case junk=>exact Sim.stuck
 all_goals exact gen ρ ρ.le_refl
def Xz(a b:ϝ):bH (tw P F) (Op.twoPlaces a b):=by
 unfold Op.twoPlaces;refine bH.program ?_
 simp only;have:(a.block !=b.block||decide (a.block>=(tw P F).globals.size))=θ:=by simp[tw]
 rw[if_pos this];exact bH.bind bH.halt
def Sim.addrMod(k:æ){a b:ϝ}(h:eh ρ a b)(n:Int):Sim (tw P F) P C ρ aj (Adq k a n) (Adq k b n):=by
 unfold Adq;refine Sim.Gc h.1 λcF h1 x=>?_
 cases x with
 |none=>exact Sim.unsupported
 |some x=>
  refine Sim.Db λbQ h2 i _=>?_
  simp only;split
  ·exact Sim.Dc
  ·exact Sim.cO (Sim.byteOf (h.mono (Ren.le_trans h1 h2))) λ_ _ _=>Sim.pure' λ_ _=>.int _ _
def amg(op:Ü)(a b:ϝ):bH (tw P F) (Go.behindNumber a>>=λx=>Go.behindNumber b>>=λy=>Op.addrCmp op x.1 y.1):=by
 refine bH.lH λx=>bH.lH λy=>?_
 unfold Op.addrCmp;exact bH.bind (Xz _ _)
def amh(a b:ϝ):bH (tw P F) (Go.behindNumber a>>=λx=>Go.behindNumber b>>=λy=>Op.addrSub .u64 x.1 y.1):=by
 refine bH.lH λx=>bH.lH λy=>?_
 unfold Op.addrSub;exact bH.bind (Xz _ _)
def Sim.X0(k:æ){b:ϝ}(h:eh ρ a b)(n:Int):Sim (tw P F) P C ρ aj (Go.behindNumber a>>=λx=>Adq k x.1 n) (Go.behindNumber b>>=λx=>Adq k x.1 n):=
 Sim.bind' (Sim.behindNumber h) λ_ _ _ _ r=>Sim.addrMod k r.1 n
def Sim.am9(t:ό)(hx:aj ρ x x')(hy:aj ρ y y'):
 Sim (tw P F) P C ρ aj (Go.underlying t>>=λd=>if(match d with| .unsafePointer=>θ|_=>χ)=θ then Go.movedPointer t x y else Go.movedNumber t x y)
  (Go.underlying t>>=λd=>if(match d with| .unsafePointer=>θ|_=>χ)=θ then Go.movedPointer t x' y' else Go.movedNumber t x' y'):=by
 refine Sim.fR λcF h1 d _=>?_
 split
 ·exact Sim.movedPointer t (hx.mono h1) (hy.mono h1)
 ·exact Sim.movedNumber t (hx.mono h1) (hy.mono h1)
def Sim.acE(t:ό)(hx:aj ρ x x')(hy:aj ρ y y'):Sim (tw P F) P C ρ aj (Go.binOp .add t x y) (Go.binOp .add t x' y'):=by
 have p1:=Sim.am9 (P:=P) (F:=F) (C:=C) t hx hy;have p2:=Sim.movedNumber (P:=P) (F:=F) (C:=C) t hy hx;cases hx<;>cases hy<;>first|exact Sim.stuck|exact Sim.unsupported|exact Sim.Ax .add t _ _ _ _|exact Sim.AV .add t _ _|exact p1|exact p2
def Sim.acI(t:ό)(hx:aj ρ x x')(hy:aj ρ y y'):Sim (tw P F) P C ρ aj (Go.binOp .sub t x y) (Go.binOp .sub t x' y'):=by
 have p:∀k n,Sim (tw P F) P C ρ aj (Go.movedNumber t x (.int k (-n))) (Go.movedNumber t x' (.int k (-n))):=λk n=>Sim.movedNumber t hx (.int _ _)
 cases hx<;>cases hy<;>first|exact Sim.stuck|exact Sim.unsupported|exact Sim.Ax .sub t _ _ _ _|exact Sim.AV .sub t _ _|exact p _ _|exact Sim.never (amh _ _)
def Sim.acF(t:ό)(hx:aj ρ x x')(hy:aj ρ y y'):Sim (tw P F) P C ρ aj (Go.binOp .and t x y) (Go.binOp .and t x' y'):=by
 cases hx<;>cases hy<;>first|exact Sim.stuck|exact Sim.unsupported|exact Sim.Ax .and t _ _ _ _|exact Sim.AV .and t _ _|exact Sim.X0 _ (by assumption) _
def Sim.acH(t:ό)(hx:aj ρ x x')(hy:aj ρ y y'):Sim (tw P F) P C ρ aj (Go.binOp .rem t x y) (Go.binOp .rem t x' y'):=by
 cases hx<;>cases hy<;>first|exact Sim.stuck|exact Sim.unsupported|exact Sim.Ax .rem t _ _ _ _|exact Sim.AV .rem t _ _|exact Sim.X0 _ (by assumption) _
inductive qh:Ü->Prop
 |mul:qh .mul
 |quo:qh .quo
 |or:qh .or
 |xor:qh .xor
 |shl:qh .shl
 |shr:qh .shr
 |andNot:qh .andNot
 |lss:qh .lss
 |leq:qh .leq
 |gtr:qh .gtr
 |geq:qh .geq
def Sim.acG(op:Ü)(ho:qh op)(t:ό)(hx:aj ρ x x')(hy:aj ρ y y'):Sim (tw P F) P C ρ aj (Go.binOp op t x y) (Go.binOp op t x' y'):=by
 cases ho<;>(cases hx<;>cases hy<;>first|exact Sim.stuck|exact Sim.unsupported|exact Sim.Ax _ t _ _ _ _|exact Sim.AV _ t _ _|exact Sim.never (amg _ _ _))
def Sim.binOp(op:Ü)(t:ό){n:Nat}(ht:op=.eql\/op=.neq->ix P n t=θ){x x' y y':υ}(hx:aj ρ x x')(hy:aj ρ y y'):
 Sim (tw P F) P C ρ aj (Go.binOp op t x y) (Go.binOp op t x' y'):=by
 cases op;case eql=>exact Sim.SZ χ t (ht (.inl rfl)) hx hy
 case neq=>exact Sim.SZ θ t (ht (.inr rfl)) hx hy
 case add=>exact Sim.acE t hx hy
 case sub=>exact Sim.acI t hx hy
 case and=>exact Sim.acF t hx hy
 case rem=>exact Sim.acH t hx hy
 all_goals exact Sim.acG _ (by constructor) t hx hy
def ami(op:Ü)(t:ό)(b:υ):bH (tw P F) (Go.binOp op t (μ #[]) b):=by
 cases op;case eql=>cases b<;>exact bH.bind (Pj t _)
 case neq=>cases b<;>exact bH.bind (Pj t _)
 all_goals (cases b<;>exact bH.halt)
def amj(op:Ü)(t:ό)(a:υ):bH (tw P F) (Go.binOp op t a (μ #[])):=by
 cases op;case eql=>cases a<;>exact bH.bind (Pk t _)
 case neq=>cases a<;>exact bH.bind (Pk t _)
 all_goals (cases a<;>first|exact bH.halt| (rename_i a;cases a<;>exact bH.halt))
def Sim.amL(op:Ü)(t:ό)(ht:op=.eql\/op=.neq->ix P n t=θ/\P.eqGuardType P.depth t=χ)(x y:Ë){a b:υ}(ha:aj ρ a a')(hb:aj ρ b b'):
 Sim (tw P F) P C ρ aj (do Go.eqGuard op t x y a b;Go.binOp op t a b) (do Go.eqGuard op t x y a' b';Go.binOp op t a' b'):=by
 by_cases ja:a=μ #[]
 ·subst ja
  exact Sim.never (bH.lH λ_=>ami op t b)
 by_cases jb:b=μ #[]
 ·subst jb
  exact Sim.never (bH.lH λ_=>amj op t a)
 refine Sim.bind' (R:=λ_ _ _=>True) ?_ λcF h1 _ _ _=>Sim.binOp op t (λh=>(ht h).1) (ha.mono h1) (hb.mono h1)
 have pt:∀ {ρ:Ren},Sim (tw P F) P C ρ (λ_ _ _=>True) (ϥ ():Sem Unit) (ϥ ()):=Sim.pure' λ_ _=>trivial
 by_cases he:op=.eql\/op=.neq
 ·obtain⟨_,hg⟩:=ht he
  have ag8:∀u u' v v',Sim (tw P F) P C ρ (λ_ _ _=>True)
   (do if !(<-Go.program).eqGuardType (<-Go.program).depth t then return
       if <-Ź ź t u v then Go.unsupported (.noEntry "binop/eql: two nil values of an interface type with methods, in a part of a struct or an array"))
   (do if !(<-Go.program).eqGuardType (<-Go.program).depth t then return
       if <-Ź ź t u' v' then Go.unsupported (.noEntry "binop/eql: two nil values of an interface type with methods, in a part of a struct or an array")):=by
   intro u u' v v';refine Sim.bind' Sim.program λcF h1 p p' hp=>?_
   obtain⟨rfl,rfl⟩:=hp;refine Sim.bind' Sim.program λbQ h2 q q' hq=>?_
   obtain⟨rfl,rfl⟩:=hq;rw[Kh,C9,hg];exact pt
  have OD:Sim (tw P F) P C ρ (λ_ _ _=>True)
   (do if(match x with| .const _=>θ|_=>χ) || (match y with| .const _=>θ|_=>χ) then return
       if <-Ź ź t .nilIface .nilIface then Go.unsupported (.noEntry "binop/eql: two nil values of an interface type with methods, neither of them the literal nil"))
   (do if(match x with| .const _=>θ|_=>χ) || (match y with| .const _=>θ|_=>χ) then return
       if <-Ź ź t .nilIface .nilIface then Go.unsupported (.noEntry "binop/eql: two nil values of an interface type with methods, neither of them the literal nil")):=by
   have tail:Sim (tw P F) P C ρ (λ_ _ _=>True)
    (do if <-Ź ź t .nilIface .nilIface then Go.unsupported (.noEntry "binop/eql: two nil values of an interface type with methods, neither of them the literal nil"))
    (do if <-Ź ź t .nilIface .nilIface then Go.unsupported (.noEntry "binop/eql: two nil values of an interface type with methods, neither of them the literal nil")):=by
    refine Sim.cO (Sim.fR λcF h1 d hd=>?_) λcF h1 r=>?_
    ·cases d<;>exact Sim.pure' λ_ _=>rfl
    ·cases r
     ·exact pt
     ·exact Sim.unsupported
   cases x<;>cases y<;>first|exact pt|exact tail
  rcases he with rfl|rfl
  all_goals
   cases ha<;>cases hb<;>first|exact pt|exact ag8 _ _ _ _|exact OD|exact absurd rfl ja|exact absurd rfl jb
 ·unfold Go.eqGuard
  cases op<;>first|exact pt| (exact absurd (.inl rfl) he) | (exact absurd (.inr rfl) he)
def Sim.not{v v':υ}(h:aj ρ v v'):Sim (tw P F) P C ρ aj (Op.unary .not v) (Op.unary .not v'):=by
 cases h<;>first|exact Sim.stuck|exact Sim.pure' λ_ _=>.bool _
def Sim.extract{v v':υ}(h:aj ρ v v')(i:Nat):Sim (tw P F) P C ρ aj (Acv v i) (Acv v' i):=by
 unfold Acv;cases h;case tuple hx h1=>
  rcases cf.get? (R:=aj ρ) ⟨hx,h1⟩ i with⟨e1,_⟩ | ⟨a,b,e1,e2,r⟩
  ·simp only[e1];exact Sim.stuck
  ·simp only[e1,e2];exact Sim.pure' λ_ h=>r.mono h
 case junk h _ _=>simp only[Array.getElem?_empty];exact Sim.stuck
 all_goals exact Sim.stuck
def Sim.makeFunc(f:Â){x x' y y':Array υ}(hx:aV ρ x x')(hy:aV ρ y y'):Sim (tw P F) P C ρ aj (Instr.makeFunc (.func f) x y) (Instr.makeFunc (.func f) x' y'):=
 Sim.pure' λ_ h=>.func (.func f) (hx.mono h).1 (hx.mono h).2 (hy.mono h).1 (hy.mono h).2
def Sim.ak9(t:ό):Sim (tw P F) P C ρ aj (Acw t ν) (Acw t ν):=by
 unfold Acw;exact Sim.bind' (Sim.newObj (.map 0 .empty)) λ_ _ _ _ h=>Sim.pure' λ_ h'=>.map (h' _ _ h)
def Sim.askRoom{P':ϕ}(n:Nat):Sim P' P C ρ (λ_ _ _=>True) (Go.askRoom n) (Go.askRoom n):=by
 unfold Go.askRoom;split
 ·exact Sim.noRoom
 ·exact Sim.pure' λ_ _=>trivial
def aV.get! {x y:Array υ}(h:aV ρ x y)(i:Nat):aj ρ x[i]! y[i]! :=by
 have hs:=h.1;by_cases hi:i<x.size
 ·simpa [Aam,î,hi,hs▸hi] using h.2 i hi (hs▸hi)
 ·have e1:x[i]! =default:=by simp[Aam,î];rw[Ė (by omega)];rfl
  have e2:y[i]! =default:=by simp[Aam,î];rw[Ė (by omega)];rfl
  rw[e1,e2];exact .bool _
def aV.Qi{x y:Array υ}(h:aV ρ x y)(n:Nat):aV ρ ((Ő n).map (x[· % x.size]!)) ((Ő n).map (y[· % y.size]!)):=by
 refine⟨by simp,λi hi bG=>?_⟩
 simp only[Aap,Aaq];rw[<-h.1];exact aV.get! h _
def Sim.makeSlice(T:pA P)(t:ό){l l' c c':υ}(hl:aj ρ l l')(hc:aj ρ c c'):Sim (tw P F) P C ρ aj (Acx t l c) (Acx t l' c'):=by
 unfold Acx;refine Sim.fR λcF h1 d hd=>?_
 cases d;case slice e=>
  simp only;refine Sim.cO (Sim.asInt (hl.mono h1)) λbQ h2 ln=>?_
  refine Sim.cO (Sim.asInt (hc.mono (Ren.le_trans h1 h2))) λeA h3 cp=>?_
  refine Sim.Db λmq h4 i hi=>?_
  have tail:Sim (tw P F) P C mq aj
   (do
     Go.askRoom ((ϙ.wrap cp).toNat * i.bytes)
     let n:=(ϙ.wrap cp).toNat * (<-Go.sizeOf e)
     let zero <-if n=0 then ϥ #[] else do ϥ (<-Go.zeroValue e).cells
     let a <-Go.newRow e ((Ő n).map (zero[· % zero.size]!))
     ϥ (ζ (φ a) (ϙ.wrap ln).toNat (ϙ.wrap cp).toNat))
   (do
     Go.askRoom ((ϙ.wrap cp).toNat * i.bytes)
     let n:=(ϙ.wrap cp).toNat * (<-Go.sizeOf e)
     let zero <-if n=0 then ϥ #[] else do ϥ (<-Go.zeroValue e).cells
     let a <-Go.newRow e ((Ő n).map (zero[· % zero.size]!))
     ϥ (ζ (φ a) (ϙ.wrap ln).toNat (ϙ.wrap cp).toNat)):=by
   refine Sim.bind' (Sim.askRoom _) λv8 h5 _ _ _=>?_
   refine Sim.cO (Sim.sizeOf e) λRl h6 sz=>?_
   simp only;split
   ·refine Sim.bind' (R:=aV) (Sim.pure' λ_ _=>cf.empty) λGA h7 x y hxy=>?_
    exact Sim.bind' (Sim.newRow e (aV.Qi hxy _)) λTM h8 a b hab=>Sim.pure' λ_ h9=>.slice _ _ (hab.mono h9)
   ·refine Sim.bind' (Sim.zeroValue T e) λGA h7 v v' hv=>?_
    refine Sim.bind' (R:=aV) (Sim.pure' λ_ h=>aV.mono h hv.cells) λGA h7 x y hxy=>?_
    exact Sim.bind' (Sim.newRow e (aV.Qi hxy _)) λTM h8 a b hab=>Sim.pure' λ_ h9=>.slice _ _ (hab.mono h9)
  split
  ·refine Sim.never ?_
   split
   ·exact bH.bind (oV _)
   ·split
    ·exact bH.bind (oV _)
    ·exact bH.lH λ_=>bH.bind (oV _)
  ·exact tail
 all_goals exact Sim.stuck
abbrev Bp(ρ:Ren):Nat×υ->Nat×υ->Prop:=λp q=>p.1=q.1/\aj ρ p.2 q.2
def afX{x y:List (υ×Nat)}(h:gR (λp q=>aj ρ p.1 q.1/\p.2=q.2) x y)(off:Nat):∀ {c c':Array υ},aV ρ c c'->
 aV ρ (x.foldl (λcs p=>cs.setIfInBounds (off+p.2) p.1) c) (y.foldl (λcs p=>cs.setIfInBounds (off+p.2) p.1) c'):=by
 induction h with
 |nil=>intro c c' hc;exact hc
 |cons hp _ ih=>
  intro c c' hc;simp only[List.foldl_cons];rw[<-hp.2];exact ih (hc.set _ hp.1)
def arb{x y:List υ}(h:gR (aj ρ) x y):∀n,gR (λp q=>aj ρ p.1 q.1/\p.2=q.2) (x.zipIdx n) (y.zipIdx n):=by
 induction h with
 |nil=>intro n;exact .nil
 |cons hp _ ih=>intro n;simp only[List.zipIdx_cons];exact .cons ⟨hp,rfl⟩ (ih _)
def MW(place:Nat->Option (Nat×Nat)){p q:List (Nat×υ)}(h:gR (Bp ρ) p q):∀ {c c':Array υ},aV ρ c c'->fK (aV ρ) (Ĩ place c p) (Ĩ place c' q):=by
 induction h with
 |nil=>intro c c' hc;exact .some hc
 | @cons a b x y hp _ ih=>
   intro c c' hc;obtain⟨i,v⟩:=a;obtain⟨i',v'⟩:=b;obtain⟨e,hv⟩:=hp;simp only at e hv;subst e;have fh:=hv.cells;unfold Ĩ;cases place i with
   |none=>exact .none
   |some os=>
    obtain⟨off,size⟩:=os;simp only;rw[<-fh.1,<-hc.1];split
    ·exact .none
    ·refine ih ?_
     have:=afX (arb fh.pQ 0) off hc;rw[<-Aar,<-Aar,Aas,Aas];exact this
def Sim.build(T:pA P)(t:ό){p q:Array (Nat×υ)}(h:cf (Bp ρ) p q):Sim (tw P F) P C ρ aj (Acz t p) (Acz t q):=by
 unfold Acz;refine Sim.bind' (Sim.zeroValue T t) λcF h1 z z' hz=>?_
 refine Sim.fR λbQ h2 d hd=>?_
 have hz:=(hz.mono h2).cells;have h:cf (Bp bQ) p q:=h.mono λ_ _ x=>⟨x.1,x.2.mono (Ren.le_trans h1 h2)⟩
 cases d;case struct fs=>
  simp only;refine Sim.cO (Sim.yb fs λf _=>Sim.cO (Sim.sizeOf f.type) λ_ _ _=>Sim.pure' λ_ _=>rfl) λeA h3 places=>?_
  have:=MW (λi=>places[i]?) h.pQ hz
  generalize Ĩ (λi=>places[i]?) z.cells p.toList=r at this |-
  generalize Ĩ (λi=>places[i]?) z'.cells q.toList=r' at this |-
  cases this with
  |none=>exact Sim.stuck
  |some hr=>exact Sim.pure' λ_ h4=>aj.wH (hr.mono (Ren.le_trans h3 h4))
 case array n e=>
  simp only;refine Sim.cO (Sim.sizeOf e) λeA h3 size=>?_
  have:=MW (λi=>φ (i * size,size)) h.pQ hz
  generalize Ĩ (λi=>φ (i * size,size)) z.cells p.toList=r at this |-
  generalize Ĩ (λi=>φ (i * size,size)) z'.cells q.toList=r' at this |-
  cases this with
  |none=>exact Sim.stuck
  |some hr=>exact Sim.pure' λ_ h4=>aj.wH (hr.mono (Ren.le_trans h3 h4))
 all_goals exact Sim.stuck
def Sim.buildSlice(T:pA P)(t:ό)(n:Nat){p q:Array (Nat×υ)}(h:cf (Bp ρ) p q):Sim (tw P F) P C ρ aj (Ac0 t n p) (Ac0 t n q):=by
 unfold Ac0;refine Sim.fR λcF h1 d hd=>?_
 cases d;case slice e=>
  simp only;refine Sim.cO (Sim.sizeOf e) λbQ h2 size=>?_
  split
  ·exact Sim.Dc
  ·have tail:∀ {ax:Ren},bQ.le ax->∀ {z z':Array υ},aV ax z z'->Sim (tw P F) P C ax aj
    (match Ĩ (λi=>φ (i * size,size)) ((Ő (n * size)).map (z[· % z.size]!)) p.toList with
      |some cells=>do ϥ (ζ (φ (<-Go.newRow e cells)) n n)
      |_=>Go.stuck "buildSlice: a part of the wrong size")
    (match Ĩ (λi=>φ (i * size,size)) ((Ő (n * size)).map (z'[· % z'.size]!)) q.toList with
      |some cells=>do ϥ (ζ (φ (<-Go.newRow e cells)) n n)
      |_=>Go.stuck "buildSlice: a part of the wrong size"):=by
    intro ax h' z z' hz;have h:cf (Bp ax) p q:=h.mono λ_ _ x=>⟨x.1,x.2.mono (Ren.le_trans h1 (Ren.le_trans h2 h'))⟩
    have:=MW (λi=>φ (i * size,size)) h.pQ (aV.Qi hz (n * size))
    generalize Ĩ (λi=>φ (i * size,size)) ((Ő (n * size)).map (z[· % z.size]!)) p.toList=r at this |-
    generalize Ĩ (λi=>φ (i * size,size)) ((Ő (n * size)).map (z'[· % z'.size]!)) q.toList=r' at this |-
    cases this with
    |none=>exact Sim.stuck
    |some hr=>exact Sim.bind' (Sim.newRow e hr) λ_ _ a b hab=>Sim.pure' λ_ h9=>.slice _ _ (hab.mono h9)
   split
   ·refine Sim.bind' (R:=aV) (Sim.pure' λ_ _=>cf.empty) λGA h7 x y hxy=>?_
    exact tail h7 hxy
   ·refine Sim.bind' (Sim.zeroValue T e) λGA h7 v v' hv=>?_
    refine Sim.bind' (R:=aV) (Sim.pure' λ_ h=>aV.mono h hv.cells) λTM h8 x y hxy=>?_
    exact tail (Ren.le_trans h7 h8) hxy
 all_goals exact Sim.stuck
def Sim.lenOf{v v':υ}(h:aj ρ v v'):Sim (tw P F) P C ρ (λ_ a b=>a=b) (Ŵ v) (Ŵ v'):=by
 cases h<;>first|exact Sim.pure' λ_ _=>rfl|exact Sim.stuck
def Tg(b:ByteArray):aV ρ (b.data.map λb=>.int .u8 b.toNat) (b.data.map λb=>.int .u8 b.toNat):=by
 refine cf.refl λa ha=>?_
 obtain⟨b,_,rfl⟩:=Array.mem_map.1 ha;exact .int _ _
def Dn(v:υ)(n:Nat):Prop:=∀a,v=ζ (φ a) 0 0->n=0
def Sim.PB(h:aj ρ v v'):Sim (tw P F) P C ρ (λ_ a b=>a=b/\Dn v a) (Ŵ v) (Ŵ v'):=by
 cases h<;>first|exact Sim.pure' λ_ _=>⟨rfl,λa e=>by cases e;rfl⟩ |exact Sim.pure' λ_ _=>⟨rfl,λa e=>by cases e⟩ |exact Sim.stuck
def Sim.Uc(size:Nat)(h:aj ρ v v'):Sim (tw P F) P C ρ (λ_ a b=>a=#[]/\b=#[]) (þ size 0 v) (þ size 0 v'):=by
 cases h;case slice len cap hab=>simp only[þ,Aeb];exact Sim.pure' λ_ _=>⟨rfl,rfl⟩
 case sliceDead=>simp only[þ,Aeb];exact Sim.pure' λ_ _=>⟨rfl,rfl⟩
 case sliceNone=>exact Sim.pure' λ_ _=>⟨rfl,rfl⟩
 case string s=>exact Sim.pure' λ_ _=>⟨by simp,by simp⟩
 all_goals exact Sim.stuck
def Sim.firstCells(size n:Nat){v v':υ}(h:aj ρ v v')(hd:Dn v n):Sim (tw P F) P C ρ aV (þ size n v) (þ size n v'):=by
 cases h;case slice len cap hab=>exact Sim.loadCells hab _
 case sliceNone=>exact Sim.pure' λ_ _=>.empty
 case sliceDead a b=>
  obtain rfl:=hd a rfl;simp only[þ,Aeb];exact Sim.pure' λ_ _=>.empty
 case string s=>exact Sim.pure' λ_ _=>Tg _
 all_goals exact Sim.stuck
def aV.zeroCells{x y:Array υ}(h:aV ρ x y)(n:Nat):aV ρ (Œ x n) (Œ y n):=by
 unfold Œ;rw[<-h.1];refine⟨by simp,λi hi bG=>?_⟩
 simp only[Aap,Aaq];exact aV.get! h _
def Sim.len(ts:Array ό)(t:ό)(h:aj ρ v v'):Sim (tw P F) P C ρ aj (Ab7 ts t #[v]) (Ab7 ts t #[v']):=by
 unfold Ab7;cases ts[0]? with
 |none=>exact Sim.stuck
 |some u=>
  refine Sim.fR λcF h1 d hd=>?_
  have h:=h.mono h1;cases d;case array n e=>exact Sim.pure' λ_ _=>.int _ _
  case string=>cases h<;>first|exact Sim.stuck|exact Sim.pure' λ_ _=>.int _ _
  case slice e=>cases h<;>first|exact Sim.stuck|exact Sim.pure' λ_ _=>.int _ _
  case pointer e=>
   refine Sim.fR λbQ h2 d hd=>?_
   cases d<;>first|exact Sim.stuck|exact Sim.pure' λ_ _=>.int _ _
  case map k e=>
   cases h;case mapNone=>exact Sim.pure' λ_ _=>.int _ _
   case map r=>
    refine Sim.bind' (Sim.getObj r) λbQ h2 o o' ro=>?_
    cases ro;case map clock hm=>simp only[hm.1];exact Sim.pure' λ_ _=>.int _ _
    all_goals exact Sim.stuck
   all_goals exact Sim.stuck
  case chan dd e=>
   cases h;case chanNone=>exact Sim.pure' λ_ _=>.int _ _
   case chan r=>
    refine Sim.bind' (Sim.getObj r) λbQ h2 o o' ro=>?_
    cases ro<;>exact Sim.stuck
   all_goals exact Sim.stuck
  all_goals (cases h<;>exact Sim.stuck)
def Sim.max2{a a' b b':υ}(ha:aj ρ a a')(hb:aj ρ b b'):Sim (tw P F) P C ρ aj (Builtin.max2 a b) (Builtin.max2 a' b'):=by
 cases ha<;>cases hb<;>first|exact Sim.stuck|exact Sim.unsupported|exact Sim.pure' λ_ _=>.int _ _|exact Sim.pure' λ_ _=>.string _
def Sim.min2{a a' b b':υ}(ha:aj ρ a a')(hb:aj ρ b b'):Sim (tw P F) P C ρ aj (Builtin.min2 a b) (Builtin.min2 a' b'):=by
 cases ha<;>cases hb<;>first|exact Sim.stuck|exact Sim.unsupported|exact Sim.pure' λ_ _=>.int _ _|exact Sim.pure' λ_ _=>.string _
def Sim.foldlM{f g:υ->υ->Sem υ}(hf:∀ {ax:Ren} {a a' b b'},aj ax a a'->aj ax b b'->Sim (tw P F) P C ax aj (f a b) (g a' b')){x y:List υ}(h:gR (aj ρ) x y):
 ∀ {ax:Ren},ρ.le ax->∀ {a b},aj ax a b->Sim (tw P F) P C ax aj (x.foldlM f a) (y.foldlM g b):=by
 induction h with
 |nil=>intro ax h' a b hab;exact Sim.pure' λ_ h=>hab.mono h
 |cons hp _ ih=>
  intro ax h' a b hab;simp only[List.foldlM_cons];exact Sim.bind' (hf hab (hp.mono h')) λfw ed _ _ r=>ih (Ren.le_trans h' ed) r
def Sim.max(ts:Array ό)(t:ό){x y:Array υ}(h:aV ρ x y):Sim (tw P F) P C ρ aj (Ab8 ts t x) (Ab8 ts t y):=by
 unfold Ab8;have:=h.pQ;generalize x.toList=l at this |-
 generalize y.toList=l' at this |-
 cases this with
 |nil=>exact Sim.stuck
 |cons hp ht=>exact Sim.foldlM Sim.max2 ht ρ.le_refl hp
def Sim.min(ts:Array ό)(t:ό){x y:Array υ}(h:aV ρ x y):Sim (tw P F) P C ρ aj (Ab9 ts t x) (Ab9 ts t y):=by
 unfold Ab9;have:=h.pQ;generalize x.toList=l at this |-
 generalize y.toList=l' at this |-
 cases this with
 |nil=>exact Sim.stuck
 |cons hp ht=>exact Sim.foldlM Sim.min2 ht ρ.le_refl hp
def Sim.copy(ts:Array ό)(t:ό){a b:υ}(ha:aj ρ a a')(hb:aj ρ b b'):Sim (tw P F) P C ρ aj (Aca ts t #[a,b]) (Aca ts t #[a',b']):=by
 unfold Aca;cases ts[0]? with
 |none=>exact Sim.stuck
 |some u=>
  refine Sim.fR λcF h1 d hd=>?_
  cases d;case slice e=>
   have ha:=ha.mono h1;have hb:=hb.mono h1;cases ha;case sliceDead a1 a2=>
    refine Sim.cO (Sim.lenOf hb) λbQ h2 m=>?_
    refine Sim.cO (Sim.sizeOf e) λeA h3 s=>?_
    simp only[show Nat.min m 0=0 from Nat.min_zero m]
    refine Sim.bind' (Sim.Uc s (hb.mono (Ren.le_trans h2 h3))) λmq h4 x y hxy=>?_
    obtain⟨rfl,rfl⟩:=hxy;exact Sim.pure' λ_ _=>.int _ _
   case slice n c hab=>
    refine Sim.bind' (Sim.PB hb) λbQ h2 m m' hm=>?_
    obtain⟨rfl,dm⟩:=hm;refine Sim.cO (Sim.sizeOf e) λeA h3 s=>?_
    refine Sim.bind' (Sim.firstCells s _ (hb.mono (Ren.le_trans h2 h3)) λa e=>by have:=dm a e;subst this;exact Nat.zero_min _) λmq h4 x y hxy=>?_
    exact Sim.bind' (Sim.storeCells (hab.mono (Ren.le_trans h2 (Ren.le_trans h3 h4))) hxy.pQ 0) λ_ _ _ _ _=>Sim.pure' λ_ _=>.int _ _
   case sliceNone n c=>
    refine Sim.bind' (Sim.PB hb) λbQ h2 m m' hm=>?_
    obtain⟨rfl,dm⟩:=hm;refine Sim.cO (Sim.sizeOf e) λeA h3 s=>?_
    refine Sim.bind' (Sim.firstCells s _ (hb.mono (Ren.le_trans h2 h3)) λa e=>by have:=dm a e;subst this;exact Nat.zero_min _) λmq h4 x y hxy=>?_
    exact Sim.pure' λ_ _=>.int _ _
   all_goals exact Sim.stuck
  all_goals exact Sim.stuck
def Sim.clear(T:pA P)(ts:Array ό)(t:ό){a:υ}(ha:aj ρ a a'):Sim (tw P F) P C ρ aj (Acb ts t #[a]) (Acb ts t #[a']):=by
 unfold Acb;have e:∀ {ax:Ren},aj ax (μ #[]) (μ #[]):=aj.tuple' .empty
 cases ts[0]? with
 |none=>exact Sim.stuck
 |some u=>
  refine Sim.fR λcF h1 d hd=>?_
  have ha:=ha.mono h1;cases ha;case slice n c hab=>
   cases n with
   |zero=>cases d<;>exact Sim.pure' λ_ _=>e
   |succ n=>
    cases d;case slice el=>
     refine Sim.bind' (Sim.zeroValue T el) λbQ h2 v v' hv=>?_
     exact Sim.bind' (Sim.storeCells (hab.mono h2) (aV.zeroCells hv.cells _).pQ 0) λ_ _ _ _ _=>Sim.pure' λ_ _=>e
    all_goals exact Sim.stuck
  case sliceNone n c=>cases d<;>exact Sim.pure' λ_ _=>e
  case sliceDead a b=>cases d<;>exact Sim.pure' λ_ _=>e
  case mapNone=>cases d<;>exact Sim.pure' λ_ _=>e
  case map r=>
   cases d;all_goals
    refine Sim.bind' (Sim.getObj r) λbQ h2 o o' ro=>?_
    cases ro;case map clock hm=>exact Sim.bind' (Sim.setObj (h2 _ _ r) (.map clock .empty)) λ_ _ _ _ _=>Sim.pure' λ_ _=>e
    all_goals exact Sim.stuck
  all_goals (cases d<;>exact Sim.stuck)
def y7(elem:ό)(base:Option ϝ)(eO im:Nat)(s x:υ)(size n:Nat):Sem υ:=do
 let oU:=eO+n
 if oU<=im then
  let new <-þ size n x
  if let φ a:=base then Go.storeCells (a.add (eO * size)) new.toList
  pure (.slice base oU im)
 else
  if(oU:Int)>ϙ.max/\(χ\/(<-Go.typeInfo elem).bytes=0) then runtimePanic (.error "growslice: len out of range")
  if Acd oU im * (<-Go.typeInfo elem).bytes>2 ^ 48 then(if χ then runtimePanic (.error "growslice: len out of range") else do
   if !(<-Ace size eO n base x) then Go.mark .noRoom
   Go.unsupported (.resourceLimit "append: a slice or a string whose bytes no memory bears"))
  let kG <-Go.choose (.appendCap oU im elem)
  Go.askRoom (kG * (<-Go.typeInfo elem).bytes)
  let old <-þ size eO s
  let new <-þ size n x
  let rest:=Œ (<-Go.zeroValue elem).cells (kG - oU)
  pure (ζ (φ (<-Go.newRow elem (old++new++rest))) oU kG)
def Sim.grow(T:pA P)(elem:ό)(oU im eO size n:Nat){s:υ}(hs:aj ρ s s')(hx:aj ρ x x')(ds:Dn s eO)(dx:Dn x n):Sim (tw P F) P C ρ aj
 (do
   let kG <-Go.choose (.appendCap oU im elem)
   Go.askRoom (kG * (<-Go.typeInfo elem).bytes)
   let old <-þ size eO s
   let new <-þ size n x
   let rest:=Œ (<-Go.zeroValue elem).cells (kG - oU)
   ϥ (ζ (φ (<-Go.newRow elem (old++new++rest))) oU kG))
 (do
   let kG <-Go.choose (.appendCap oU im elem)
   Go.askRoom (kG * (<-Go.typeInfo elem).bytes)
   let old <-þ size eO s'
   let new <-þ size n x'
   let rest:=Œ (<-Go.zeroValue elem).cells (kG - oU)
   ϥ (ζ (φ (<-Go.newRow elem (old++new++rest))) oU kG)):=by
 refine Sim.cO (Sim.choose _) λcF h1 kG=>?_
 refine Sim.Db λbQ h2 i hi=>?_
 refine Sim.bind' (Sim.askRoom _) λeA h3 _ _ _=>?_
 have l3:=Ren.le_trans h1 (Ren.le_trans h2 h3);refine Sim.bind' (Sim.firstCells _ _ (hs.mono l3) ds) λmq h4 o o' ho=>?_
 refine Sim.bind' (Sim.firstCells _ _ (hx.mono (Ren.le_trans l3 h4)) dx) λv8 h5 w w' hw=>?_
 refine Sim.bind' (Sim.zeroValue T elem) λRl h6 z z' hz=>?_
 refine Sim.bind' (Sim.newRow elem (((ho.mono (Ren.le_trans h5 h6)).append (hw.mono h6)).append (aV.zeroCells hz.cells _))) λGA h7 a b hab=>Sim.pure' λ_ h8=>.slice _ _ (hab.mono h8)
def Sim.y7(T:pA P)(elem:ό){b b':Option ϝ}(eO im:Nat)(hb:fK (eh ρ) b b'\/(∃a a',b=φ a/\b'=φ a'/\eO=0/\im=0)){s s' x x':υ}(hs:aj ρ s s')(hx:aj ρ x x')(size n:Nat)(ds:Dn s eO)(dx:Dn x n):
 Sim (tw P F) P C ρ aj (y7 elem b eO im s x size n) (y7 elem b' eO im s' x' size n):=by
 unfold Go.Sim.y7;simp only;split
 ·rename_i hle
  rcases hb with hb| ⟨a,a',rfl,rfl,rfl,rfl⟩
  rotate_left
  ·obtain rfl:n=0:=by omega
   refine Sim.bind' (Sim.Uc _ hx) λcF h1 u u' hu=>?_
   obtain⟨rfl,rfl⟩:=hu;exact Sim.pure' λ_ _=>.sliceDead _ _
  refine Sim.bind' (Sim.firstCells _ _ hx dx) λcF h1 u u' hu=>?_
  cases hb with
  |none=>exact Sim.pure' λ_ _=>.sliceNone _ _
  |some hb=>exact Sim.bind' (Sim.storeCells ((hb.mono h1).add _) hu.pQ 0) λ_ h2 _ _ _=>Sim.pure' λ_ h3=>.slice _ _ (hb.mono (Ren.le_trans h1 (Ren.le_trans h2 h3)))
 ·refine Sim.Db λcF h1 i hi=>?_
  have second:∀ {ax:Ren},ρ.le ax->Sim (tw P F) P C ax aj
   (do
     if Acd (eO+n) im * (<-Go.typeInfo elem).bytes>2 ^ 48 then(if χ then runtimePanic (.error "growslice: len out of range") else do
      if !(<-Ace size eO n b x) then Go.mark .noRoom
      Go.unsupported (.resourceLimit "append: a slice or a string whose bytes no memory bears"))
     let kG <-Go.choose (.appendCap (eO+n) im elem)
     Go.askRoom (kG * (<-Go.typeInfo elem).bytes)
     let old <-þ size eO s
     let new <-þ size n x
     let rest:=Œ (<-Go.zeroValue elem).cells (kG - (eO+n))
     ϥ (ζ (φ (<-Go.newRow elem (old++new++rest))) (eO+n) kG))
   (do
     if Acd (eO+n) im * (<-Go.typeInfo elem).bytes>2 ^ 48 then(if χ then runtimePanic (.error "growslice: len out of range") else do
      if !(<-Ace size eO n b' x') then Go.mark .noRoom
      Go.unsupported (.resourceLimit "append: a slice or a string whose bytes no memory bears"))
     let kG <-Go.choose (.appendCap (eO+n) im elem)
     Go.askRoom (kG * (<-Go.typeInfo elem).bytes)
     let old <-þ size eO s'
     let new <-þ size n x'
     let rest:=Œ (<-Go.zeroValue elem).cells (kG - (eO+n))
     ϥ (ζ (φ (<-Go.newRow elem (old++new++rest))) (eO+n) kG)):=by
   intro ax h';refine Sim.Db λbQ h2 i hi=>?_
   split
   ·refine Sim.never ?_
    simp only[Ð,if_false];refine bH.bind (bH.lH λ_=>?_)
    split
    ·exact bH.lH λ_=>bH.halt
    ·exact bH.halt
   ·exact Sim.grow T elem _ _ _ _ _ (hs.mono (Ren.le_trans h' h2)) (hx.mono (Ren.le_trans h' h2)) ds dx
  split
  ·exact Sim.never (bH.bind (oV _))
  ·exact second h1
def Sim.append(T:pA P)(ts:Array ό)(t:ό)(hz:∀u,ts[1]?=φ u->∀k,P.underlying u≠φ (.int k)){s:υ}(hs:aj ρ s s')(hx:aj ρ x x'):
 Sim (tw P F) P C ρ aj (Acf ts t #[s,x]) (Acf ts t #[s',x']):=by
 unfold Acf;cases ts[0]? with
 |none=>exact Sim.stuck
 |some u=>
  refine Sim.fR λcF h1 d hd=>?_
  have hs:=hs.mono h1;have hx:=hx.mono h1;cases d;case slice elem=>
   have tail:∀ {ax:Ren},cF.le ax->∀ {b b':Option ϝ} (eO im size:Nat) (_:fK (eh ax) b b'\/(∃a a',b=φ a/\b'=φ a'/\eO=0/\im=0)),aj ax (.slice b eO im) (.slice b' eO im)->Sim (tw P F) P C ax aj
    (Ŵ x>>=λn=>Go.Sim.y7 elem b eO im (.slice b eO im) x size n)
    (Ŵ x'>>=λn=>Go.Sim.y7 elem b' eO im (.slice b' eO im) x' size n):=by
    intro ax h' b b' eO im size hb hs;refine Sim.bind' (Sim.PB (hx.mono h')) λeA h3 n n' hn=>?_
    obtain⟨rfl,dx⟩:=hn;exact Sim.y7 T elem eO im (hb.imp (λhb=>hb.mono λ_ _ h=>eh.mono h3 h) id) (hs.mono h3) (hx.mono (Ren.le_trans h' h3)) size n (λa e=>by cases e;rfl) dx
   cases hs;case slice n c hab=>
    refine Sim.cO (Sim.sizeOf elem) λbQ h2 size=>?_
    cases e:ts[1]? with
    |none=>exact tail h2 n c size (.inl (.some (hab.mono h2))) (.slice n c (hab.mono h2))
    |some u2=>
     refine Sim.fR λeA h3 d2 gh=>?_
     have l:=Ren.le_trans h2 h3;cases d2;case int k=>exact absurd gh (hz u2 e k)
     all_goals exact tail l n c size (.inl (.some (hab.mono l))) (.slice n c (hab.mono l))
   case sliceNone n c=>
    refine Sim.cO (Sim.sizeOf elem) λbQ h2 size=>?_
    cases e:ts[1]? with
    |none=>exact tail h2 n c size (.inl .none) (.sliceNone n c)
    |some u2=>
     refine Sim.fR λeA h3 d2 gh=>?_
     have l:=Ren.le_trans h2 h3;cases d2;case int k=>exact absurd gh (hz u2 e k)
     all_goals exact tail l n c size (.inl .none) (.sliceNone n c)
   case sliceDead a a'=>
    refine Sim.cO (Sim.sizeOf elem) λbQ h2 size=>?_
    cases e:ts[1]? with
    |none=>exact tail h2 0 0 size (.inr ⟨a,a',rfl,rfl,rfl,rfl⟩) (.sliceDead a a')
    |some u2=>
     refine Sim.fR λeA h3 d2 gh=>?_
     have l:=Ren.le_trans h2 h3;cases d2;case int k=>exact absurd gh (hz u2 e k)
     all_goals exact tail l 0 0 size (.inr ⟨a,a',rfl,rfl,rfl,rfl⟩) (.sliceDead a a')
   all_goals exact Sim.stuck
  all_goals exact Sim.stuck
def Uq(w:Ψ)(c:Array υ)(e:ό):
 Ad4 {w with heap:=w.heap.push (.cells c e (0,0))} {block:=w.heap.size,off:=c.size} 1={w with heap:=w.heap.push (.cells c e (c.size,c.size+1))}:=by
 unfold Ad4;simp only[Nat.one_ne_zero,if_false];congr 1;apply Aat
 ·simp
 ·intro i h1 h2
  simp only[Aau,Array.getElem_push];by_cases hi:w.heap.size=i
  ·subst hi;simp
  ·rw[if_neg hi]
   have:i<w.heap.size:=by simp at h2;omega
   simp[this]
def yf(e:ό)(c:Array υ):Sem ϝ:=do
 let a <-Go.newRow e c
 Go.markStringish a
 pure a
def amk(p:ϕ)(e:ό)(c:Array υ)(w:Ψ):(yf e c).run p w=.ok ⟨w.heap.size,0,ν⟩ {w with heap:=w.heap.push (.cells c e (c.size,c.size+1))}:=by
 have hs:({w with heap:=w.heap.push (.cells c e (0,0))}:Ψ).shape? w.heap.size=φ (e,c.size):=by simp[Ad3]
 show Ϣ p (Sem.new _ _) w=_;simp only[Ϣ];show Ϣ p (Sem.shape _ _) _=_;simp only[Ϣ,hs];show Ϣ p (Sem.freeze _ _ _) _=_;simp only[Ϣ,Uq];rfl
def aml(p:ϕ)(e:ό)(c:Array υ)(w:Ψ)(es:Array Ñ):(yf e c).runT p w es=(.ok ⟨w.heap.size,0,ν⟩ {w with heap:=w.heap.push (.cells c e (c.size,c.size+1))},es):=by
 have hs:({w with heap:=w.heap.push (.cells c e (0,0))}:Ψ).shape? w.heap.size=φ (e,c.size):=by simp[Ad3]
 show Ϥ p (Sem.new _ _) w es=_;unfold Ϥ;show Ϥ p (Sem.shape _ _) _ es=_;unfold Ϥ;rw[hs];show Ϥ p (Sem.freeze _ _ _) _ es=_;unfold Ϥ;rw[Uq];rfl
def Sim.yf(e:ό){c c':Array υ}(h:aV ρ c c'):Sim (tw P F) P C ρ eh (yf e c) (yf e c'):=by
 intro aM h1 w w' es hw a aa hr;rw[amk] at hr;simp only[ę] at hr;obtain⟨rfl,rfl⟩:=hr;have ho:jq C ρ (.cells c e (c.size,c.size+1)) (.cells c' e (c'.size,c'.size+1)):=.cells e h (.inl (by rw[h.1]))
 obtain⟨bM,b,aF,eM,k1,k2,k3,k4,k5⟩:=Sim.newObj (P':=tw P F) (P:=P) ho aM h1 w w' es hw _ _ rfl;have e1:(Go.newObj (.cells c' e (c'.size,c'.size+1))).runT P w' es=(.ok w'.heap.size {w' with heap:=w'.heap.push (.cells c' e (c'.size,c'.size+1))},es):=by
  unfold Go.newObj;simp only[Ϥ]
 rw[e1] at k1;simp only[Prod.mk.injEq,ę] at k1;obtain⟨⟨rfl,rfl⟩,k1⟩:=k1;refine⟨bM,⟨w'.heap.size,0,ν⟩,_,eM,?_,⟨k2,rfl,rfl⟩,k3,k4,k5⟩
 rw[aml,<-k1]
def ala(e:ό)(c:Array υ)(f:ϝ->Sem υ):(Go.newRow e c>>=λa=>Go.markStringish a>>=λ_=>f a)=yf e c>>=f:=by
 unfold yf;simp only[bind_assoc,pure_bind]
def Sim.stringToBytes(e:ό)(s:ByteArray):Sim (tw P F) P C ρ aj (Conv.stringToBytes e s) (Conv.stringToBytes e s):=by
 unfold Conv.stringToBytes;refine Sim.cO (Sim.choose _) λcF h1 cap=>?_
 have hc:aV cF ((s.data.map λb=>Value.int .u8 b.toNat)++Array.replicate (cap - s.size) (Value.int .u8 0)) ((s.data.map λb=>Value.int .u8 b.toNat)++Array.replicate (cap - s.size) (Value.int .u8 0)):=
  (Tg s).append (cf.refl λa ha=>by
    rw[(Aav.1 ha).2];exact .int _ _)
 simp only[ala];exact Sim.bind' (Sim.yf e hc) λbQ h2 a b hab=>Sim.pure' λ_ h3=>.slice _ _ (hab.mono h3)
inductive Rz(P:ϕ)(src dst:ό):Prop
 |ints (j k:æ) (h1:P.underlying src=φ (.int j)) (h2:P.underlying dst=φ (.int k))
 |bytes (e:ό) (h1:P.underlying src=φ .string) (h2:P.underlying dst=φ (.slice e)) (h3:P.underlying e=φ (.int .u8))
def Sim.convert(src dst:ό)(hc:Rz P src dst){v v':υ}(h:aj ρ v v'):Sim (tw P F) P C ρ aj (Go.convert src dst v) (Go.convert src dst v'):=by
 unfold Go.convert;refine Sim.fR λcF h1 d1 kT=>?_
 refine Sim.fR λbQ h2 d2 gh=>?_
 have h:=h.mono (Ren.le_trans h1 h2);cases hc with
 |ints j k e1 e2=>
  rw[kT] at e1;rw[gh] at e2;obtain rfl:=Ϟ e1;obtain rfl:=Ϟ e2;cases h<;>first|exact Sim.unsupported|exact Sim.pure' λ_ _=>.int _ _
 |bytes e e1 e2 e3=>
  rw[kT] at e1;rw[gh] at e2;obtain rfl:=Ϟ e1;obtain rfl:=Ϟ e2;cases h;case string s=>
   refine Sim.fR λeA h3 d3 hd3=>?_
   rw[hd3] at e3;obtain rfl:=Ϟ e3;exact Sim.stringToBytes e s
  all_goals exact Sim.unsupported
def Sim.checkKey(empty:Bool):∀(d n:Nat) (t:ό) {x x':υ} {ρ:Ren},ix P n t=θ->aj ρ x x'->Sim (tw P F) P C ρ (λ_ _ _=>True) (Ac1 empty d t x) (Ac1 empty d t x'):=by
 intro d;induction d with
 |zero=>intro n t x x' ρ _ _;exact Sim.halt
 |succ d ih=>
  intro n t x x' ρ h hx;have pt:∀ {ρ:Ren},Sim (tw P F) P C ρ (λ_ _ _=>True) (ϥ ():Sem Unit) (ϥ ()):=Sim.pure' λ_ _=>trivial
  cases n with
  |zero=>cases h
  |succ n=>
  unfold Ac1;refine Sim.fR λcF h1 ds hd=>?_
  have hx:=hx.mono h1;unfold ix at h;cases hi: P.info? t with
  |none=>rw[hi] at h;cases h
  |some info=>
  rw[hi,hd] at h;simp only[ϩ] at h;obtain⟨_,h⟩:=h;cases ds;case struct fs=>
   cases hx;case agg hxs hxs'=>
    simp only;refine Sim.cO (Sim.zm fs (λf hf s=>?_) _) λ_ _ _=>pt
    have Oa:ix P n f.type=θ:=by
     simp only[Ģ] at h;exact h f hf
    split
    ·refine Sim.bind' (Sim.part f.type ⟨hxs,hxs'⟩ _) λeA h3 a a' ha=>?_
     exact Sim.bind' (ih n f.type Oa ha) λ_ _ _ _ _=>Sim.pure' λ_ _=>rfl
    ·exact Sim.pure' λ_ _=>rfl
   all_goals exact Sim.stuck
  case array len e=>
   cases hx;case agg hxs hxs'=>
    simp only[Aei];refine Sim.cO (Sim.sO _ (λi hi s=>?_) _) λ_ _ _=>pt
    refine Sim.cO (Sim.sizeOf e) λbQ h2 m=>?_
    refine Sim.bind' (Sim.part e (aV.mono h2 ⟨hxs,hxs'⟩) _) λeA h3 a a' ha=>?_
    exact Sim.bind' (ih n e h ha) λ_ _ _ _ _=>Sim.pure' λ_ _=>rfl
   all_goals exact Sim.stuck
  case bool=>cases hx<;>exact pt
  case int=>cases hx<;>exact pt
  case string=>cases hx<;>exact pt
  case slice=>cases hx<;>exact pt
  case map=>cases hx<;>exact pt
  case func=>cases hx<;>exact pt
  all_goals cases h
abbrev K7(ρ:Ren):Nat×υ->Nat×υ->Prop:=λp q=>p.1=q.1/\aj ρ p.2 q.2
def j5.key{a b:Ě}(h:j5 ρ a b):aj ρ a.key b.key:=by cases h;assumption
def j5.val{a b:Ě}(h:j5 ρ a b):aj ρ a.val b.val:=by cases h;assumption
def Sim.findAsking{n:Nat}{t:ό}(ht:ix P n t=θ){k k':υ}{es es':List Ě}(h:gR (j5 ρ) es es'):
 ∀ {ax:Ren},ρ.le ax->aj ax k k'->∀i,Sim (tw P F) P C ax (λρ=>fK (K7 ρ)) (Ac2 t k es i) (Ac2 t k' es' i):=by
 induction h with
 |nil=>intro ax _ _ i;exact Sim.pure' λ_ _=>.none
 |cons he _ ih=>
  intro ax h' hk i;unfold Ac2;refine Sim.cO (Sim.equalIn _ n t ht hk (he.key.mono h')) λfw ed b=>?_
  cases b with
  |true=>exact Sim.pure' λ_ h3=>.some ⟨rfl,he.val.mono (Ren.le_trans h' (Ren.le_trans ed h3))⟩
  |false=>exact ih (Ren.le_trans h' ed) (hk.mono ed) (i+1)
def aqk{t:ό}(h:p.underlying t=φ d)(f:ő->Sem α)(w:Ψ)(es:Array Ñ):(Go.underlying t>>=f).runT p w es=(f d).runT p w es:=by
 show((Go.underlying t).bind f).runT p w es=_;rw[qR];have:(Go.underlying t).runT p w es=(.ok d w,es):=by
  unfold Go.underlying;show(match p.underlying t with|some d=>ϥ d|none=>Go.stuck "no such type" :Sem ő).runT p w es=_
  rw[h];rfl
 rw[this]
def T3{t:ό}(h:p.underlying t=φ d)(hs:œ d x y=φ b)(w:Ψ)(es:Array Ñ):(Ÿ t x y).runT p w es=(.ok b w,es):=by
 show(ł (9999+1) t x y).runT p w es=_;unfold ł;rw[aqk h];cases d;case bool=>cases x<;>cases y<;>first| (cases hs;done) | (simp only[œ,č] at hs;subst hs;rfl)
 case string=>cases x<;>cases y<;>first| (cases hs;done) | (simp only[œ,č] at hs;subst hs;rfl)
 case int k0=>
  cases x;case int k a=>
   cases y;case int k' a'=>
    have key:((if k=k' then ϥ (a==a') else Go.stuck "==: kinds differ" :Sem Bool)).runT p w es=(.ok b w,es):=by
     simp only[œ] at hs;split at hs
     ·rename_i e
      rw[if_pos e];obtain rfl:=Ϟ hs;rfl
     ·cases hs
    cases a with
    |ofNat a=>cases a<;>(cases a' with|ofNat b=>cases b<;>exact key|negSucc b=>exact key)
    |negSucc a=>cases a' with|ofNat b=>cases b<;>exact key|negSucc b=>exact key
   all_goals cases hs
  all_goals (cases y<;>cases hs)
 all_goals (cases x<;>cases y<;>cases hs)
def Ub{p:ϕ}{t:ό}{d:ő}(h:p.underlying t=φ d){k:υ}:∀(es:List Ě) (i:Nat) {r:Option (Nat×υ)},Ł d k es i=φ r->∀(w:Ψ) (ev:Array Ñ),
 (Ac2 t k es i).runT p w ev=(.ok r w,ev)
 | [],i,r,hr,w,ev=>by
   simp only[Ł,č] at hr;subst hr;rfl
 |e::es,i,r,hr,w,ev=>by
  unfold Ł at hr;unfold Ac2;show((Ÿ t k e.key).bind _).runT p w ev=_;rw[qR];split at hr
  ·rename_i hs
   rw[T3 h hs];obtain rfl:=Ϟ hr;rfl
  ·rename_i hs
   rw[T3 h hs];exact Ub h es (i+1) hr w ev
  ·cases hr
def Yp(hx:aj ρ x x')(hy:aj ρ y y')(h:œ d x y=φ b):œ d x' y'=φ b:=by
 have no:∀d:ő,(∀k,d≠ .int k)->d≠ .string->d≠ .bool->œ d x y≠φ b:=by
  intro d h1 h2 h3 e;unfold œ at e;split at e<;>simp_all
 cases d;case bool=>cases hx<;>first| (cases y<;>cases h;done) | (cases hy<;>first| (cases h;done) |exact h)
 case string=>cases hx<;>first| (cases y<;>cases h;done) | (cases hy<;>first| (cases h;done) |exact h)
 case int k=>cases hx<;>first| (cases y<;>cases h;done) | (cases hy<;>first| (cases h;done) |exact h)
 all_goals exact absurd h (no _ (λ_=>by simp) (by simp) (by simp))
def afO{k k':υ}(hk:aj ρ k k'){es es':List Ě}(h:gR (j5 ρ) es es'):∀(i:Nat) {r:Option (Nat×υ)},Ł d k es i=φ r->
 ∃r',Ł d k' es' i=φ r'/\fK (K7 ρ) r r':=by
 induction h with
 |nil=>intro i r hr;simp only[Ł,č] at hr;subst hr;exact⟨ν,rfl,.none⟩
 |cons he _ ih=>
  intro i r hr;unfold Ł at hr |-
  split at hr
  ·rename_i hs
   rw[Yp hk he.key hs];obtain rfl:=Ϟ hr;exact⟨_,rfl,.some ⟨rfl,he.val⟩⟩
  ·rename_i hs
   rw[Yp hk he.key hs];exact ih _ hr
  ·cases hr
def Sim.ad4{s:Sem α}{s' Yk:Sem β}(h:Sim P' P C ρ R s s')(e:∀w es,Yk.runT P w es=s'.runT P w es):Sim P' P C ρ R s Yk:=by
 intro aM h1 w w' es hw a aa hr;rw[e];exact h aM h1 w w' es hw a aa hr
def Sim.findKey{n:Nat}{t:ό}(ht:ix P n t=θ){k k':υ}(hk:aj ρ k k'){es es':List Ě}(h:gR (j5 ρ) es es'):
 Sim (tw P F) P C ρ (λρ=>fK (K7 ρ)) (Ac5 t k es) (Ac5 t k' es'):=by
 unfold Ac5;refine Sim.fR λcF h1 d hd=>?_
 have ask:=Sim.findAsking (F:=F) (C:=C) ht h h1 (hk.mono h1) 0;have h:gR (j5 cF) es es':=by
  clear ask hd;induction h with
  |nil=>exact .nil
  |cons he _ ih=>exact .cons (he.mono h1) ih
 cases e:Ł d k es 0 with
 |some r=>
  obtain⟨r',e',hr⟩:=afO (hk.mono h1) h 0 e;rw[e'];exact Sim.pure' λ_ h3=>hr.mono λ_ _ x=>⟨x.1,x.2.mono h3⟩
 |none=>
  simp only;cases e':Ł d k' es' 0 with
  |none=>exact ask
  |some r'=>exact ask.ad4 λw ev=>by rw[Ub hd es' 0 e'];rfl
def gR.mono{R R':α->β->Prop}(h:∀a b,R a b->R' a b){x:List α}{y:List β}(k:gR R x y):gR R' x y:=by
 induction k with
 |nil=>exact .nil
 |cons he _ ih=>exact .cons (h _ _ he) ih
def Sim.lookup(T:pA P)(t:ό)(ht:∀k e,P.underlying t=φ (.map k e)->∃n,ix P n k=θ)(ok:Bool){m m' x x':υ}(hm:aj ρ m m')(hx:aj ρ x x'):
 Sim (tw P F) P C ρ aj (Ŕ t m x ok) (Ŕ t m' x' ok):=by
 unfold Ŕ;refine Sim.fR λcF h1 d hd=>?_
 cases d;case map key elem=>
  obtain⟨n,hn⟩:=ht key elem hd;have hm:=hm.mono h1;simp only;have tail:∀ {ax:Ren} {es es':Array Ě},cF.le ax->cf (j5 ax) es es'->Sim (tw P F) P C ax aj
   (do
     Ac1 es.isEmpty 10000 key x
     let (v,o) <-match <-Ac5 key x es.toList with
      |some (_,v)=>ϥ (v,θ)
      |none=>ϥ (<-Go.zeroValue elem,χ)
     ϥ (if ok then μ #[v,.bool o] else v))
   (do
     Ac1 es'.isEmpty 10000 key x'
     let (v,o) <-match <-Ac5 key x' es'.toList with
      |some (_,v)=>ϥ (v,θ)
      |none=>ϥ (<-Go.zeroValue elem,χ)
     ϥ (if ok then μ #[v,.bool o] else v)):=by
   intro ax es es' h' he;have hx:=hx.mono (Ren.le_trans h1 h');have e1:es.isEmpty=es'.isEmpty:=by simp[Array.isEmpty,he.1]
   rw[e1];refine Sim.bind' (Sim.checkKey _ _ n key hn hx) λbQ h2 _ _ _=>?_
   refine Sim.bind' (Sim.findKey hn (hx.mono h2) (he.pQ.mono λ_ _ x=>j5.mono h2 x)) λeA h3 r r' hr=>?_
   have fin:∀ {ax:Ren} {v v':υ} (o:Bool),aj ax v v'->Sim (tw P F) P C ax aj (ϥ (if ok then μ #[v,.bool o] else v):Sem υ) (ϥ (if ok then μ #[v',.bool o] else v')):=by
    intro ax v v' o hv;refine Sim.pure' λfw ed=>?_
    split
    ·exact aj.tuple' ⟨rfl,λi hi bG=>by
      have:i=0\/i=1:=by simp at hi;omega
      rcases this with rfl|rfl
      ·exact hv.mono ed
      ·exact .bool _⟩
    ·exact hv.mono ed
   cases hr with
   |some hr=>exact fin θ hr.2
   |none=>exact Sim.bind' (Sim.zeroValue T elem) λ_ _ _ _ hv=>fin χ hv
  cases hm;case mapNone=>exact tail cF.le_refl .empty
  case map r=>
   refine Sim.bind' (Sim.getObj r) λbQ h2 o o' ro=>?_
   cases ro;case map clock hmm=>exact tail h2 hmm
   all_goals exact Sim.stuck
  all_goals exact Sim.stuck
 all_goals exact Sim.stuck
end
end Go.Sim
namespace Go.Sim
open Go
structure cg(C:bX)(ρ:Ren)(w w':Ψ):Prop where
 dL:∀a b,ρ a b->a<w.heap.size
 dq:∀a b,ρ a b->b<w'.heap.size
 fn:∀a b b',ρ a b->ρ a b'->b=b'
 inj:∀a a' b,ρ a b->ρ a' b->a=a'
 obj:∀a b o,ρ a b->w.heap[a]?=φ o->∃o',w'.heap[b]?=φ o'/\jq C ρ o o'
def iP.core{C:bX}{ρ:Ren}(h:iP C ρ w w'):cg C ρ w w':=⟨h.dL,h.dq,h.fn,h.inj,h.obj⟩
def cg.rel{C:bX}{ρ:Ren}(h:cg C ρ w w')(t:∀j q,w.tape (w.drawn+j) q=w'.tape (w'.drawn+j) q):iP C ρ w w':=⟨h.dL,h.dq,h.fn,h.inj,h.obj,t⟩
def ep(P' P:ϕ)(C:bX)(ρ:Ren)(R:Ren->α->β->Prop)(s:Sem α)(s':Sem β):Prop:=
 ∀aM,ρ.le aM->∀(w w':Ψ) (es:Array Ñ),iP C aM w w'->∀a aa,s.run P' w=.ok a aa->
  ∃bM b aF eM,s'.runT P w' es=(.ok b aF,es++eM)/\R bM a b/\cg C bM aa aF/\Trans aM bM w w' aa aF/\∀e∈eM,rf bM w e
section
variable {P' P:ϕ}{F:Array Å}{C:bX}{ρ:Ren}{α β γ δ:Type}
variable {R:Ren->α->β->Prop}{S:Ren->γ->δ->Prop}
def Sim.ml{s:Sem α}{s':Sem β}(h:Sim P' P C ρ R s s'):ep P' P C ρ R s s':=by
 intro aM h1 w w' es hw a aa hr;obtain⟨bM,b,aF,eM,h2,h3,h4,h5,h6⟩:=h aM h1 w w' es hw a aa hr;exact⟨bM,b,aF,eM,h2,h3,h4.core,h5,h6⟩
def Sim.Ha{s:Sem α}{s':Sem β}{f:α->Sem γ}{g:β->Sem δ}(h:Sim P' P C ρ R s s')(hf:∀ax,ρ.le ax->∀a b,R ax a b->ep P' P C ax S (f a) (g b)):
 ep P' P C ρ S (s>>=f) (s'>>=g):=by
 intro aM h1 w w' es hw c au hr;have hr:(s.bind f).run P' w=.ok c au:=hr;rw[run_bind] at hr;cases e:s.run P' w with
 |halt h w=>rw[e] at hr;cases hr
 |ok a aa=>
  rw[e] at hr;obtain⟨bM,b,aF,eM,h2,h3,h4,h5,h6⟩:=h aM h1 w w' es hw a aa e;obtain⟨Dj,d,eF,PX,k2,k3,k4,k5,k6⟩:=hf bM (Ren.le_trans h1 h5.le) a b h3 bM bM.le_refl aa aF (es++eM) h4 c au hr;refine⟨Dj,d,eF,eM++PX,?_,k3,k4,h5.trans k5,λx hx=>?_⟩
  ·show(s'.bind g).runT P w' es=_
   rw[qR,h2];simp only[k2,Aac]
  ·rcases Aad.1 hx with hx|hx
   ·exact(h6 x hx).mono k5.le
   ·exact(k6 x hx).back h5
def ep.acJ{s:Sem α}{s':Sem β}{f:α->γ}{g:β->δ}(h:ep P' P C ρ R s s')(hf:∀ax a b,R ax a b->S ax (f a) (g b)):ep P' P C ρ S (s>>=λa=>ϥ (f a)) (s'>>=λb=>ϥ (g b)):=by
 intro aM h1 w w' es hw c au hr;have hr:(s.bind λa=>ϥ (f a)).run P' w=.ok c au:=hr
 rw[run_bind] at hr;cases e:s.run P' w with
 |halt h w=>rw[e] at hr;cases hr
 |ok a aa=>
  rw[e] at hr;have hr:Result.ok (f a) aa=.ok c au:=hr;simp only[ę] at hr;obtain⟨rfl,rfl⟩:=hr;obtain⟨bM,b,aF,eM,h2,h3,h4,h5,h6⟩:=h aM h1 w w' es hw a aa e;refine⟨bM,g b,aF,eM,?_,hf _ _ _ h3,h4,h5,h6⟩
  show(s'.bind _).runT P w' es=_;rw[qR,h2];rfl
def ep.never{s:Sem α}{s':Sem β}(h:bH P' s):ep P' P C ρ R s s':=(Sim.never h).ml
def bytes_beq{s t:ByteArray}(h:(s==t)=θ):s=t:=by
 have h:ByteArray.beq s t=θ:=h;unfold ByteArray.beq at h;simp at h;exact ByteArray.ext h
def Rk{x y:Array υ}(hs:x.size=y.size){f:υ×υ->Bool}:(x.toList.zip y.toList).all f=θ↔∀i (h:i<x.size) (h':i<y.size),f (x[i],y[i])=θ:=by
 rw[List.all_eq_true];constructor
 ·intro h i h1 h2
  refine h _ ?_
  rw[List.mem_iff_getElem];exact⟨i,by simp;omega,by simp⟩
 ·intro h p hp
  rw[List.mem_iff_getElem] at hp;obtain⟨i,hi,rfl⟩:=hp;simp only[List.length_zip,Array.length_toList] at hi;simpa using h i (by omega) (by omega)
def Yo:∀(n:Nat) {a b:υ},ć n a b=θ->a=b:=by
 intro n;induction n with
 |zero=>intro a b h;cases a<;>cases b<;>first| (simp_all [ć];done) | (rw[bytes_beq h])
 |succ n ih=>
  intro a b h;cases a<;>cases b<;>try first| (simp_all [ć];done) | (rw[bytes_beq h];done)
  case agg x y=>
   simp only[ć,ϩ,beq_iff_eq] at h;obtain⟨hs,ha⟩:=h;congr 1;exact Aat hs λi h1 h2=>ih ((Rk hs).1 ha i h1 h2)
  case iface t v u w=>
   simp only[ć,ϩ,beq_iff_eq] at h;rw[h.1,ih h.2]
def sameBits_self(hb:KH ρ):∀(n:Nat) {a a' b':υ},ć n a a=θ->aj ρ a a'->aj ρ a b'->ć n a' b'=θ:=by
 have leaf:∀(n:Nat) {a a' b':υ},(∀x,a≠ .agg x)->(∀t x,a≠ .iface t x)->ć n a a=θ->aj ρ a a'->aj ρ a b'->ć n a' b'=θ:=by
  intro n a a' b' n1 n2 h ha dv;cases ha;case bool=>cases dv;exact h
  case int=>cases dv;exact h
  case string=>cases dv;exact h
  case ptrNone=>cases dv;exact h
  case ptr x y hxy=>
   cases dv;case ptr z hxz=>
    have e:y=z:=by
     obtain⟨y1,y2,y3⟩:=y;obtain⟨z1,z2,z3⟩:=z;obtain⟨p1,p2,p3⟩:=hxy;obtain⟨q1,q2,q3⟩:=hxz;simp only at p1 p2 p3 q1 q2 q3;rw[<-p2,<-p3,<-q2,<-q3,hb.1 _ _ _ p1 q1]
    subst e;cases n<;>simp[ć]
  case chanNone=>cases dv;exact h
  case chan x y hxy=>
   cases dv;case chan z hxz=>
    rw[hb.1 _ _ _ hxy hxz];cases n<;>simp[ć]
  case nilIface=>cases dv;exact h
  case iface t v v' hv=>exact absurd rfl (n2 t v)
  case agg x x' hx h1=>exact absurd rfl (n1 x)
  all_goals (cases n<;>simp[ć] at h)
 intro n;induction n with
 |zero=>
  intro a a' b' h ha dv;refine leaf 0 (λx e=>?_) (λt x e=>?_) h ha dv<;>(subst e;simp[ć] at h)
 |succ n ih=>
  intro a a' b' h ha dv;cases ha;case agg x x' hx h1=>
   cases dv;case agg y' hy h2=>
    simp only[ć,ϩ,beq_iff_eq] at h |-
    have hs:x'.size=y'.size:=hx.symm.trans hy;refine⟨hs,(Rk hs).2 λi i1 i2=>?_⟩
    exact ih ((Rk rfl).1 h.2 i (by omega) (by omega)) (h1 i (by omega) i1) (h2 i (by omega) i2)
  case iface t v v' hv=>
   cases dv;case iface w hw=>
    simp only[ć,ϩ,beq_iff_eq] at h |-
    exact⟨trivial,ih h.2 hv hw⟩
  all_goals exact leaf _ (λ_=>by simp) (λ_ _=>by simp) h (by first|exact aj.fjunk _ _ _|exact aj.sliceDead _ _| (constructor<;>assumption)) dv
def ep.Z4{s:Sem α}{s':Sem β}(h:∀ax,ρ.le ax->KH ax->ep P' P C ax R s s'):ep P' P C ρ R s s':=
 λaM h1 w w' es hw a aa hr=>h aM h1 ⟨hw.fn,hw.inj⟩ aM aM.le_refl w w' es hw a aa hr
def ep.aev(q:Question)(hq:q.forced=χ){a b:Nat}(h:ρ a b){f:Nat->Obj}{o':Obj}(ho:∀n,jq C ρ (f n) o'):
 ep P' P C ρ (λ_ _ _=>True) (Go.choose q>>=λn=>Go.setObj a (f n)) (Go.setObj b o'):=by
 intro aM h1 w w' es hw u aa hr;have hr:(Sem.choose q λn=>Go.setObj a (f n)).run P' w=.ok u aa:=hr
 unfold Ϣ at hr;simp only[hq,Ð,if_false] at hr;have ht:∀(x:Nat) (au:Ψ),(Go.setObj a (f x)).run P' {w with drawn:=w.drawn+1}=.ok () au->∃ll,(Go.setObj a (f x)).run P' w=.ok () ll/\au={ll with drawn:=w.drawn+1}:=by
  intro x au h2;unfold Go.setObj Ϣ at h2 |-
  cases ho:w.heap[a]? with
  |none=>simp only[ho] at h2;cases h2
  |some o=>
   simp only[ho] at h2 |-
   cases o<;>simp only[Ϣ] at h2 |- <;>first| (cases h2;exact⟨_,rfl,rfl⟩) |cases h2
 obtain⟨ll,e3,rfl⟩:=ht _ _ hr;obtain⟨bM,b',aF,eM,k1,k2,k3,k4,k5⟩:=(Sim.setObj (P':=P') (P:=P) h (ho _)) aM h1 w w' es hw _ _ e3;exact⟨bM,b',aF,eM,k1,trivial,⟨k3.dL,k3.dq,k3.fn,k3.inj,k3.obj⟩,⟨k4.le,k4.new,k4.oa,k4.gO,k4.lD,k4.jd,k4.Xh,k4.Kc,k4.nf,k4.yo,k4.yp⟩,k5⟩
def cf.modify{R:α->α->Prop}{x y:Array α}(h:cf R x y)(i:Nat){f g:α->α}(hf:∀a b,R a b->R (f a) (g b)):cf R (x.modify i f) (y.modify i g):=by
 refine⟨by simp[h.1],λj hj rQ=>?_⟩
 simp only[Aau];split
 ·exact hf _ _ (h.2 _ _ _)
 ·exact h.2 _ _ _
def ep.ajE(hb:KH ρ){r r':Nat}(hr:ρ r r'){old aao new bZ:υ}(ho:aj ρ old aao)(hn:aj ρ new bZ){f g:υ->Obj}(hf:∀ {bQ k k'},ρ.le bQ->aj bQ k k'->jq C bQ (f k) (g k')):
 ep P' P C ρ (λ_ _ _=>True) (Ac8 old new>>=λk=>Go.setObj r (f k)) (Ac8 aao bZ>>=λk=>Go.setObj r' (g k)):=by
 unfold Ac8;by_cases e:ć 10000 old new=θ
 ·have e0:=Yo 10000 e
  subst e0;rw[if_pos e,if_pos (sameBits_self hb 10000 e ho hn)];exact(Sim.setObj hr (hf ρ.le_refl hn)).ml
 ·rw[if_neg e]
  by_cases e':ć 10000 aao bZ=θ
  ·have e0:=Yo 10000 e'
   subst e0;rw[if_pos e'];exact ep.aev _ rfl hr λn=>by
     by_cases hz:n=0
     ·rw[if_pos hz];exact hf ρ.le_refl hn
     ·rw[if_neg hz];exact hf ρ.le_refl ho
  ·rw[if_neg e']
   refine Sim.ml ?_
   refine Sim.bind (R:=aj) (Sim.cO (Sim.choose _) λcF h1 n=>Sim.pure ?_) λcF h1 k k' hk=>?_
   ·split
    ·exactλ_ h2=>hn.mono (Ren.le_trans h1 h2)
    ·exactλ_ h2=>ho.mono (Ren.le_trans h1 h2)
   ·exact Sim.setObj (h1 _ _ hr) (hf h1 hk)
def ep.mapUpdate(t:ό)(ht:∀k e,P.underlying t=φ (.map k e)->∃n,ix P n k=θ){m m' k k' v v':υ}(hm:aj ρ m m')(hk:aj ρ k k')(hv:aj ρ v v'):
 ep (tw P F) P C ρ (λ_ _ _=>True) (ŕ t m k v) (ŕ t m' k' v'):=by
 unfold ŕ;refine Sim.Ha (Sim.underlying t) λcF h1 d d' hd=>?_
 obtain⟨rfl,hd⟩:=hd;cases d;case map key elem=>
  obtain⟨n,hn⟩:=ht key elem hd;have hm:=hm.mono h1;cases hm;case mapNone=>exact ep.never (oV _)
  case map r=>
   refine Sim.Ha (Sim.getObj r) λbQ h2 o o' ro=>?_
   cases ro;case map es es' clock he=>
    have hk:=hk.mono (Ren.le_trans h1 h2);have hv:=hv.mono (Ren.le_trans h1 h2);refine Sim.Ha (Sim.checkKey _ _ n key hn hk) λeA h3 _ _ _=>?_
    refine Sim.Ha (Sim.findKey hn (hk.mono h3) (he.pQ.mono λ_ _ x=>j5.mono h3 x)) λmq h4 f f' hff=>?_
    refine ep.Z4 λv8 h5 hb=>?_
    have l5:=Ren.le_trans h3 (Ren.le_trans h4 h5);have N5:cf (j5 v8) es es':=he.mono λ_ _ x=>j5.mono l5 x
    have V8:=Ren.le_trans h2 l5 _ _ r;cases hff with
    |none=>exact(Sim.setObj V8 (.map _ (N5.push (.mk _ (hk.mono l5) (hv.mono l5))))).ml
    | @some p q IU=>
      obtain⟨i,x⟩:=p;obtain⟨j,y⟩:=q;obtain⟨e,_⟩:=IU;simp only at e;subst e;refine ep.ajE hb V8 ?_ (hk.mono l5) λh6 vo=>.map _ ((N5.mono λ_ _ x=>j5.mono h6 x).modify _ λa b hab=>?_)
      ·rcases N5.get? i with⟨e1,e2⟩ | ⟨a,b,e1,e2,hab⟩
       ·rw[e1,e2];exact hk.mono l5
       ·rw[e1,e2];exact hab.key
      ·cases hab with
       |mk born _ _=>exact .mk born vo (hv.mono (Ren.le_trans l5 h6))
   all_goals exact ep.never bH.halt
  all_goals exact ep.never bH.halt
 all_goals exact ep.never bH.halt
end
def lF:Nat->υ->Bool
 |0,_=>χ
 |n+1,v=>match v with
  | .bool _| .int .. | .string _| .pointer ν| .slice ν _ _| .map ν| .chan ν| .nilFunc| .nilIface=>θ
  | .func (.func _) x y=>x.isEmpty && y.isEmpty
  | .iface _ v=>lF n v
  | .agg x=>x.all (lF n)
  | .tuple x=>x.all (lF n)
  |_=>χ
def pR(G:Nat->Bool):Ë->Bool
 | .tmp _=>θ
 | .const v=>lF 10 v
 | .global g=>G g
 | .func _=>θ
def WV:Ü->Bool
 | .eql| .neq=>θ
 |_=>χ
def DZ(P:ϕ)(t:ό):Bool:=ix P 20 t && !P.eqGuardType P.depth t
def BC(P:ϕ)(e:ό):Bool:=match P.underlying e with
 |some (.int .u8)=>θ
 |_=>χ
def BJ(P:ϕ)(s d:ό):Bool:=match P.underlying s,P.underlying d with
 |some (.int _),φ (.int _)=>θ
 |some .string,φ (.slice e)=>BC P e
 |_,_=>χ
def D7(P:ϕ)(s:ό)(i:Nat):Bool:=match P.underlying s with
 |some (.struct fs)=>(match fs[i]? with
  |some f=>(P.info? f.type).any (·.size !=0)
  |none=>χ)
 |_=>χ
def AH(P:ϕ)(t:ό):Bool:=match P.underlying t with
 |some (.map k _)=>ix P 20 k
 |_=>χ
def TN(P:ϕ)(t:Option ό):Bool:=match t with
 |none=>θ
 |some u=>(match P.underlying u with
  |some (.int _)=>χ
  |_=>θ)
def wN(P:ϕ)(ts:Array ό)(n:Nat):Builtin->Bool
 | .len=>n==1
 | .max| .min=>θ
 | .copy=>n==2
 | .clear=>n==1
 | .append=>n==2 && TN P ts[1]?
 |_=>χ
def jA(P:ϕ)(o:Op):Bool:=match o with
 | .move _| .assign _| .pick .. | .alloc _| .box .. | .build .. | .buildSlice .. | .load .. | .store .. | .makeSlice .. | .slice .. | .field .. | .indexAddr .. | .index .. | .extract .. =>θ
 | .unOp .not _ _| .nilCheck _=>θ
 | .binOp op t _ _ _=> !WV op||DZ P t
 | .convert s d _=>BJ P s d
 | .makeFunc (.func _) _ _=>θ
 | .makeMap _ ν=>θ
 | .fieldAddr s _ i=>D7 P s i
 | .lookup t _ _ _=>AH P t
 | .mapUpdate t _ _ _=>AH P t
 | .call ⟨.value _,_,_⟩=>θ
 | .call ⟨.builtin b,args,ts⟩=>wN P ts args.size b
 |_=>χ
def k8(P:ϕ)(G:Nat->Bool)(o:Oper):Bool:=o.op.operands.all (pR G) && jA P o.op
def cC(P:ϕ)(G:Nat->Bool):ϖ->Bool
 | .skip| .label _| .ret| .exit _=>θ
 | .region _ ops _=>ops.all (k8 P G)
 | .seq a b=>cC P G a && cC P G b
 | .cond c a b=>pR G c && cC P G a && cC P G b
 | .block _ b=>cC P G b
 | .loop b=>cC P G b
 | .scope b=>cC P G b
 | .rangeFunc f _ a b=>pR G f && cC P G a && cC P G b
 |_=>χ
inductive lQ(C:bX)(ρ:Ren):Next->Next->Prop
 |value {v v':υ} (h:aj ρ v v'):lQ C ρ (.value v) (.value v')
 |skip:lQ C ρ .skip .skip
 |enter (f:Â) {x x':Array υ} (hf:C.ok f=θ) (h:aV ρ x x'):lQ C ρ (.enter f x) (.enter f x')
 |hole (f:Â) {x x':Array υ} (hf:C.hole f=θ) (h:aV ρ x x'):lQ C ρ (.enter f x) (.enter f x')
 |round {l l':Nat} (hl:ρ l l') (f:Â) {x x':Array υ} (h:aV ρ x x') {a b:ϖ} (ha:C.clean a) (hb:C.clean b):lQ C ρ (.round l f x a b) (.round l' f x' a b)
structure RD(fn:Å):Prop where
 name:(fn.name== "runtime.NumGoroutine")=χ
 body:fn.body=ν
 next:Extern.findNext fn=ν
 row:Extern.find fn=ν
 init:fn.name.endsWith ".init" =χ
structure Env(P:ϕ)(F:Array Å)(C:bX)(G:Nat->Bool):Prop where
 tV:pA P
 clean:∀c,C.clean c↔cC P G c=θ
 get:∀f,C.ok f=θ->∃fn c,F[f]?=φ fn/\P.funcs[f]?=φ fn/\fn.body=φ c/\cC P G c=θ/\(fn.name== "runtime.NumGoroutine")=χ
 dead:∀f,C.ok f=χ->C.hole f=χ->F[f]?=ν\/∃fn,F[f]?=φ fn/\RD fn
 EZ:∀f,C.hole f=θ->∃fn fn' c c',F[f]?=φ fn/\P.funcs[f]?=φ fn'/\fn.body=φ c/\fn'.body=φ c'/\(fn.name== "runtime.NumGoroutine")=χ/\(fn'.name== "runtime.NumGoroutine")=χ
 ahead:(tw P F).follows .staticDataAhead=θ
 steps:∀g,(tw P F).stepOf g=ν
def Env.never{F:Array Å}{C:bX}{G:Nat->Bool}(E:Env P F C G)(f:Â)(args:Array υ)(h:C.ok f=χ)(h':C.hole f=χ):bH (tw P F) (Go.callFunc f args):=by
 intro w a aa hr;rcases E.dead f h h' with e| ⟨fn,e,D⟩
 ·have e1:(tw P F).funcs[f]?=ν:=e
  simp[Go.callFunc,Go.program,bind,ϫ,Ϣ,e1,Go.stuck] at hr
 ·have e1:(tw P F).funcs[f]?=φ fn:=e
  have nm:¬fn.name= "runtime.NumGoroutine" :=λq=>by have:=D.name;rw[q] at this;simp at this
  simp[Go.callFunc,Go.program,Go.mark,bind,ϫ,Ϣ,e1,D.body,D.next,D.row,D.init,Go.unsupported,nm] at hr
def Uf:∀(n:Nat) {v:υ},lF n v=θ->Flat v:=by
 intro n;induction n with
 |zero=>intro v h;simp[lF] at h
 |succ n ih=>
  intro v h;have arr:∀x:Array υ,x.all (lF n)=θ->aV (λ_ _=>False) x x:=λx hx=>cf.refl λa ha=>ih (by simpa using Ģ.1 hx a ha)
  cases v<;>try(simp[lF] at h;done)
  case bool=>exact .bool _
  case int=>exact .int _ _
  case string=>exact .string _
  case pointer p=>cases p with
   |none=>exact .ptrNone
   |some=>simp[lF] at h
  case slice p n c=>cases p with
   |none=>exact .sliceNone _ _
   |some=>simp[lF] at h
  case map p=>cases p with
   |none=>exact .mapNone
   |some=>simp[lF] at h
  case chan p=>cases p with
   |none=>exact .chanNone
   |some=>simp[lF] at h
  case func fn x y=>
   cases fn<;>try(simp[lF] at h;done)
   simp[lF] at h;obtain⟨rfl,rfl⟩:=h;exact .func (.func _) rfl (by simp) rfl (by simp)
  case nilFunc=>exact .nilFunc
  case iface t v=>exact .iface t (ih (by simpa [lF] using h))
  case nilIface=>exact .nilIface
  case agg x=>exact aj.wH (arr x (by simpa [lF] using h))
  case tuple x=>exact aj.tuple' (arr x (by simpa [lF] using h))
def re(G:Nat->Bool)(ρ:Ren)(e e':Ë->υ):Prop:=∀x,pR G x=θ->aj ρ (e x) (e' x)
section
variable {P:ϕ}{F:Array Å}{C:bX}{G:Nat->Bool}{ρ:Ren}
def Sim.val{s s':Sem υ}(h:Sim (tw P F) P C ρ aj s s'):Sim (tw P F) P C ρ (lQ C) (do ϥ (ť (<-s))) (do ϥ (ť (<-s'))):=
 Sim.bind' h λ_ _ _ _ r=>Sim.pure' λ_ h2=>.value (r.mono h2)
def Sim.lK{s s':Sem υ}(h:Sim (tw P F) P C ρ aj s s'):ep (tw P F) P C ρ (lQ C) (do ϥ (ť (<-s))) (do ϥ (ť (<-s'))):=(Sim.val h).ml
def Sim.Q2{s s':Sem Unit}(h:Sim (tw P F) P C ρ (λ_ _ _=>True) s s'):ep (tw P F) P C ρ (lQ C) (do s;ϥ Adn) (do s';ϥ Adn):=
 (Sim.bind' h λ_ _ _ _ _=>Sim.pure' λ_ _=>.skip).ml
def Sim.callFunc(E:Env P F C G)(f:Â){x x':Array υ}(h:aV ρ x x'):Sim (tw P F) P C ρ (lQ C) (Go.callFunc f x) (Go.callFunc f x'):=by
 by_cases hf:C.ok f=θ
 ·obtain⟨fn,c,h1,h2,h3,h4,h5⟩:=E.get f hf
  unfold Go.callFunc;refine Sim.bind' Sim.program λcF l1 a b ⟨ha,hb⟩=>?_
  have e1:a.funcs[f]?=φ fn:=by rw[ha];exact h1
  have e2:b.funcs[f]?=φ fn:=by rw[hb];exact h2
  simp only[e1,e2,h5,h3,Aec,Ð,if_false];exact Sim.pure' λ_ l2=>.enter f hf (h.mono (Ren.le_trans l1 l2))
 ·by_cases hh:C.hole f=θ
  ·obtain⟨fn,fn',c,c',h1,h2,h3,h4,h5,h6⟩:=E.EZ f hh
   unfold Go.callFunc;refine Sim.bind' Sim.program λcF l1 a b ⟨ha,hb⟩=>?_
   have e1:a.funcs[f]?=φ fn:=by rw[ha];exact h1
   have e2:b.funcs[f]?=φ fn':=by rw[hb];exact h2
   simp only[e1,e2,h5,h6,h3,h4,Aec,Ð,if_false];exact Sim.pure' λ_ l2=>.hole f hh (h.mono (Ren.le_trans l1 l2))
  ·exact Sim.never (E.never f x (by simpa using hf) (by simpa using hh))
def Sim.getLoop{l l':Nat}(h:ρ l l'):Sim (tw P F) P C ρ (Bn C) (Ada l) (Ada l'):=by
 unfold Ada;refine Sim.bind' (Sim.getObj h) λcF l1 o o' r=>?_
 cases r;case loop hl=>exact Sim.pure' λ_ l2=>hl.mono l2
 all_goals exact Sim.stuck
def foldl_rel{l:List (Tmp×υ)}{l':List (Tmp×υ)}(h:gR (λa b=>a.1=b.1/\aj ρ a.2 b.2) l l'):∀ {t t':Array υ},aV ρ t t'->
 aV ρ (l.foldl (λtmps (x:Tmp×υ)=>tmps.setIfInBounds x.1 x.2) t) (l'.foldl (λtmps (x:Tmp×υ)=>tmps.setIfInBounds x.1 x.2) t'):=by
 induction h with
 |nil=>exactλh=>h
 |cons hab _ ih=>
  intro t t' ht;simp only[List.foldl_cons];refine ih ?_
  rw[hab.1];exact cf.set ht _ hab.2
def Sim.yield{l l':Nat}(h:ρ l l'){x x':Array υ}(hx:aV ρ x x'):Sim (tw P F) P C ρ (lQ C) (Adb l x) (Adb l' x'):=by
 unfold Adb;refine Sim.bind' (Sim.getLoop h) λcF l1 o o' r=>?_
 cases r with
 |mk st qP fn ps qi body ht hd ha hb hp=>
  simp only;rw[hx.1];split
  ·exact Sim.AW
  ·refine Sim.pure' λbQ l2=>.round (l2 _ _ (l1 _ _ h)) fn ?_ ha hb
   simp only[<-Aar];refine foldl_rel ?_ (ht.mono l2)
   have:∀(ps:List Tmp) {x x':List υ},gR (aj bQ) x x'->gR (λa b:Tmp×υ=>a.1=b.1/\aj bQ a.2 b.2) (ps.zip x) (ps.zip x'):=by
    intro ps;induction ps with
    |nil=>intro x x' h;simp only[List.zip_nil_left];exact .nil
    |cons p ps ih=>
     intro x x' h;cases h with
     |nil=>simp only[List.zip_nil_right];exact .nil
     |cons hab t=>simp only[List.zip_cons_cons];exact .cons ⟨rfl,hab⟩ (ih t)
   simpa using this ps.toList (hx.mono (Ren.le_trans l1 l2)).pQ
end
end Go.Sim
namespace Go.Sim
open Go
section
variable {P:ϕ}{F:Array Å}{C:bX}{G:Nat->Bool}{ρ:Ren}{e e':Ë->υ}
def Sim.CG(E:Env P F C G)(hv:aj ρ v v'){x x':Array υ}(hx:aV ρ x x'):
 Sim (tw P F) P C ρ (lQ C) (do let d <-Acg v x;Go.invoke d.target d.args) (do let d <-Acg v' x';Go.invoke d.target d.args):=by
 cases hv;case func fn fn' a a' b b' h ha h1 hb h2=>
  cases h with
  |func f=>exact Sim.callFunc E f ((cf.append ⟨ha,h1⟩ hx).append ⟨hb,h2⟩)
  |yield hl=>exact Sim.yield hl (cf.append ⟨ha,h1⟩ hx)
 case nilFunc=>exact Sim.never λw a aa hr=>oV (P':=tw P F) (α:=Next) .nilDeref w a aa hr
 case fjunk=>
  have e:(do let d <-Acg (.func (.method "") #[.nilIface] #[]) x;Go.invoke d.target d.args:Sem Next)=runtimePanic .nilDeref:=by
   show Go.invoke (.fn (.method "") #[]) (#[.nilIface]++x)=_;have h0:(#[Value.nilIface]++x)[0]?=φ .nilIface:=by rw[Aaw (by simp)];rfl
   unfold Go.invoke;simp only[h0,Go.callMethod]
  rw[e];exact Sim.never λw a aa hr=>oV (P':=tw P F) (α:=Next) .nilDeref w a aa hr
 all_goals exact Sim.AW
def XR{x:Array α}(h:x.size=1):∃a,x=#[a]:=⟨x[0],by
 apply Aat<;>simp[h]
 intro i h1;have:i=0:=by omega
 subst this;rfl⟩
def Zh{x:Array α}(h:x.size=2):∃a b,x=#[a,b]:=⟨x[0],x[1],by
 apply Aat<;>simp[h]
 intro i h1;have:i=0\/i=1:=by omega
 rcases this with rfl|rfl<;>exactλ_=>rfl⟩
def cf.inv1{R:α->β->Prop}{a:α}{b:β}(h:cf R #[a] #[b]):R a b:=h.2 0 (by simp) (by simp)
def cf.inv2{R:α->β->Prop}{a c:α}{b d:β}(h:cf R #[a,c] #[b,d]):R a b/\R c d:=⟨h.2 0 (by simp) (by simp),h.2 1 (by simp) (by simp)⟩
def Sim.builtin(E:Env P F C G)(b:Builtin)(ts:Array ό)(t:ό)(cs:Array Bool){x x':Array υ}(hx:aV ρ x x')(hb:wN P ts x.size b=θ):
 Sim (tw P F) P C ρ (lQ C) (Go.builtin b ts t cs x) (Go.builtin b ts t cs x'):=by
 have h1:x.size=1->∃a a',x=#[a]/\x'=#[a']/\aj ρ a a':=λh=>by
  obtain⟨a,rfl⟩:=XR h;obtain⟨a',rfl⟩:=XR (hx.1.symm.trans h);exact⟨a,a',rfl,rfl,hx.inv1⟩
 have h2:x.size=2->∃a b a' b',x=#[a,b]/\x'=#[a',b']/\aj ρ a a'/\aj ρ b b':=λh=>by
  obtain⟨a,b,rfl⟩:=Zh h;obtain⟨a',b',rfl⟩:=Zh (hx.1.symm.trans h);exact⟨a,b,a',b',rfl,rfl,hx.inv2⟩
 cases b<;>simp only[wN,ϩ,beq_iff_eq,reduceCtorEq] at hb
 case len=>
  obtain⟨a,a',rfl,rfl,ha⟩:=h1 hb;exact Sim.val (Sim.len ts t ha)
 case max=>exact Sim.val (Sim.max ts t hx)
 case min=>exact Sim.val (Sim.min ts t hx)
 case copy=>
  obtain⟨a,b,a',b',rfl,rfl,ha,hb⟩:=h2 hb;exact Sim.val (Sim.copy ts t ha hb)
 case clear=>
  obtain⟨a,a',rfl,rfl,ha⟩:=h1 hb;exact Sim.val (Sim.clear E.tV ts t ha)
 case append=>
  obtain⟨a,b,a',b',rfl,rfl,ha,hc⟩:=h2 hb.1;refine Sim.val (Sim.append E.tV ts t (λu hu k hk=>?_) ha hc)
  have:=hb.2;simp[TN,hu,hk] at this
def Xx{x:Array Ë}(h:x.all (pR G)=θ){o:Ë}(ho:o∈x):pR G o=θ:=by simpa using Ģ.1 h o ho
def Jl(h:re G ρ e e'){x:Array Ë}(hx:x.all (pR G)=θ):aV ρ (x.map e) (x.map e'):=by
 refine⟨by simp,λi h1 h2=>?_⟩
 simp only[Aap];exact h _ (Xx hx (Aab _))
def Xu(h:re G ρ e e'){x:Array (Nat×Ë)}(hx:∀p∈x,pR G p.2=θ):cf (Bp ρ) (x.map λ(i,o)=>(i,e o)) (x.map λ(i,o)=>(i,e' o)):=by
 refine⟨by simp,λi h1 h2=>?_⟩
 simp only[Aap];exact⟨rfl,h _ (hx _ (Aab _))⟩
def PI(h:re G ρ e e'){x:Option Ë}(hx:∀o,x=φ o->pR G o=θ):fK (aj ρ) (x.map e) (x.map e'):=by
 cases x with
 |none=>exact .none
 |some o=>exact .some (h _ (hx o rfl))
def ep.execOp(E:Env P F C G)(o:Oper)(ho:k8 P G o=θ)(h:re G ρ e e'):ep (tw P F) P C ρ (lQ C) (Go.execOp e o) (Go.execOp e' o):=by
 unfold k8 at ho;rw[ϩ] at ho;obtain⟨eT,ag⟩:=ho;unfold Go.execOp;have T:=E.tV;have mem:∀x,x∈o.op.operands->aj ρ (e x) (e' x):=λx hx=>h x (Xx eT hx)
 have yd:∀x,x∈o.op.operands->pR G x=θ:=λx hx=>Xx eT hx
 generalize o.op=op at *;cases op<;>try(simp[jA] at ag;done)
 case move x=>exact Sim.ml (Sim.pure' λ_ l=>.value ((mem x (by simp[À])).mono l))
 case assign x=>exact Sim.ml (Sim.pure' λ_ l=>.value ((mem x (by simp[À])).mono l))
 case pick c a b=>
  refine Sim.ml (Sim.cO (Sim.asBool (mem c (by simp[À]))) λcF l1 x=>Sim.pure' λbQ l2=>.value ?_)
  cases x
  ·exact(mem b (by simp[À])).mono (Ren.le_trans l1 l2)
  ·exact(mem a (by simp[À])).mono (Ren.le_trans l1 l2)
 case alloc t=>exact Sim.lK (Sim.alloc T t)
 case box t x=>exact Sim.lK (Sim.box t (mem x (by simp[À])))
 case build t ps=>exact Sim.lK (Sim.build T t (Xu h λp hp=>yd p.2 (by simp[À];exact⟨p.1,hp⟩)))
 case buildSlice t n ps=>exact Sim.lK (Sim.buildSlice T t n (Xu h λp hp=>yd p.2 (by simp[À];exact⟨p.1,hp⟩)))
 case load t a=>exact Sim.lK (Sim.loadAt t (mem a (by simp[À])))
 case store t a x=>exact Sim.Q2 (Sim.storeAt t (mem a (by simp[À])) (mem x (by simp[À])))
 case binOp bop t x y yt=>
  refine Sim.lK (Sim.amL (n:=20) bop t (λhq=>?_) x y (mem x (by simp[À])) (mem y (by simp[À])))
  simp only[jA,DZ,Bool.or_eq_true,ϩ,Bool.not_eq_true'] at ag;rcases ag with ag|ag
  ·rcases hq with rfl|rfl<;>simp[WV] at ag
  ·exact ag
 case unOp u t x=>
  cases u<;>try(simp[jA] at ag;done)
  exact Sim.lK (Sim.not (mem x (by simp[À])))
 case nilCheck x=>
  have hx:=mem x (by simp[À])
  simp only;generalize e x=v at hx |-
  generalize e' x=v' at hx |-
  have xW:=hx;have np:∀ {s':Sem Next},ep (tw P F) P C ρ (lQ C) (Go.runtimePanic .nilDeref:Sem Next) s':=Sim.ml (Sim.never λw a aa hr=>oV (P':=tw P F) (α:=Next) .nilDeref w a aa hr)
  cases hx;case func fn fn' _ _ _ _ hf _ _ _ _=>cases hf<;>exact Sim.ml (Sim.pure' λ_ l=>.value (aj.mono l xW))
  case ptrNone=>exact np
  case nilIface=>exact np
  case nilFunc=>exact np
  case fjunk=>exact np
  case junk h hb hc=>
   have hv:aj ρ (μ #[]) v':=.junk h hb hc;have ok:ep (tw P F) P C ρ (lQ C) (ϥ (ť (μ #[])):Sem Next) (ϥ (ť v')):=Sim.ml (Sim.pure' λ_ l=>.value (aj.mono l hv))
   cases v';case pointer x=>
    cases x
    ·exact absurd rfl hc.1
    ·exact ok
   case nilIface=>exact absurd rfl hc.2.1
   case nilFunc=>exact absurd rfl hc.2.2.1
   case func f x y=>exact absurd rfl (hc.2.2.2 f x y)
   all_goals exact ok
  all_goals exact Sim.ml (Sim.pure' λ_ l=>.value (aj.mono l xW))
 case convert s d x=>
  refine Sim.lK (Sim.convert s d ?_ (mem x (by simp[À])))
  simp only[jA,BJ] at ag;split at ag
  ·exact .ints _ _ (by assumption) (by assumption)
  ·unfold BC at ag
   split at ag
   ·exact .bytes _ (by assumption) (by assumption) (by assumption)
   ·cases ag
  ·cases ag
 case makeFunc fn a b=>
  cases fn<;>try(simp[jA] at ag;done)
  have ha:a.all (pR G)=θ:=Ģ.2 λx hx=>by simpa using yd x (by simp[À,hx])
  have hb:b.all (pR G)=θ:=Ģ.2 λx hx=>by simpa using yd x (by simp[À,hx])
  exact Sim.lK (Sim.makeFunc _ (Jl h ha) (Jl h hb))
 case makeMap t r=>
  cases r with
  |some=>simp[jA] at ag
  |none=>exact Sim.lK (Sim.ak9 t)
 case makeSlice t l c=>exact Sim.lK (Sim.makeSlice T t (mem l (by simp[À])) (mem c (by simp[À])))
 case slice t x lo hi mx=>
  exact Sim.lK (Sim.sliceAt t (mem x (by simp[À])) (PI h λo hx=>yd o (by subst hx;simp[À])) (PI h λo hx=>yd o (by subst hx;simp[À])) (PI h λo hx=>yd o (by subst hx;simp[À])))
 case fieldAddr s x i=>
  refine Sim.lK (Sim.fieldAt s (mem x (by simp[À])) i λfs f h1 h2=>?_)
  simp only[jA,D7,h1,h2] at ag;cases hi: P.info? f.type with
  |none=>rw[hi] at ag;cases ag
  |some info=>exact⟨info,rfl,by rw[hi] at ag;simpa using ag⟩
 case field t x i=>exact Sim.lK (Sim.field t (mem x (by simp[À])) i)
 case indexAddr t x i=>exact Sim.lK (Sim.indexAt t (mem x (by simp[À])) (mem i (by simp[À])))
 case index t x i=>exact Sim.lK (Sim.index t (mem x (by simp[À])) (mem i (by simp[À])))
 case lookup t x i ok=>
  refine Sim.lK (Sim.lookup T t (λk el hk=>⟨20,?_⟩) ok (mem x (by simp[À])) (mem i (by simp[À])))
  simpa [jA,AH,hk] using ag
 case mapUpdate t m k x=>
  refine ep.acJ (f:=λ_=>Adn) (g:=λ_=>Adn) (ep.mapUpdate t (λk el hk=>⟨20,?_⟩) (mem m (by simp[À])) (mem k (by simp[À])) (mem x (by simp[À]))) λ_ _ _ _=>.skip
  simpa [jA,AH,hk] using ag
 case extract x i=>exact Sim.lK (Sim.extract (mem x (by simp[À])) i)
 case call c=>
  obtain⟨callee,args,ts⟩:=c;have ha:args.all (pR G)=θ:=Ģ.2 λx hx=>by simpa using yd x (by simp[À,Call.operands,hx])
  cases callee with
  |invoke=>simp[jA] at ag
  |value f=>exact(Sim.CG E (mem f (by simp[À,Call.operands])) (Jl h ha)).ml
  |builtin b=>exact(Sim.builtin E b ts _ _ (Jl h ha) (by simpa [jA] using ag)).ml
end
end Go.Sim
namespace Go.Sim
open Go
section
variable {P:ϕ}{F:Array Å}{C:bX}{G:Nat->Bool}{ρ:Ren}
def Sim.enterLoop(fn:Â){t t':Array υ}(ht:aV ρ t t')(ps:Array Tmp){a b:ϖ}(ha:C.clean a)(hb:C.clean b){r r':Option Nat}(hr:fK ρ r r'):
 Sim (tw P F) P C ρ (λρ x y=>ρ x.1 y.1/\gR (uD ρ) x.2 y.2) (Adc fn t ps a b r) (Adc fn t' ps a b r'):=by
 have last:∀ {cF:Ren},ρ.le cF->∀ {d d':Nat},cF d d'->∀ {m m':List È},gR (uD cF) m m'->Sim (tw P F) P C cF (λρ x y=>ρ x.1 y.1/\gR (uD ρ) x.2 y.2)
  (do ϥ (<-Go.newObj (.loop {state:=.ready,pending:=ν,fn,tmps:=t,params:=ps,assign:=a,body:=b,defers:=d}),m))
  (do ϥ (<-Go.newObj (.loop {state:=.ready,pending:=ν,fn,tmps:=t',params:=ps,assign:=a,body:=b,defers:=d'}),m')):=by
  intro cF l1 d d' hd m m' hm;refine Sim.bind' (Sim.newObj (.loop (.mk _ _ _ _ _ _ (ht.mono l1) hd ha hb (by simp)))) λbQ l2 x y hxy=>Sim.pure' λeA l3=>⟨l3 _ _ hxy,?_⟩
  exact hm.mono λ_ _ h=>by cases h with|collected h=>exact .collected (l3 _ _ (l2 _ _ h))
 unfold Adc;cases hr with
 |none=>
  simp only[pure_bind];exact Sim.bind' (Sim.newObj .calls) λcF l1 x y hxy=>last l1 hxy (.cons (.collected hxy) .nil)
 |some h=>
  simp only[pure_bind];refine Sim.bind' (Sim.getLoop h) λcF l1 o o' hl=>?_
  cases hl with
  |mk st qP fn ps qi body ht hd ha hb hp=>exact last l1 hd .nil
def Sim.beginRound{l l':Nat}(h:ρ l l'):Sim (tw P F) P C ρ (λ_ _ _=>True) (Ade l) (Ade l'):=by
 unfold Ade;refine Sim.bind' (Sim.getLoop h) λcF l1 o o' hl=>?_
 cases hl with
 |mk st qP fn ps qi body ht hd ha hb hp=>
  refine Sim.bind' (Sim.setObj (l1 _ _ h) (.loop (.mk _ _ _ _ _ _ ht hd ha hb hp))) λbQ l2 _ _ _=>?_
  cases st
  ·exact Sim.pure' λ_ _=>trivial
  all_goals exact Sim.never (oV _)
def Sim.endRound{l l':Nat}(h:ρ l l')(j:Option ϖ)(hj:∀c,j=φ c->C.clean c):Sim (tw P F) P C ρ aj (Adf l j) (Adf l' j):=by
 unfold Adf;refine Sim.bind' (Sim.getLoop h) λcF l1 o o' hl=>?_
 cases hl with
 |mk st qP fn ps qi body ht hd ha hb hp=>
  exact Sim.bind' (Sim.setObj (l1 _ _ h) (.loop (.mk _ _ _ _ _ _ ht hd ha hb hj))) λbQ l2 _ _ _=>Sim.pure' λ_ _=>.bool _
def Sim.endLoop{l l':Nat}(h:ρ l l'):Sim (tw P F) P C ρ (λ_ a b=>a=b/\∀c,a=φ c->C.clean c) (Adg l) (Adg l'):=by
 unfold Adg;refine Sim.bind' (Sim.getLoop h) λcF l1 o o' hl=>?_
 cases hl with
 |mk st qP fn ps qi body ht hd ha hb hp=>
  simp only;split
  ·exact Sim.never (bH.bind (oV _))
  ·exact Sim.bind' (Sim.setObj (l1 _ _ h) (.loop (.mk _ _ _ _ _ _ ht hd ha hb hp))) λbQ l2 _ _ _=>Sim.pure' λ_ _=>⟨rfl,hp⟩
def Sim.takeDeferred{l l':Nat}(h:ρ l l'):Sim (tw P F) P C ρ (λ_ a b=>a=[]/\b=[]) (Ŗ l) (Ŗ l'):=by
 unfold Ŗ;refine Sim.bind' (Sim.getObj h) λcF l1 o o' ro=>?_
 cases ro;case calls=>exact Sim.bind' (Sim.setObj (l1 _ _ h) .FY) λbQ l2 _ _ _=>Sim.pure' λ_ _=>⟨rfl,rfl⟩
 all_goals exact Sim.stuck
def Sim.results(fn:Å){t t':Array υ}(ht:aV ρ t t'):Sim (tw P F) P C ρ aj (Go.results fn t) (Go.results fn t'):=by
 unfold Go.results;have:∀(l:List ResultVar) {cF:Ren},ρ.le cF->Sim (tw P F) P C cF (λρ=>gR (aj ρ)) (l.mapM λ
  | .tmp x=>ϥ (t.getD x ω)
  | .cell a ty=>do Go.loadVar ty (<-Go.asAddr (t.getD a ω)))
  (l.mapM λ
    | .tmp x=>ϥ (t'.getD x ω)
    | .cell a ty=>do Go.loadVar ty (<-Go.asAddr (t'.getD a ω))):=by
  intro l;induction l with
  |nil=>intro cF l1;simp only[List.mapM_nil];exact Sim.pure' λ_ _=>.nil
  |cons r l ih=>
   intro cF l1;simp only[List.mapM_cons];refine Sim.bind' (R:=aj) ?_ λbQ l2 v v' hv=>Sim.bind' (ih (Ren.le_trans l1 l2)) λeA l3 x x' hx=>Sim.pure' λmq l4=>.cons (hv.mono (Ren.le_trans l3 l4)) (hx.mono λ_ _ h=>h.mono l4)
   cases r with
   |tmp x=>exact Sim.pure' λbQ l2=>cf.getD (ht.mono (Ren.le_trans l1 l2)) x .undef
   |cell a ty=>exact Sim.bind' (Sim.asAddr (cf.getD (ht.mono l1) a .undef)) λbQ l2 _ _ hab=>Sim.loadVar ty hab
 rw[į,į,map_eq_pure_bind,map_eq_pure_bind,bind_assoc,bind_assoc];refine Sim.bind' (this fn.results.toList ρ.le_refl) λcF l1 x x' hx=>?_
 simp only[pure_bind];refine Sim.pure' λbQ l2=>?_
 have hx:=hx.mono λ_ _ h=>aj.mono l2 h
 cases hx with
 |nil=>exact aj.tuple' .empty
 |cons hab t=>
  cases t with
  |nil=>exact hab
  |cons hcd t=>exact aj.tuple' (cf.amA (.cons hab (.cons hcd t)))
end
end Go.Sim
namespace Go.Sim
open Go
structure Tl where
 code:ϖ
 items:List Item
 defers:List È
 callers:List Ϛ
 kind:CallKind
def dt:ϖ:=.refuse ""
def cQ:È:={target:=.fn (.method "") #[],args:=#[]}
inductive Cut(C:bX)(S:Tl):ϖ->ϖ->Prop
 |stop:Cut C S dt S.code
 |seq {a b b':ϖ} (ha:C.clean a) (hb:Cut C S b b'):Cut C S (.seq a b) (.seq a b')
inductive mA(C:bX)(S:Tl)(ρ:Ren):Item->Item->Prop
 |code (c:ϖ) (h:C.clean c):mA C S ρ (.code c) (.code c)
 |cut {c c':ϖ} (h:Cut C S c c'):mA C S ρ (.code c) (.code c')
 |inBlock (id:Nat):mA C S ρ (.inBlock id) (.inBlock id)
 |inLoop (c:ϖ) (h:C.clean c):mA C S ρ (.inLoop c) (.inLoop c)
 |inScope (c:ϖ) (h:C.clean c):mA C S ρ (.inScope c) (.inScope c)
 |inRegion (id:Nat) (d:Bool) (ops:Array Oper) (todo:List Nat) (h:C.clean (.region id ops d)):mA C S ρ (.inRegion ops todo) (.inRegion ops todo)
 |inRangeFunc {l l':Nat} (h:ρ l l'):mA C S ρ (.inRangeFunc l) (.inRangeFunc l')
 |endRangeFunc {l l':Nat} (h:ρ l l'):mA C S ρ (.endRangeFunc l) (.endRangeFunc l')
 |beginRound:mA C S ρ .beginRound .beginRound
def mA.mono{C:bX}{S:Tl}{ρ ax:Ren}(h:ρ.le ax){a b:Item}(x:mA C S ρ a b):mA C S ax a b:=by
 cases x with
 |code c hc=>exact .code c hc
 |cut hc=>exact .cut hc
 |inBlock id=>exact .inBlock id
 |inLoop c hc=>exact .inLoop c hc
 |inScope c hc=>exact .inScope c hc
 |inRegion id d ops todo hc=>exact .inRegion id d ops todo hc
 |inRangeFunc hl=>exact .inRangeFunc (h _ _ hl)
 |endRangeFunc hl=>exact .endRangeFunc (h _ _ hl)
 |beginRound=>exact .beginRound
def uD.mono{ρ ax:Ren}(h:ρ.le ax){a b:È}(x:uD ρ a b):uD ax a b:=by
 cases x with|collected hr=>exact .collected (h _ _ hr)
inductive py(C:bX)(S:Tl)(ρ:Ren):Bool->List Item->List Item->Prop
 |nil:py C S ρ χ [] []
 |stop:py C S ρ θ [.code dt] S.items
 |cons {b:Bool} {i i':Item} {k k':List Item} (h:mA C S ρ i i') (t:py C S ρ b k k'):py C S ρ b (i::k) (i'::k')
inductive kM(S:Tl)(ρ:Ren):Bool->List È->List È->Prop
 |nil:kM S ρ χ [] []
 |stop:kM S ρ θ [cQ] S.defers
 |cons {b:Bool} {d d':È} {k k':List È} (h:uD ρ d d') (t:kM S ρ b k k'):kM S ρ b (d::k) (d'::k')
def py.mono{C:bX}{S:Tl}{ρ ax:Ren}(h:ρ.le ax){b:Bool}{k k':List Item}(x:py C S ρ b k k'):py C S ax b k k':=by
 induction x with
 |nil=>exact .nil
 |stop=>exact .stop
 |cons hi _ ih=>exact .cons (hi.mono h) ih
def kM.mono{S:Tl}{ρ ax:Ren}(h:ρ.le ax){b:Bool}{k k':List È}(x:kM S ρ b k k'):kM S ax b k k':=by
 induction x with
 |nil=>exact .nil
 |stop=>exact .stop
 |cons hi _ ih=>exact .cons (hi.mono h) ih
def kM.app{S:Tl}{ρ:Ren}{m m' k k':List È}(h:gR (uD ρ) m m')(x:kM S ρ b k k'):kM S ρ b (m++k) (m'++k'):=by
 induction h with
 |nil=>exact x
 |cons hd _ ih=>exact .cons hd ih
inductive LM:FrameMode->Prop
 |run:LM .run
 |returning:LM .returning
structure Fit(C:bX)(K:CallKind)(b:Bool)(f:Â)(r:Option Nat)(m:FrameMode)(fl:CallKind):Prop where
 ok:b=χ->r=ν->C.ok f=θ
 base:b=θ->r=ν
 round:r≠ν->m=.run
 kind:b=χ->fl=.normal
 early:(fl==.early)=χ
 DJ:b=θ->fl=K
inductive eo(C:bX)(S:Tl)(ρ:Ren)(b:Bool):Ϛ->Ϛ->Prop
 |mk (f:Â) {t t':Array υ} (ht:aV ρ t t') {k k':List Item} (hk:py C S ρ b k k') {d d':List È} (hd:kM S ρ b d d')
   {m:FrameMode} (hm:LM m) {r r':Option Nat} (hr:fK ρ r r') {fl:CallKind} (hf:Fit C S.kind b f r m fl):eo C S ρ b ⟨f,t,k,d,m,.normal,r⟩ ⟨f,t',k',d',m,fl,r'⟩
def eo.mono{C:bX}{S:Tl}{ρ ax:Ren}(h:ρ.le ax){q:Bool}{a b:Ϛ}(x:eo C S ρ q a b):eo C S ax q a b:=by
 cases x with
 |mk f ht hk hd hm hr hf=>
  refine .mk f (ht.mono h) (hk.mono h) (hd.mono h) hm ?_ hf
  cases hr with
  |none=>exact .none
  |some hr=>exact .some (h _ _ hr)
inductive Below(C:bX)(S:Tl)(ρ:Ren):Bool->List Ϛ->List Ϛ->Prop
 |base:Below C S ρ θ [] S.callers
 |call {b:Bool} {fr ba:Ϛ} {cs bu:List Ϛ} (h:eo C S ρ b fr ba) (aw:fr.todo≠ [.code dt]) (t:Below C S ρ b cs bu):Below C S ρ χ (fr::cs) (ba::bu)
def Below.mono{C:bX}{S:Tl}{ρ ax:Ren}(h:ρ.le ax){q:Bool}{a b:List Ϛ}(x:Below C S ρ q a b):Below C S ax q a b:=by
 induction x with
 |base=>exact .base
 |call hf aw _ ih=>exact .call (hf.mono h) aw ih
abbrev aT(fr:Ϛ)(cs:List Ϛ):ϐ:={frame:=fr,callers:=cs,status:=.running,dying:=ν}
inductive uG(P P':ϕ)(C:bX)(S:Tl)(ρ:Ren):ϐ->ϐ->Prop
 |inside {b:Bool} {fr ba:Ϛ} {cs bu:List Ϛ} (h:eo C S ρ b fr ba) (hL:Below C S ρ b cs bu):uG P P' C S ρ (aT fr cs) (aT ba bu)
 |hole {b:Bool} (f:Â) (hf:C.hole f=θ) {x x':Array υ} (hx:aV ρ x x') {fr ba:Ϛ} {cs bu:List Ϛ} (h:eo C S ρ b fr ba) (aw:fr.todo≠ [.code dt]) (hL:Below C S ρ b cs bu):
   uG P P' C S ρ (aT (Ý P' f x .normal) (fr::cs)) (aT (Ý P f x' .normal) (ba::bu))
section
variable {P:ϕ}{F:Array Å}{C:bX}{S:Tl}{G:Nat->Bool}{ρ:Ren}
def mA.TO{c c':ϖ}(h:Cut C S c c'):c=dt\/∃a b b',c=.seq a b/\c'=.seq a b'/\C.clean a/\Cut C S b b':=by
 cases h with
 |stop=>exact .inl rfl
 |seq ha hb=>exact .inr ⟨_,_,_,rfl,rfl,ha,hb⟩
def D9(h:eo C S ρ q fr ba)(hv:aj ρ v v')(aw:fr.todo≠ [.code dt]):eo C S ρ q (fr.finish v) (ba.finish v'):=by
 cases h with
 |mk f ht hk hd hm hr hf=>
  cases hk with
  |nil=>exact .mk f ht .nil hd hm hr hf
  |stop=>exact absurd rfl aw
  |cons hi hk=>
   cases hi with
   |inRegion id d ops todo hc=>
    cases todo with
    |nil=>exact .mk f ht (.cons (.inRegion id d _ _ hc) hk) hd hm hr hf
    |cons i rest=>
     unfold đ;simp only;cases(ops[i]?).bind (·.dst) with
     |none=>exact .mk f ht (.cons (.inRegion id d _ _ hc) hk) hd hm hr hf
     |some x=>exact .mk f (cf.set ht _ hv) (.cons (.inRegion id d _ _ hc) hk) hd hm hr hf
   |inRangeFunc hl=>exact .mk f ht (.cons (.endRangeFunc hl) hk) hd hm hr hf
   |beginRound=>exact .mk f ht hk hd hm hr hf
   |code c hc=>exact .mk f ht (.cons (.code c hc) hk) hd hm hr hf
   |cut hc=>exact .mk f ht (.cons (.cut hc) hk) hd hm hr hf
   |inBlock id=>exact .mk f ht (.cons (.inBlock id) hk) hd hm hr hf
   |inLoop c hc=>exact .mk f ht (.cons (.inLoop c hc) hk) hd hm hr hf
   |inScope c hc=>exact .mk f ht (.cons (.inScope c hc) hk) hd hm hr hf
   |endRangeFunc hl=>exact .mk f ht (.cons (.endRangeFunc hl) hk) hd hm hr hf
def aeX(E:Env P F C G)(f:Â)(hf:C.ok f=θ){x x':Array υ}(hx:aV ρ x x'):eo C S ρ χ (Ý (tw P F) f x .normal) (Ý P f x' .normal):=by
 obtain⟨fn,c,h1,h2,h3,h4,h5⟩:=E.get f hf;have e1:(tw P F).funcs[f]?=φ fn:=h1;unfold Ý;simp only[e1,h2,h3,Option.map_some,Option.bind_some,Option.getD_some];rw[<-hx.1];exact .mk f (hx.append (cf.refl λa ha=>by rw[(Aav.1 ha).2];exact .undef)) (.cons (.code c ((E.clean c).2 h4)) .nil) .nil .run .none ⟨λ_ _=>hf,by simp,by simp,λ_=>rfl,rfl,λh=>by simp at h⟩
def Ec{t:Array υ}{f:Â}{k k':List Item}{d d':List È}{m:FrameMode}{r r':Option Nat}{kd fl:CallKind}(hG:∀g,G g=θ->ρ g g)(ht:aV ρ t t'):
 re G ρ (Þ ⟨f,t,k,d,m,kd,r⟩) (Þ ⟨f,t',k',d',m,fl,r'⟩):=by
 intro x hx;cases x with
 |tmp t=>exact cf.getD ht _ .undef
 |const v=>exact(Uf 10 hx).rel ρ
 |global g=>exact .ptr ⟨hG g hx,rfl,rfl⟩
 |func f=>exact .func (.func f) rfl (by simp) rfl (by simp)
def Plain(g:ϐ):Prop:=(∃fr cs,g=aT fr cs)/\∀ch,g.frame.mode≠ .panicking ch
def dO(P:ϕ)(F:Array Å)(C:bX)(S:Tl)(ρ:Ren)(w w':Ψ)(s s':ý):Prop:=
 ∀dP aa es,s=.go dP aa es->Plain dP->∃bM eB aF es',s'=.go eB aF es'/\uG P (tw P F) C S bM dP eB/\cg C bM aa aF/\Trans ρ bM w w' aa aF/\∀e∈es',rf bM w e
def dO.pure(hw:iP C ρ w w')(h:uG P (tw P F) C S ρ g g'):dO P F C S ρ w w' (.go g w es) (.go g' w' #[]):=by
 intro dP aa es e _;cases e;exact⟨ρ,_,_,_,rfl,h,hw.core,Trans.refl ..,by simp⟩
def dO.ended{w w' au:Ψ}{o:Outcome}{es:Array Ñ}{s':ý}:dO P F C S ρ w w' (.ended o au es) s':=by
 intro dP aa es e;cases e
def mem_seen(h:e∈seen p fn es):e∈es:=by
 unfold seen at h;simp only at h;rw[<-Aar] at h;have:∀(l:List Ñ) (q:Bool) (kept:Array Ñ),e∈(l.foldl (init:=(q,kept)) λ(x:Bool×Array Ñ) e=>
  match x with
  | (q,kept)=>match e.loc with
    | .mark (.extern f)=>((p.funcs[f]?).any (·.norace),kept)
    |_=>(q,if q && !e.sync then kept else kept.push e)).2->e∈l\/e∈kept:=by
  intro l;induction l with
  |nil=>intro q kept h;exact .inr h
  |cons a l ih=>
   intro q kept h;simp only[List.foldl_cons] at h;split at h
   ·rcases ih _ _ h with h|h
    ·exact .inl (by simp[h])
    ·exact .inr h
   ·rcases ih _ _ h with h|h
    ·exact .inl (by simp[h])
    ·split at h
     ·exact .inr h
     ·rcases Array.mem_push.1 h with h|h
      ·exact .inr h
      ·exact .inl (by simp[h])
 rcases this _ _ _ h with h|h
 ·simpa using h
 ·simp at h
end
def raise_mode(fr:Ϛ)(vs:List Abt):∃ch,(fr.raise vs).mode=.panicking ch:=by
 unfold Ack;split<;>exact⟨_,rfl⟩
def L4{es':Array Ñ}{s:ý}(h:ß es s=.go g w es'):∃e,s=.go g w e:=by
 cases s<;>simp only[ß,reduceCtorEq,ħ] at h
 obtain⟨rfl,rfl,_⟩:=h;exact⟨_,rfl⟩
section
variable {P:ϕ}{F:Array Å}{C:bX}{S:Tl}{G:Nat->Bool}{ρ:Ren}
def aeQ(E:Env P F C G)(fr:Ϛ)(cs:List Ϛ)(d:Option Dying)(g:Nat)(w:Ψ):∃o w' es,early (tw P F) fr cs d g w=.ended o w' es:=by
 unfold early;simp only[E.ahead,E.steps g,Aa4,Ð,if_false];exact⟨_,_,_,rfl⟩
def aeV{d:Option Dying}(h:endFatal p fr cs d m w=.go g aa es):∀fr cs,g≠aT fr cs:=by
 unfold endFatal at h;simp only at h;split at h
 ·unfold dieOf at h
  simp only[ħ] at h;obtain⟨rfl,_⟩:=h;intro fr cs e;simp at e
 ·cases h
 ·cases h
def aeW(h:endThrow fr m w=.go g aa es):∀fr cs,g≠aT fr cs:=by
 unfold endThrow dieOf at h;simp only[ħ] at h;obtain⟨rfl,_⟩:=h;intro fr cs e;simp at e
def Ma(E:Env P F C G)(hw:iP C ρ w w')(cq:eo C S ρ q fr ba)(aw:fr.todo≠ [.code dt])(hL:Below C S ρ q cs bu)
 {s':Sem Next}(hs:ep (tw P F) P C ρ (lQ C) s s')(b:Bool):
 dO P F C S ρ w w' (Ò (tw P F) b fr cs ν s w) (Ò P θ ba bu ν s' w'):=by
 intro dP aa es h hg;obtain⟨⟨kS,mJ,rfl⟩,hm⟩:=hg;have key:∃pr:Ę Next×Array Ñ,pr.1=s.run (tw P F) w/\(if b=θ then s.runT (tw P F) w #[] else(s.run (tw P F) w,#[]))=pr:=⟨_,by cases b<;>simp,rfl⟩
 obtain⟨⟨r,es0⟩,e1,e2⟩:=key;unfold Ò at h;simp only[e2] at h;obtain⟨es1,h⟩:=L4 h;simp only at e1;cases hr:s.run (tw P F) w with
 |halt x au=>
  rw[hr] at e1;subst e1;exfalso;cases x with
  |panic v=>
   simp only[ħ,aT,Aco] at h;obtain⟨⟨rfl,_⟩,_⟩:=h;obtain⟨ch,e⟩:=raise_mode fr [{v,recovered:=χ}];exact hm ch e
  |goexit=>
   simp only[ħ,aT,Aco] at h;obtain⟨⟨rfl,_⟩,_⟩:=h;obtain⟨ch,e⟩:=raise_mode fr [goexitEntry];exact hm ch e
  |blocked=>simp[aT] at h
  |waiting=>simp[aT] at h
  |exit=>simp at h
  |fatal m=>exact aeV h _ _ rfl
  |throw m=>exact aeW h _ _ rfl
  |unsupported u=>
   by_cases hu:∃g,u=.initOrder g
   ·obtain⟨g,rfl⟩:=hu
    obtain⟨o,w',es,e⟩:=aeQ E fr cs ν g au;simp only[e] at h;cases h
   ·cases u<;>first| (exact hu ⟨_,rfl⟩) | (simp at h)
  |stuck=>simp at h
 |ok n au=>
  rw[hr] at e1;subst e1;obtain⟨bM,n',eF,eM,k1,k2,k3,k4,k5⟩:=hs ρ ρ.le_refl w w' #[] hw n au hr;have nI:=cq.mono k4.le;have oG:=hL.mono k4.le;have sub:∀e∈seen P ba.fn (if(ba.kind==CallKind.early)=θ then #[] else eM),rf bM w e:=λe he=>by
   have:=mem_seen he;split at this
   ·simp at this
   ·exact k5 e this
  unfold Ò;simp only[if_true,k1,Array.empty_append];cases k2 with
  |value hv=>
   simp only[ħ] at h;obtain⟨e,rfl,_⟩:=h;rw[<-e];exact⟨bM,_,_,_,rfl,.inside (D9 nI hv aw) oG,k3,k4,by simpa using sub⟩
  |skip=>
   simp only[ħ] at h;obtain⟨e,rfl,_⟩:=h;rw[<-e];exact⟨bM,_,_,_,rfl,.inside (D9 nI .undef aw) oG,k3,k4,by simpa using sub⟩
  |enter f hf hx=>
   simp only[ħ] at h;obtain⟨e,rfl,_⟩:=h;rw[<-e];have fin:=uG.inside (P:=P) (P':=tw P F) (aeX (S:=S) E f hf hx) (.call nI aw oG);cases cq with
   |mk f0 ht hk hd VQ E5 Iz=>
    cases hk with
    |nil=>exact⟨bM,_,_,_,rfl,fin,k3,k4,by simpa using sub⟩
    |stop=>exact absurd rfl aw
    |cons hi hk=>cases hi<;>exact⟨bM,_,_,_,rfl,fin,k3,k4,by simpa using sub⟩
  |hole f hf hx=>
   simp only[ħ] at h;obtain⟨e,rfl,_⟩:=h;rw[<-e];have fin:=uG.hole (P:=P) (P':=tw P F) f hf hx nI aw oG;cases cq with
   |mk f0 ht hk hd VQ E5 Iz=>
    cases hk with
    |nil=>exact⟨bM,_,_,_,rfl,fin,k3,k4,by simpa using sub⟩
    |stop=>exact absurd rfl aw
    |cons hi hk=>cases hi<;>exact⟨bM,_,_,_,rfl,fin,k3,k4,by simpa using sub⟩
  |round hl f hx ha hb=>
   simp only[ħ] at h;obtain⟨e,rfl,_⟩:=h;rw[<-e];exact⟨bM,_,_,_,rfl,.inside (.mk f hx (.cons (.code _ ha) (.cons .beginRound (.cons (.code _ hb) .nil))) .nil .run (.some hl) ⟨by simp,by simp,by simp,λ_=>rfl,rfl,λh=>by simp at h⟩) (.call nI aw oG),k3,k4,by simpa using sub⟩
end
end Go.Sim
namespace Go.Sim
open Go
section
variable {P:ϕ}{F:Array Å}{C:bX}{S:Tl}{G:Nat->Bool}{ρ:Ren}
def dO.step{w w' au eF:Ψ}{bM:Ren}(ht:Trans ρ bM w w' au eF){eM es:Array Ñ}(hn:∀e∈eM,rf bM w e){s s':ý}(h:dO P F C S bM au eF s s'):
 dO P F C S ρ w w' (ß es s) (ß eM s'):=by
 intro dP aa es1 e hp;obtain⟨e2,e⟩:=L4 e;obtain⟨Dj,eB,aF,es',h1,h2,h3,h4,h5⟩:=h dP aa e2 e hp;refine⟨Dj,eB,aF,eM++es',by rw[h1];rfl,h2,h3,ht.trans h4,λx hx=>?_⟩
 rcases Aad.1 hx with hx|hx
 ·exact(hn x hx).mono h4.le
 ·exact(h5 x hx).back ht
def dO.vS(hw:iP C ρ w w'){R:Ren->α->β->Prop}{s:Sem α}{s':Sem β}(hs:Sim (tw P F) P C ρ R s s')
 {k:Ę α->ý}{k':Ę β->ý}(hh:∀h au g aa es,k (.halt h au)=.go g aa es->¬Plain g)
 (hk:∀bM au eF a b,ρ.le bM->iP C bM au eF->R bM a b->dO P F C S bM au eF (k (.ok a au)) (k' (.ok b eF))):
 dO P F C S ρ w w' (ß (seen (tw P F) fn (s.runT (tw P F) w #[]).2) (k (s.runT (tw P F) w #[]).1)) (ß (seen P fn (s'.runT P w' #[]).2) (k' (s'.runT P w' #[]).1)):=by
 rw[Ady];cases hr:s.run (tw P F) w with
 |halt x au=>
  intro dP aa es e hp;obtain⟨e2,e⟩:=L4 e;exact(hh _ _ _ _ _ e hp).elim
 |ok a au=>
  obtain⟨bM,b,eF,eM,k1,k2,k3,k4,k5⟩:=hs ρ ρ.le_refl w w' #[] hw a au hr;rw[k1];exact dO.step k4 (λe he=>k5 e (by simpa using mem_seen he)) (hk bM au eF a b k4.le k3 k2)
def TT(hw:iP C ρ w w')(cq:eo C S ρ χ fr ba)(hL:Below C S ρ χ cs bu)(hv:aj ρ v v')(m m':Bool):
 dO P F C S ρ w w' (İ (tw P F) m fr cs ν v w) (İ P m' ba bu ν v' w'):=by
 cases cq with
 |mk f ht hk hd hm hr hf=>
  cases hL with
  |call hq aw hL=>
   have:=hf.kind rfl;subst this;exact dO.pure hw (.inside (D9 hq hv aw) hL)
def afC(id:Nat){k k':List Item}(h:py C S ρ b k k'):(exitTo id k=ν/\(b=χ->exitTo id k'=ν))\/∃k₁ CK,exitTo id k=φ k₁/\exitTo id k'=φ CK/\py C S ρ b k₁ CK:=by
 induction h with
 |nil=>exact .inl ⟨rfl,λ_=>rfl⟩
 |stop=>exact .inl ⟨rfl,λh=>by cases h⟩
 |cons hi hk ih=>
  cases hi<;>try exact ih
  case inBlock id'=>
   unfold exitTo;split
   ·exact .inr ⟨_,_,rfl,rfl,hk⟩
   ·exact ih
def aq5(ops:Array Oper){t:Array υ}(ht:aV ρ t t'):yielded ops t=yielded ops t':=by
 funext j;unfold yielded;cases(ops[j]?).bind (·.dst) with
 |none=>rfl
 |some x=>
  simp only[Option.bind_some];rcases ht.get? x with⟨e1,e2⟩ | ⟨a,b,e1,e2,hab⟩
  ·rw[e1,e2]
  ·rw[e1,e2]
   cases hab<;>try rfl
   case junk h hb _=>
    cases b<;>first|rfl|exact absurd rfl (hb _)
def amo(p:ϕ)(fr:Ϛ)(cs:List Ϛ)(dy:Option Dying)(w:Ψ):∃o aa es,ģ p fr cs dy cQ w=.ended o aa es:=by
 unfold ģ cQ;simp[Go.invoke,Go.stuck,Ϥ,bind,ϫ,ß]
def aqm(E:Env P F C G)(hw:iP C ρ w w')(cq:eo C S ρ b fr ba)(rT:fr.mode=.returning)(hL:Below C S ρ b cs bu)(m m':Bool):
 dO P F C S ρ w w' (Ï (tw P F) m fr cs ν w) (Ï P m' ba bu ν w'):=by
 cases cq with
 | @mk f t t' ht k k' hk d d' hd md hm ro jE hr fl hf=>
   simp only at rT;subst rT;have E6:ro=ν:=by
    rcases Aed ro with e| ⟨x,e⟩
    ·exact e
    ·exact absurd (hf.round (by simp[e])) (by simp)
   subst E6;cases hd with
   |nil=>
    obtain⟨fn,cd,h1,h2,h3,h4,h5⟩:=E.get f (hf.ok rfl rfl);have e1:(tw P F).funcs[f]?=φ fn:=h1;unfold Ï;simp only[e1,h2];refine dO.vS hw (Sim.results fn ht) (k:=λr=>match r with
     | .ok v w=>İ (tw P F) m _ cs ν v w
     | .halt (.stuck s) w=>.ended (.stuck s _) w
     | .halt _ w=>.ended (.stuck "return: the result variables cannot be read" _) w) (k':=λr=>match r with
     | .ok v w=>İ P m' _ bu ν v w
     | .halt (.stuck s) w=>.ended (.stuck s _) w
     | .halt _ w=>.ended (.stuck "return: the result variables cannot be read" _) w) (λh au g aa es e=>?_) λbM au eF a b l2 eL hab=>?_
    ·cases h<;>simp at e
    ·exact TT eL ((eo.mk f ht hk .nil hm hr hf).mono l2) (hL.mono l2) hab m m'
   |stop=>
    intro dP aa es e hp;obtain⟨o,au,arJ,h⟩:=amo (tw P F) (⟨f,t,k,[],.returning,.normal,ν⟩) cs ν w;have e':ģ (tw P F) (⟨f,t,k,[],.returning,.normal,ν⟩) cs ν cQ w=.go dP aa es:=e;rw[h] at e';cases e'
   |cons hi hd=>
    cases hi with
    |collected hb=>
     refine dO.vS hw (Sim.takeDeferred hb) (k:=λr=>match r with
      | .ok calls w=>.go {frame:={ (⟨f,t,k,_,.returning,.normal,ν⟩:Ϛ) with defers:=calls++_},callers:=cs,status:=.running,dying:=ν} w
      | .halt _ w=>.ended (.stuck "the deferred calls of a range-over-func loop have been taken" _) w) (k':=λr=>match r with
      | .ok calls w=>.go {frame:={ (⟨f,t',k',_,.returning,fl,jE⟩:Ϛ) with defers:=calls++_},callers:=bu,status:=.running,dying:=ν} w
      | .halt _ w=>.ended (.stuck "the deferred calls of a range-over-func loop have been taken" _) w) (λh au g aa es e=>?_) λbM au eF a b l2 eL hab=>?_
     ·simp at e
     ·obtain⟨rfl,rfl⟩:=hab
      exact dO.pure eL (.inside ((eo.mk f ht hk hd hm hr hf).mono l2) (hL.mono l2))
def FM(p:ϕ)(main:Bool)(fr:Ϛ)(callers:List Ϛ)(w:Ψ)(jump:Option ϖ):ý:=
 match fr.roundOf with
 |none=>if(match jump with|none|some .ret=>θ|_=>χ)=θ then .go {frame:={fr with mode:=.returning},callers,status:=.running,dying:=ν} w else .ended (.stuck "exit, goto: no such block or label" (fr.pos p)) w
 |some l=>
  ß (seen p fr.fn ((Adf l jump).runT p w #[]).2)<|match((Adf l jump).runT p w #[]).1 with
  | .ok v w=>İ p main fr callers ν v w
  | .halt _ w=>.ended (.stuck "range over a function: no such loop" (fr.pos p)) w
def Pz(hw:iP C ρ w w')(cq:eo C S ρ b fr ba)(hL:Below C S ρ b cs bu)(m m':Bool)(j:Option ϖ)(hj:∀c,j=φ c->C.clean c):
 dO P F C S ρ w w' (FM (tw P F) m fr cs w j) (FM P m' ba bu w' j):=by
 have ie:=cq;cases cq with
 | @mk f t t' ht k k' hk d d' hd md hm ro jE hr fl hf=>
   unfold FM;cases hr with
   |none=>
    simp only;split
    ·exact dO.pure hw (.inside (.mk f ht hk hd .returning .none ⟨hf.ok,hf.base,by simp,hf.kind,hf.early,hf.DJ⟩) hL)
    ·exact dO.pure hw (.inside (.mk f ht hk hd .returning .none ⟨hf.ok,hf.base,by simp,hf.kind,hf.early,hf.DJ⟩) hL)
    ·exact dO.ended
   |some hl=>
    have hb:b=χ:=by
     cases b with
     |false=>rfl
     |true=>exact absurd (hf.base rfl) (by simp)
    subst hb;simp only;refine dO.vS hw (Sim.endRound hl j hj) (k:=λr=>match r with
     | .ok v w=>İ (tw P F) m _ cs ν v w
     | .halt _ w=>.ended (.stuck "range over a function: no such loop" _) w) (k':=λr=>match r with
     | .ok v w=>İ P m' _ bu ν v w
     | .halt _ w=>.ended (.stuck "range over a function: no such loop" _) w) (λh au g aa es e=>?_) λbM au eF a b l2 eL hab=>?_
    ·simp at e
    ·exact TT eL (ie.mono l2) (hL.mono l2) hab m m'
def afz(E:Env P F C G)(hG:∀g,G g=θ->ρ g g)(hw:iP C ρ w w')(cq:eo C S ρ q fr ba)(rT:fr.mode=.run)(hL:Below C S ρ q cs bu)(m m' b:Bool):
 dO P F C S ρ w w' (ϱ (tw P F) m b fr cs ν w) (ϱ P m' θ ba bu ν w'):=by
 have ie:=cq;cases cq with
 | @mk f t t' ht k k' hk d d' hd md hm ro jE hr fl hf=>
   simp only at rT;subst rT;have cl:∀ {c},C.clean c->cC P G c=θ:=λh=>(E.clean _).1 h
   have lc:∀ {c},cC P G c=θ->C.clean c:=λh=>(E.clean _).2 h
   have aiB:∀c,φ Code.ret=φ c->C.clean c:=λc e=>by cases e;exact lc rfl
   have pu:∀ {k₁ CK:List Item},py C S ρ q k₁ CK->dO P F C S ρ w w' (.go (aT ⟨f,t,k₁,d,.run,.normal,ro⟩ cs) w) (.go (aT ⟨f,t',CK,d',.run,fl,jE⟩ bu) w'):=
    λOm=>dO.pure hw (.inside (.mk f ht Om hd .run hr hf) hL)
   have ev:∀ {k k':List Item} {d d':List È} {r r':Option Nat},re G ρ (Þ ⟨f,t,k,d,.run,.normal,r⟩) (Þ ⟨f,t',k',d',.run,fl,r'⟩):=Ec hG ht
   cases hk with
   |nil=>exact Pz hw ie hL m m' ν (by simp)
   |stop=>exact dO.ended
   | @cons _ i i' k k' hi hk=>
     cases hi with
     |inBlock id=>exact pu hk
     |inScope c hc=>exact pu hk
     |inLoop c hc=>exact pu (.cons (.code c hc) (.cons (.inLoop c hc) hk))
     |inRangeFunc hl=>exact dO.ended
     |beginRound=>
      refine Ma E hw ie (by simp) hL (Sim.Q2 ?_) b
      cases hr with
      |none=>exact Sim.stuck
      |some hl=>exact Sim.beginRound hl
     |endRangeFunc hl=>
      refine dO.vS hw (Sim.endLoop hl) (k:=λr=>match r with
       | .ok jump w=>.go (aT ⟨f,t,(jump.map Item.code).toList++k,d,.run,.normal,ro⟩ cs) w
       | .halt (.panic v) w=>.go (aT ((⟨f,t,_,d,.run,.normal,ro⟩:Ϛ).raise [{v,recovered:=χ}]) cs) w
       | .halt _ w=>.ended (.stuck "range over a function: no such loop" _) w) (k':=λr=>match r with
       | .ok jump w=>.go (aT ⟨f,t',(jump.map Item.code).toList++k',d',.run,fl,jE⟩ bu) w
       | .halt (.panic v) w=>.go (aT ((⟨f,t',_,d',.run,fl,jE⟩:Ϛ).raise [{v,recovered:=χ}]) bu) w
       | .halt _ w=>.ended (.stuck "range over a function: no such loop" _) w) (λh au g aa es e hp=>?_) λbM au eF a b l2 eL hab=>?_
      ·cases h<;>simp only[reduceCtorEq,ħ] at e
       obtain⟨rfl,_⟩:=e;obtain⟨ch,e⟩:=raise_mode ⟨f,t,_,d,.run,.normal,ro⟩ _;exact hp.2 ch e
      ·obtain⟨rfl,hc⟩:=hab
       have eD:=hk.mono l2;cases a with
       |none=>exact dO.pure eL (.inside ((eo.mk f ht hk hd .run hr hf).mono l2) (hL.mono l2))
       |some cd=>exact dO.pure eL (.inside ((eo.mk f ht (.cons (.code cd (hc cd rfl)) hk) hd .run hr hf).mono l2) (hL.mono l2))
     |inRegion id dr ops todo hc=>
      cases todo with
      |nil=>exact pu hk
      |cons i rest=>
       have Ag:ops.all (k8 P G)=θ:=cl hc;unfold ϱ;simp only[aq5 ops ht];split
       ·unfold stepG.oper
        simp only[Frame.oper?];cases ho:ops[i]? with
        |none=>exact dO.ended
        |some o=>
         have ma:o∈ops:= ļ ho;have jy:k8 P G o=θ:=by simpa using Ģ.1 Ag o ma
         have oN:∀q,o.op≠ .defer q:=λq e=>by simp[k8,jA,e] at jy
         have hs:=ep.execOp E o jy (ev (k:=.inRegion ops (i::rest)::k) (k':=.inRegion ops (i::rest)::k') (d:=d) (d':=d') (r:=ro) (r':=jE));have:=Ma E hw ie (by simp) hL hs b
         simp only;cases hr with
         |none=>exact this
         |some hl=>
          cases ag:o.op<;>first|exact absurd ag (oN _) |exact this
       ·exact dO.pure hw (.inside (D9 ie .undef (by simp)) hL)
     |cut hc=>
      rcases mA.TO hc with rfl| ⟨x,y,y',rfl,rfl,ha,hb⟩
      ·exact dO.ended
      ·exact pu (.cons (.code x ha) (.cons (.cut hb) hk))
     |code cd hc=>
      have fV:=cl hc;cases cd with
      |skip=>exact pu hk
      |label l=>exact pu hk
      |ret=>exact Pz hw ie hL m m' (φ .ret) aiB
      |seq x y=>
       simp only[cC,ϩ] at fV;exact pu (.cons (.code x (lc fV.1)) (.cons (.code y (lc fV.2)) hk))
      |cond x y z=>
       simp only[cC,ϩ] at fV;have hx:=ev (k:=.code (.cond x y z)::k) (k':=.code (.cond x y z)::k') (d:=d) (d':=d') (r:=ro) (r':=jE) x fV.1.1;have fin:∀ {v1 v2:υ},aj ρ v1 v2->dO P F C S ρ w w'
        (match v1 with
          | .bool q=>.go (aT ⟨f,t,.code (if q then y else z)::k,d,.run,.normal,ro⟩ cs) w
          |_=>.ended (.stuck "cond: bool expected" (Frame.pos (tw P F) ⟨f,t,.code (.cond x y z)::k,d,.run,.normal,ro⟩)) w)
        (match v2 with
          | .bool q=>.go (aT ⟨f,t',.code (if q then y else z)::k',d',.run,fl,jE⟩ bu) w'
          |_=>.ended (.stuck "cond: bool expected" (Frame.pos P ⟨f,t',.code (.cond x y z)::k',d',.run,fl,jE⟩)) w'):=by
        intro v1 v2 hv;cases hv;case bool q=>cases q with
         |false=>exact pu (.cons (.code _ (lc fV.2)) hk)
         |true=>exact pu (.cons (.code _ (lc fV.1.2)) hk)
        all_goals exact dO.ended
       exact fin hx
      |block id x=>exact pu (.cons (.code x (lc fV)) (.cons (.inBlock id) hk))
      |loop x=>exact pu (.cons (.code x (lc fV)) (.cons (.inLoop x (lc fV)) hk))
      |scope x=>exact pu (.cons (.code x (lc fV)) (.cons (.inScope x (lc fV)) hk))
      |exit id=>
       have hx:=afC (C:=C) (S:=S) (ρ:=ρ) id hk;have:=Pz (P:=P) (F:=F) hw ie hL m m' (φ (.exit id)) (λc e=>by cases e;exact hc)
       unfold ϱ;simp only;rcases hx with⟨e1,e2⟩ | ⟨k₁,CK,e1,e2,Om⟩
       ·rw[e1]
        cases q with
        |false=>rw[e2 rfl];exact this
        |true=>
         have E6:=hf.base rfl;subst E6;cases hr;exact dO.ended
       ·rw[e1,e2];exact pu Om
      |region id ops dr=>
       unfold ϱ;simp only;cases dr with
       |false=>exact pu (.cons (.inRegion id χ ops _ hc) hk)
       |true=>
        simp only[Aa4,Ð,if_false];cases hq:(Go.choose (.order f id)).run (tw P F) w with
        |halt h au=>exact dO.ended
        |ok n au=>
         obtain⟨bM,n',eF,eM,k1,rfl,k3,k4,k5⟩:=Sim.choose (P':=tw P F) (P:=P) (C:=C) (ρ:=ρ) (.order f id) ρ ρ.le_refl w w' #[] hw n au hq;have vG:(Go.choose (.order f id)).run P w'=.ok n eF:=by rw[<-Ady P _ w' #[],k1]
         simp only[vG];have:=dO.step (es:=#[]) (eM:=#[]) (P:=P) (F:=F) k4 (by simp) (dO.pure (es:=#[]) k3 (.inside ((eo.mk f ht (.cons (.inRegion id θ ops (Region.schedule (P.follows .mixedOrders) ops n) hc) hk) hd .run hr hf).mono k4.le) (hL.mono k4.le)))
         exact this
      |rangeFunc g ps x y=>
       simp only[cC,ϩ] at fV;refine dO.vS hw (Sim.enterLoop f ht ps (lc fV.1.2) (lc fV.2) hr) (k:=λr=>match r with
        | .ok (l,mark) w=>Ò (tw P F) b ⟨f,t,.inRangeFunc l::k,mark++d,.run,.normal,ro⟩ cs ν
          (do let d <-resolve (Þ ⟨f,t,.inRangeFunc l::k,mark++d,.run,.normal,ro⟩) {callee:=.value g,args:=#[.const (.func (.yield l) #[] #[])],argTypes:=#[]} 0;Go.invoke d.target d.args) w
        | .halt _ w=>.ended (.stuck "range over a function: no such loop" _) w) (k':=λr=>match r with
        | .ok (l,mark) w=>Ò P θ ⟨f,t',.inRangeFunc l::k',mark++d',.run,fl,jE⟩ bu ν
          (do let d <-resolve (Þ ⟨f,t',.inRangeFunc l::k',mark++d',.run,fl,jE⟩) {callee:=.value g,args:=#[.const (.func (.yield l) #[] #[])],argTypes:=#[]} 0;Go.invoke d.target d.args) w
        | .halt _ w=>.ended (.stuck "range over a function: no such loop" _) w) (λh au g aa es e=>?_) λbM au eF x1 x2 l2 eL hab=>?_
       ·simp at e
       ·obtain⟨l1,Jp⟩:=x1
        obtain⟨xY,Jq⟩:=x2;obtain⟨hl,Cj⟩:=hab;refine Ma E eL (.mk f (ht.mono l2) (.cons (.inRangeFunc hl) (hk.mono l2)) (kM.app Cj (hd.mono l2)) .run ?_ hf) (by simp) (hL.mono l2) (Sim.ml ?_) b
        ·cases hr with
         |none=>exact .none
         |some h=>exact .some (l2 _ _ h)
        ·have he:re G bM (Þ ⟨f,t,.inRangeFunc l1::k,Jp++d,.run,.normal,ro⟩) (Þ ⟨f,t',.inRangeFunc xY::k',Jq++d',.run,fl,jE⟩):=Ec (λg hg=>l2 _ _ (hG g hg)) (ht.mono l2)
         have hy:aV bM #[Value.func (.yield l1) #[] #[]] #[Value.func (.yield xY) #[] #[]]:=cf.one (R:=aj bM) (aj.func (.yield hl) rfl (by simp) rfl (by simp))
         exact Sim.CG E (he g fV.1.1) (by simpa [Þ] using hy)
      |goto l=>simp[cC] at fV
      |refuse s=>simp[cC] at fV
def YS(E:Env P F C G)(hG:∀g,G g=θ->ρ g g)(hw:iP C ρ w w')(cq:eo C S ρ q fr ba)(hL:Below C S ρ q cs bu)(m m' b:Bool)
 (st st':GoStatus)(of of':Option (Array CommCase×CommShape)):
 dO P F C S ρ w w' (Ϙ (tw P F) m ⟨fr,cs,st,ν,of⟩ w b) (Ϙ P m' ⟨ba,bu,st',ν,of'⟩ w' θ):=by
 have ie:=cq;cases cq with
 | @mk f t t' ht k k' hk d d' hd md hm ro jE hr fl hf=>
   cases hm with
   |run=>exact afz E hG hw ie rfl hL m m' b
   |returning=>exact aqm E hw ie rfl hL m m'
end
end Go.Sim
namespace Go.Sim
open Go
def qX:Obj->Prop
 | .deferred (φ (_::_))=>True
 |_=>False
def yX:Halt->Prop
 | .panic _| .stuck _| .unsupported _=>True
 |_=>False
def az(p:ϕ){α:Type}:Sem α->Prop
 | .pure _=>True
 | .load _ _ k=>∀v,az p (k v)
 | .store _ _ _ k=>az p k
 | .new o k=>¬qX o/\∀r,az p (k r)
 | .shape _ k=>∀x,az p (k x)
 | .freeze _ _ k=>az p k
 | .frozen _ k=>∀x,az p (k x)
 | .getObj _ k=>∀o,az p (k o)
 | .setObj _ o k=>¬qX o/\az p k
 | .choose _ k=>∀n,az p (k n)
 | .sys _ _=>False
 | .program k=>az p (k p)
 | .mark _ k=>az p k
 | .halt h=>yX h
def az.bind{p:ϕ}{α β:Type}{s:Sem α}{f:α->Sem β}(h:az p s)(hf:∀a,az p (f a)):az p (s.bind f):=by
 induction s with
 |pure a=>exact hf a
 |load m a k ih=>exactλv=>ih v (h v)
 |store m a v k ih=>exact ih h
 |new o k ih=>exact⟨h.1,λr=>ih r (h.2 r)⟩
 |shape r k ih=>exactλv=>ih v (h v)
 |freeze a n k ih=>exact ih h
 |frozen a k ih=>exactλv=>ih v (h v)
 |getObj r k ih=>exactλv=>ih v (h v)
 |setObj r o k ih=>exact⟨h.1,ih h.2⟩
 |choose q k ih=>exactλv=>ih v (h v)
 |sys c k ih=>exact h
 |program k ih=>exact ih p h
 |mark m k ih=>exact ih h
 |halt h=>exact h
def az.bind'{s:Sem α}{f:α->Sem β}(h:az p s)(hf:∀a,az p (f a)):az p (s>>=f):=az.bind h hf
def bq(w:Ψ)(T:Tape):Ψ:={w with tape:=T}
def anD(T:Tape):Ę α->Ę α
 | .ok a w=>.ok a (bq w T)
 | .halt h w=>.halt h (bq w T)
def Dh:Ę α->Ψ
 | .ok _ w=>w
 | .halt _ w=>w
def bO(h:Array Obj):Prop:=∀o∈h,¬qX o
def bO.push{h:Array Obj}(x:bO h){o:Obj}(ho:¬qX o):bO (h.push o):=λa ha=>by
 rcases Array.mem_push.1 ha with ha|rfl
 ·exact x a ha
 ·exact ho
def bO.set{h:Array Obj}(x:bO h)(i:Nat)(ho:¬qX o):bO (h.setIfInBounds i o):=λa ha=>by
 rcases Array.mem_or_eq_of_mem_setIfInBounds ha with ha|rfl
 ·exact x a ha
 ·exact ho
def bO.modify{h:Array Obj}(x:bO h)(i:Nat){f:Obj->Obj}(hf:∀o,¬qX o->¬qX (f o)):bO (h.modify i f):=λa ha=>by
 obtain⟨j,hj,rfl⟩:=Aay.1 ha;simp only[Aau];split
 ·exact hf _ (x _ (Aab _))
 ·exact x _ (Aab _)
def bO.get{h:Array Obj}(x:bO h)(ho:h[i]?=φ o):¬qX o:=x o (ļ ho)
def aqp(p:ϕ)(w:Ψ)(at_:ϝ)(u:ό)(k:ϝ)(v:υ)(a:Bool):∃r:Except String (Array Obj×List ϝ),(∀x,r=.ok x->bO w.heap->bO x.1)/\∀T d,({w with tape:=T,drawn:=d}:Ψ).viewStore p at_ u k v a=match r with| .ok (h,x)=>.ok ({w with heap:=h,tape:=T,drawn:=d},x) | .error e=>.error e:=by
 cases h:w.viewStore p at_ u k v a with
 |error e=>
  refine⟨.error e,(by simp),λT d=>?_⟩
  unfold Ad5 at h |-
  have:({w with tape:=T,drawn:=d}:Ψ).seen p at_ u k a=w.seen p at_ u k a:=rfl
  rw[this];simp only[bind,Except.bind,pure,Except.pure] at h |-
  (repeat' split at h)<;>simp_all
 |ok r=>
  refine⟨.ok (r.1.heap,r.2),λx hx hn=>?_,λT d=>?_⟩
  ·cases hx
   unfold Ad5 at h;simp only[bind,Except.bind,pure,Except.pure] at h
   (repeat' split at h)<;>first| (cases h;done) | (cases h;exact hn.set _ (λh=>h))
  ·unfold Ad5 at h |-
   have:({w with tape:=T,drawn:=d}:Ψ).seen p at_ u k a=w.seen p at_ u k a:=rfl
   rw[this];simp only[bind,Except.bind,pure,Except.pure] at h |-
   (repeat' split at h)<;>first| (cases h;done) | (cases h;simp_all)
def afI(p:ϕ)(w:Ψ)(a:ϝ)(v:υ)(b:Bool):∃r:Except Halt (Array Obj×List ϝ),(∀x,r=.ok x->bO w.heap->bO x.1)/\∀T d,({w with tape:=T,drawn:=d}:Ψ).farStore p a v b=match r with| .ok (h,x)=>.ok ({w with heap:=h,tape:=T,drawn:=d},x) | .error e=>.error e:=by
 unfold Ad2;simp only;cases h:w.heap[a.block]? with
 |none=>exact⟨.error (w.noCell a "store: no such cell"),(by simp),λT d=>by simp only[Ad0,h]⟩
 |some o=>
  cases o;case view at_ u=>
   obtain⟨r,hn,hr⟩:=aqp p w at_ u a v b;refine⟨match r with| .ok x=>.ok x| .error why=>.error (.unsupported (.unsafePointer why)),λx hx=>?_,λT d=>?_⟩
   ·cases r with
    |ok y=>cases hx;exact hn _ rfl
    |error=>cases hx
   ·simp only[hr]
    cases r<;>rfl
  all_goals exact⟨.error (w.noCell a "store: no such cell"),(by simp),λT d=>by simp only[Ad0,h]⟩
def al8(w:Ψ)(a:ϝ)(v:υ)(h:bO w.heap):bO (w.setCell a v).heap:=by
 unfold ï;simp only;refine bO.modify h _ ?_
 intro o ho;cases o<;>exact ho
def run_store{m:Mode}{k:Sem α}(w:Ψ):(∃h,∀T d,(Ń m a v k).run p {w with tape:=T,drawn:=d}=.halt h {w with tape:=T,drawn:=d})\/
 ∃hp,(bO w.heap->bO hp)/\∀T d,(Ń m a v k).run p {w with tape:=T,drawn:=d}=k.run p {w with heap:=hp,tape:=T,drawn:=d}:=by
 have key:(∃h,∀T d,(match({w with tape:=T,drawn:=d}:Ψ).cell? a with
  |some _=>if({w with tape:=T,drawn:=d}:Ψ).frozen? a then(.halt (.unsupported (.unsafePointer "a write to bytes that a string shares")) {w with tape:=T,drawn:=d}:Ę α) else k.run p (({w with tape:=T,drawn:=d}:Ψ).setCell a v)
  |none=>match({w with tape:=T,drawn:=d}:Ψ).farStore p a v (m==ŷ) with
   | .ok (w,_)=>k.run p w
   | .error h=>(.halt h {w with tape:=T,drawn:=d}:Ę α))=.halt h {w with tape:=T,drawn:=d})\/
  ∃hp,(bO w.heap->bO hp)/\∀T d,(match({w with tape:=T,drawn:=d}:Ψ).cell? a with
   |some _=>if({w with tape:=T,drawn:=d}:Ψ).frozen? a then(.halt (.unsupported (.unsafePointer "a write to bytes that a string shares")) {w with tape:=T,drawn:=d}:Ę α) else k.run p (({w with tape:=T,drawn:=d}:Ψ).setCell a v)
   |none=>match({w with tape:=T,drawn:=d}:Ψ).farStore p a v (m==ŷ) with
    | .ok (w,_)=>k.run p w
    | .error h=>(.halt h {w with tape:=T,drawn:=d}:Ę α))=k.run p {w with heap:=hp,tape:=T,drawn:=d}:=by
  have e1:∀T d,({w with tape:=T,drawn:=d}:Ψ).cell? a= w.cell? a:=λ_ _=>rfl
  have e2:∀T d,({w with tape:=T,drawn:=d}:Ψ).frozen? a= w.frozen? a:=λ_ _=>rfl
  simp only[e1,e2];cases w.cell? a with
  |some x=>
   by_cases hf: w.frozen? a=θ
   ·exact .inl ⟨.unsupported (.unsafePointer "a write to bytes that a string shares"),λT d=>by simp only[hf,if_true]⟩
   ·exact .inr ⟨(w.setCell a v).heap,al8 w a v,λT d=>by simp only[hf];rfl⟩
  |none=>
   obtain⟨r,hn,hr⟩:=afI p w a v (m==ŷ);simp only[hr];cases r with
   |ok x=>exact .inr ⟨x.1,hn x rfl,λT d=>rfl⟩
   |error h=>exact .inl ⟨h,λT d=>rfl⟩
 cases v;case agg x=>exact .inl ⟨_,λT d=>rfl⟩
 case tuple x=>exact .inl ⟨_,λT d=>rfl⟩
 all_goals exact key
def M5(w:Ψ)(a:ϝ)(n:Nat):∃hp,(bO w.heap->bO hp)/\∀T d,({w with tape:=T,drawn:=d}:Ψ).freeze a n={w with heap:=hp,tape:=T,drawn:=d}:=by
 refine⟨(w.freeze a n).heap,λhn=>?_,λT d=>?_⟩
 ·unfold Ad4
  by_cases h:n=0
  ·simpa only[h,if_true] using hn
  ·simp only[h,if_false]
   refine bO.modify hn _ ?_
   intro o ho;cases o<;>exact ho
 unfold Ad4;by_cases h:n=0
 ·simp only[h,if_true]
 ·simp only[h,if_false]
def Yd{s:Sem α}(hs:az p s):∀(w:Ψ),w.drawn<=(Dh (s.run p w)).drawn/\(Dh (s.run p w)).tape=w.tape:=by
 induction s with
 |pure a=>intro w;exact⟨ϊ _,rfl⟩
 |load m a k ih=>
  intro w;simp only[Ϣ]
  (repeat' split)<;>first|exact ih _ (hs _) w|exact⟨ϊ _,rfl⟩
 |store m a v k ih=>
  intro w;rcases run_store (p:=p) (m:=m) (a:=a) (v:=v) (k:=k) w with⟨h,e⟩ | ⟨hp,hn,e⟩
  ·rw[show(Ń m a v k).run p w=_ from e w.tape w.drawn];exact⟨ϊ _,rfl⟩
  ·rw[show(Ń m a v k).run p w=_ from e w.tape w.drawn];exact ih hs {w with heap:=hp}
 |new o k ih=>intro w;exact ih _ (hs.2 _) {w with heap:=w.heap.push o}
 |shape r k ih=>intro w;exact ih _ (hs _) w
 |freeze a n k ih=>
  intro w;obtain⟨hp,hn,e⟩:=M5 w a n;simp only[Ϣ];rw[show w.freeze a n=_ from e w.tape w.drawn]
  exact ih hs {w with heap:=hp}
 |frozen a k ih=>intro w;exact ih _ (hs _) w
 |getObj r k ih=>
  intro w;simp only[Ϣ]
  (repeat' split)<;>first|exact ih _ (hs _) w|exact⟨ϊ _,rfl⟩
 |setObj r o k ih=>
  intro w;simp only[Ϣ]
  (repeat' split)<;>first|exact ih hs.2 {w with heap:=w.heap.setIfInBounds r o} |exact⟨ϊ _,rfl⟩
 |choose q k ih=>
  intro w;simp only[Ϣ];split
  ·exact ih _ (hs _) w
  ·have:=ih (q.cut (w.tape w.drawn q)) (hs _) {w with drawn:=w.drawn+1}
   exact⟨by have:=this.1;simp only at this;omega,this.2⟩
 |sys c k ih=>exact hs.elim
 |program k ih=>intro w;exact ih _ hs w
 |mark m k ih=>intro w;exact ih hs w
 |halt h=>intro w;exact⟨ϊ _,rfl⟩
def an0{s:Sem α}(hs:az p s):∀(w:Ψ),bO w.heap->bO (Dh (s.run p w)).heap:=by
 induction s with
 |pure a=>intro w h;exact h
 |load m a k ih=>
  intro w h;simp only[Ϣ]
  (repeat' split)<;>first|exact ih _ (hs _) w h|exact h
 |store m a v k ih=>
  intro w h0;rcases run_store (p:=p) (m:=m) (a:=a) (v:=v) (k:=k) w with⟨h,e⟩ | ⟨hp,hn,e⟩
  ·rw[show(Ń m a v k).run p w=_ from e w.tape w.drawn];exact h0
  ·rw[show(Ń m a v k).run p w=_ from e w.tape w.drawn];exact ih hs {w with heap:=hp} (hn h0)
 |new o k ih=>intro w h;exact ih _ (hs.2 _) {w with heap:=w.heap.push o} (h.push hs.1)
 |shape r k ih=>intro w h;exact ih _ (hs _) w h
 |freeze a n k ih=>
  intro w h;obtain⟨hp,hn,e⟩:=M5 w a n;simp only[Ϣ];rw[show w.freeze a n=_ from e w.tape w.drawn]
  exact ih hs {w with heap:=hp} (hn h)
 |frozen a k ih=>intro w h;exact ih _ (hs _) w h
 |getObj r k ih=>
  intro w h;simp only[Ϣ]
  (repeat' split)<;>first|exact ih _ (hs _) w h|exact h
 |setObj r o k ih=>
  intro w h;simp only[Ϣ]
  (repeat' split)<;>first|exact ih hs.2 {w with heap:=w.heap.setIfInBounds r o} (h.set _ hs.1) |exact h
 |choose q k ih=>
  intro w h;simp only[Ϣ];split
  ·exact ih _ (hs _) w h
  ·exact ih (q.cut (w.tape w.drawn q)) (hs _) {w with drawn:=w.drawn+1} h
 |sys c k ih=>exact hs.elim
 |program k ih=>intro w h;exact ih _ hs w h
 |mark m k ih=>intro w h;exact ih hs w h
 |halt h=>intro w h;exact h
def Yh{s:Sem α}(hs:az p s):∀(w:Ψ) (T:Tape),(∀j q,w.drawn<=j->j<(Dh (s.run p w)).drawn->T j q=w.tape j q)->s.run p (bq w T)=anD T (s.run p w):=by
 induction s with
 |pure a=>intro w T _;rfl
 |load m a k ih=>
  intro w T hT;simp only[Ϣ] at hT |-
  have e1:(bq w T).cell? a= w.cell? a:=rfl;have e2:(bq w T).farLoad p a (m==ŷ)=w.farLoad p a (m==ŷ):=rfl;rw[e1,e2];cases hc: w.cell? a with
  |some v=>simp only[hc] at hT |-;exact ih _ (hs _) w T hT
  |none=>
   simp only[hc] at hT |-
   cases hf:w.farLoad p a (m==ŷ) with
   |ok x=>simp only[hf] at hT |-;exact ih _ (hs _) w T hT
   |error h=>simp only;rfl
 |store m a v k ih=>
  intro w T hT;rcases run_store (p:=p) (m:=m) (a:=a) (v:=v) (k:=k) w with⟨h,e⟩ | ⟨hp,hn,e⟩
  ·rw[show(Ń m a v k).run p w=_ from e w.tape w.drawn];exact e T w.drawn
  ·have e1:=e w.tape w.drawn
   have e1:(Ń m a v k).run p w=_:=e1;rw[e1] at hT |-
   have e2:(Ń m a v k).run p (bq w T)=_:=e T w.drawn;rw[e2];exact ih hs {w with heap:=hp} T hT
 |new o k ih=>intro w T hT;exact ih _ (hs.2 _) {w with heap:=w.heap.push o} T hT
 |shape r k ih=>intro w T hT;exact ih _ (hs _) w T hT
 |freeze a n k ih=>
  intro w T hT;obtain⟨hp,hn,e⟩:=M5 w a n;simp only[Ϣ] at hT |-
  have e1:w.freeze a n=_:=e w.tape w.drawn;have e2:(bq w T).freeze a n=_:=e T w.drawn;rw[e1] at hT |-
  rw[e2];exact ih hs {w with heap:=hp} T hT
 |frozen a k ih=>intro w T hT;exact ih _ (hs _) w T hT
 |getObj r k ih=>
  intro w T hT;simp only[Ϣ] at hT |-
  show(match w.heap[r]? with
   |some (.cells ..)=>(.halt (.stuck "getObj: a row of cells") (bq w T):Ę α)
   |some o=>(k o).run p (bq w T)
   |none=>.halt (.stuck "getObj: no such block") (bq w T))=_
  cases ho:w.heap[r]? with
  |none=>simp only;rfl
  |some o=>
   simp only[ho] at hT |-
   cases o<;>first|rfl|exact ih _ (hs _) w T hT
 |setObj r o k ih=>
  intro w T hT;simp only[Ϣ] at hT |-
  show(match w.heap[r]? with
   |some (.cells ..)=>(.halt (.stuck "setObj: a row of cells") (bq w T):Ę α)
   |some _=>k.run p { (bq w T) with heap:=w.heap.setIfInBounds r o}
   |none=>.halt (.stuck "setObj: no such block") (bq w T))=_
  cases ho:w.heap[r]? with
  |none=>simp only;rfl
  |some o'=>
   simp only[ho] at hT |-
   cases o'<;>first|rfl|exact ih hs.2 {w with heap:=w.heap.setIfInBounds r o} T hT
 |choose q k ih=>
  intro w T hT;simp only[Ϣ] at hT |-
  by_cases hq:q.forced=θ
  ·rw[if_pos hq] at hT |-
   rw[if_pos hq];exact ih _ (hs _) w T hT
  ·rw[if_neg hq] at hT |-
   rw[if_neg hq];have hd:=(Yd (hs (q.cut (w.tape w.drawn q))) {w with drawn:=w.drawn+1}).1
   have e:T w.drawn q=w.tape w.drawn q:=hT w.drawn q (ϊ _) (by simp only at hd;omega)
   show(k (q.cut (T w.drawn q))).run p (bq {w with drawn:=w.drawn+1} T)=_
   rw[e];exact ih _ (hs _) {w with drawn:=w.drawn+1} T λj q h1 h2=>hT j q (by simp only at h1;omega) h2
 |sys c k ih=>exact hs.elim
 |program k ih=>intro w T hT;exact ih _ hs w T hT
 |mark m k ih=>intro w T hT;exact ih hs w T hT
 |halt h=>intro w T hT;rfl
end Go.Sim
namespace Go.Sim
open Go
variable {p:ϕ}
namespace az
class MC (p:ϕ) {α:Type} (s:Sem α):Prop where
 h:az p s
instance {α:Type} (a:α):MC p (ϥ a):=⟨trivial⟩
instance {α:Type} (a:α):MC p (Sem.pure a):=⟨trivial⟩
def pure{α:Type}(a:α):az p (ϥ a):=trivial
def atf(a:α):az p (Sem.pure a):=trivial
def newObj{o:Obj}(h:¬qX o):az p (Go.newObj o):=⟨h,λ_=>trivial⟩
def setObj{o:Obj}(r:Nat)(h:¬qX o):az p (Go.setObj r o):=⟨h,trivial⟩
def ite{c:Prop}[Decidable c]{a b:Sem α}(h:az p a)(h2:az p b):az p (if c then a else b):=by
 split<;>assumption
def map{s:Sem α}(f:α->β)(h:az p s):az p (f<$>s):=by
 rw[map_eq_pure_bind];exact bind' h λ_=>trivial
def sO(l:List ι){f:ι->σ->Sem (ForInStep σ)}(h:∀x s,az p (f x s)):∀s,az p (forIn l s f):=by
 induction l with
 |nil=>intro s;exact trivial
 |cons a l ih=>
  intro s;rw[List.forIn_cons];refine bind' (h _ _) λr=>?_
  cases r
  ·exact trivial
  ·exact ih _
def zm(l:Array ι){f:ι->σ->Sem (ForInStep σ)}(h:∀x s,az p (f x s))(s:σ):az p (forIn l s f):=by
 rw[<-Aaj];exact sO _ h s
def Hs(l:Std.Legacy.Range){f:Nat->σ->Sem (ForInStep σ)}(h:∀x s,az p (f x s))(s:σ):az p (forIn l s f):=by
 rw[Aei];exact sO _ h s
def AJ(l:List ι){f:ι->Sem σ}(h:∀x,az p (f x)):az p (l.mapM f):=by
 induction l with
 |nil=>exact trivial
 |cons a l ih=>
  rw[List.mapM_cons];exact bind' (h _) λ_=>az.bind' ih λ_=>trivial
def yb(l:Array ι){f:ι->Sem σ}(h:∀x,az p (f x)):az p (l.mapM f):=by
 rw[į];exact map _ (az.AJ _ h)
def foldlM{ι σ:Type}(l:List ι){f:σ->ι->Sem σ}(h:∀s x,az p (f s x)):∀s,az p (l.foldlM f s):=by
 induction l with
 |nil=>intro s;exact trivial
 |cons a l ih=>
  intro s;rw[List.foldlM_cons];exact bind' (h _ _) λ_=>ih _
instance {α:Type} (s:String):MC p ((Go.stuck s:Sem α)):=⟨by
 repeat' first| (with_reducible first|exact MC.h|refine bind' ?_ λ_=>?_|refine ite ?_ ?_) |split|dsimp only|trivial⟩
instance {α:Type} (s:Unsupported):MC p ((Go.unsupported s:Sem α)):=⟨by
 repeat' first| (with_reducible first|exact MC.h|refine bind' ?_ λ_=>?_|refine ite ?_ ?_) |split|dsimp only|trivial⟩
def choose(q:Question):az p (Go.choose q):=by
 intro _
 repeat' first| (with_reducible first|exact MC.h|refine bind' ?_ λ_=>?_|refine ite ?_ ?_) |split|dsimp only|trivial
instance (q:Question):MC p (Go.choose q):=⟨choose q⟩
instance:MC p (Go.program):=⟨by
 repeat' first| (with_reducible first|exact MC.h|refine bind' ?_ λ_=>?_|refine ite ?_ ?_) |split|dsimp only|trivial⟩
instance (m:Mark):MC p (Go.mark m):=⟨by
 repeat' first| (with_reducible first|exact MC.h|refine bind' ?_ λ_=>?_|refine ite ?_ ?_) |split|dsimp only|trivial⟩
instance (r:Nat):MC p (Go.getObj r):=⟨by
 intro _
 repeat' first| (with_reducible first|exact MC.h|refine bind' ?_ λ_=>?_|refine ite ?_ ?_) |split|dsimp only|trivial⟩
instance (a:ϝ) (m:Mode):MC p (Go.load a m):=⟨by
 intro _
 repeat' first| (with_reducible first|exact MC.h|refine bind' ?_ λ_=>?_|refine ite ?_ ?_) |split|dsimp only|trivial⟩
instance (a:ϝ) (v:υ) (m:Mode):MC p (Go.store a v m):=⟨by
 repeat' first| (with_reducible first|exact MC.h|refine bind' ?_ λ_=>?_|refine ite ?_ ?_) |split|dsimp only|trivial⟩
instance (r:Nat):MC p (Go.shape r):=⟨by
 intro _
 repeat' first| (with_reducible first|exact MC.h|refine bind' ?_ λ_=>?_|refine ite ?_ ?_) |split|dsimp only|trivial⟩
theorem MC.of{s t:Sem α}(e:s=t)(h:az p t:=by repeat' first| (with_reducible first|exact MC.h|exact newObj id|exact setObj _ id|refine bind' ?_ λ_=>?_|refine map _ ?_|refine ite ?_ ?_) |split|dsimp only|trivial):MC p s:=⟨e▸h⟩
instance (x0:ό):MC p (Go.underlying x0):=MC.of (Go.underlying.eq_def _)
instance (x0:ό):MC p (Go.elemOf x0):=MC.of (Go.elemOf.eq_def _)
instance (x0:ό) (x1:Array υ):MC p (Go.newRow x0 x1):=MC.of (Go.newRow.eq_def _ _)
instance (x0:ό) (x1:υ):MC p (Go.newVar x0 x1):=MC.of (Go.newVar.eq_def _ _)
instance {α:Type} (e:RuntimeError):MC p ((Go.runtimePanic e:Sem α)):=MC.of (Go.runtimePanic.eq_def _)
def runtimePanic{α:Type}(e:RuntimeError):az p ((Go.runtimePanic e:Sem α)):=MC.h
instance {α:Type} (k:æ) (x y:Int) (c:Abj):MC p ((Go.boundsPanic k x y c:Sem α)):=MC.of (Go.boundsPanic.eq_def _ _ _ _)
instance (x0:ό):MC p (Go.typeInfo x0):=MC.of (Go.typeInfo.eq_def _)
instance (x0:ό):MC p (Go.zeroValue x0):=MC.of (Go.zeroValue.eq_def _)
instance (x0:ό):MC p (Go.sizeOf x0):=MC.of (Go.sizeOf.eq_def _)
instance (x0:ό):MC p (Go.isAgg x0):=MC.of (Go.isAgg.eq_def _)
instance (x0:ϝ) (x1:Nat) (x2:Nat) (x3:Array υ):MC p (Go.loadCellsFrom x0 x1 x2 x3):=⟨by
 induction x2 generalizing x1 x3 with
 |zero=>exact trivial
 |succ n ih=>
 unfold Go.loadCellsFrom;refine bind' MC.h λ_=>ih _ _
 all_goals
 repeat' first| (with_reducible first|exact MC.h|refine bind' ?_ λ_=>?_|refine ite ?_ ?_) |split|dsimp only|trivial⟩
instance (x0:ϝ) (x1:Nat):MC p (Go.loadCells x0 x1):=MC.of (Go.loadCells.eq_def _ _)
instance (x0:ϝ) (x1:List υ) (x2:Nat):MC p (Go.storeCells x0 x1 x2):=⟨by
 induction x1 generalizing x2 with
 |nil=>exact trivial
 |cons a l ih=>
 unfold Go.storeCells;refine bind' MC.h λ_=>ih _
 all_goals
 repeat' first| (with_reducible first|exact MC.h|refine bind' ?_ λ_=>?_|refine ite ?_ ?_) |split|dsimp only|trivial⟩
instance (x0:ό) (x1:ϝ):MC p (Go.loadVar x0 x1):=MC.of (Go.loadVar.eq_def _ _)
instance (x0:ό) (x1:ϝ) (x2:υ):MC p (Go.storeVar x0 x1 x2):=MC.of (Go.storeVar.eq_def _ _ _)
instance (x0:ό) (x1:Array υ) (x2:Nat):MC p (Go.part x0 x1 x2):=MC.of (Go.part.eq_def _ _ _)
instance (x0:υ):MC p (Go.asIntOf x0):=MC.of (Go.asIntOf.eq_def _)
instance (x0:υ):MC p (Go.asInt x0):=MC.of (Go.asInt.eq_def _)
instance (x0:υ):MC p (Go.asBool x0):=MC.of (Go.asBool.eq_def _)
def asBool(x0:υ):az p (Go.asBool x0):=MC.h
instance (x0:υ):MC p (Go.asAgg x0):=MC.of (Go.asAgg.eq_def _)
instance (x0:υ):MC p (Go.asAddr x0):=MC.of (Go.asAddr.eq_def _)
instance (x0:υ):MC p (Go.Instr.sureAddr x0):=MC.of (Go.Instr.sureAddr.eq_def _)
instance (x0:Nat):MC p (Go.askRoom x0):=MC.of (Go.askRoom.eq_def _)
instance (x0:Nat):MC p (Go.viewAt x0):=MC.of (Go.viewAt.eq_def _)
instance (x0:ϝ):MC p (Go.noView x0):=MC.of (Go.noView.eq_def _)
instance (x0:ϝ):MC p (Go.markStringish x0):=MC.of (Go.markStringish.eq_def _)
instance (x0:Nat):MC p (Go.numberAt x0):=MC.of (Go.numberAt.eq_def _)
instance (x0:ϝ):MC p (Go.behindNumber x0):=MC.of (Go.behindNumber.eq_def _)
instance (x0:ϝ) (x1:Bool):MC p (Go.asNumber x0 x1):=MC.of (Go.asNumber.eq_def _ _)
instance (x0:ϝ):MC p (Go.byteOf x0):=MC.of (Go.byteOf.eq_def _)
instance (x0:ϝ) (x1:Nat) (x2:Nat):MC p (Go.partAt x0 x1 x2):=MC.of (Go.partAt.eq_def _ _ _)
instance (x0:ϝ) (x1:Field):MC p (Go.fieldPlace x0 x1):=MC.of (Go.fieldPlace.eq_def _ _)
instance (x0:ό) (x1:Bool) (x2:υ):MC p (Go.Instr.alloc x0 x1 x2):=MC.of (Go.Instr.alloc.eq_def _ _ _)
def abB(x0:ό)(x1:Bool)(x2:υ):az p (Go.Instr.alloc x0 x1 x2):=MC.h
instance (x0:ό) (x1:υ):MC p (Go.Instr.box x0 x1):=MC.of (Go.Instr.box.eq_def _ _)
def abD(x0:ό)(x1:υ):az p (Go.Instr.box x0 x1):=MC.h
instance (x0:ό) (x1:υ):MC p (Go.Instr.loadAt x0 x1):=MC.of (Go.Instr.loadAt.eq_def _ _)
def abN(x0:ό)(x1:υ):az p (Go.Instr.loadAt x0 x1):=MC.h
instance (x0:ό) (x1:υ) (x2:υ):MC p (Go.Instr.storeAt x0 x1 x2):=MC.of (Go.Instr.storeAt.eq_def _ _ _)
def abU(x0:ό)(x1:υ)(x2:υ):az p (Go.Instr.storeAt x0 x1 x2):=MC.h
instance (x0:ό) (x1:υ) (x2:Nat):MC p (Go.Instr.fieldAt x0 x1 x2):=MC.of (Go.Instr.fieldAt.eq_def _ _ _)
def abK(x0:ό)(x1:υ)(x2:Nat):az p (Go.Instr.fieldAt x0 x1 x2):=MC.h
instance (x0:υ) (x1:Nat) (x2:Abj):MC p (Go.Instr.sliceBound x0 x1 x2):=MC.of (Go.Instr.sliceBound.eq_def _ _ _)
instance (x0:Bool) (x1:Nat) (x2:Nat) (x3:Option υ) (x4:Option υ) (x5:Option υ):MC p (Go.Instr.sliceBounds x0 x1 x2 x3 x4 x5):=MC.of (Go.Instr.sliceBounds.eq_def _ _ _ _ _ _)
instance (x0:ό) (x1:υ) (x2:Option υ) (x3:Option υ) (x4:Option υ):MC p (Go.Instr.slice x0 x1 x2 x3 x4):=MC.of (Go.Instr.slice.eq_def _ _ _ _ _)
instance (x0:ό) (x1:υ) (x2:Option υ) (x3:Option υ) (x4:Option υ):MC p (Go.Instr.sliceAt x0 x1 x2 x3 x4):=MC.of (Go.Instr.sliceAt.eq_def _ _ _ _ _)
def abT(x0:ό)(x1:υ)(x2:Option υ)(x3:Option υ)(x4:Option υ):az p (Go.Instr.sliceAt x0 x1 x2 x3 x4):=MC.h
instance (x0:ό) (x1:υ) (x2:υ):MC p (Go.Instr.indexAt x0 x1 x2):=MC.of (Go.Instr.indexAt.eq_def _ _ _)
def abM(x0:ό)(x1:υ)(x2:υ):az p (Go.Instr.indexAt x0 x1 x2):=MC.h
instance (x0:ό) (x1:υ) (x2:Nat):MC p (Go.Instr.field x0 x1 x2):=MC.of (Go.Instr.field.eq_def _ _ _)
def abJ(x0:ό)(x1:υ)(x2:Nat):az p (Go.Instr.field x0 x1 x2):=MC.h
instance (x0:ό) (x1:υ) (x2:υ):MC p (Go.Instr.index x0 x1 x2):=MC.of (Go.Instr.index.eq_def _ _ _)
def abL(x0:ό)(x1:υ)(x2:υ):az p (Go.Instr.index x0 x1 x2):=MC.h
instance (x0:Ü) (x1:æ) (x2:Int) (x3:Int):MC p (Go.Op.intArith x0 x1 x2 x3):=MC.of (Go.Op.intArith.eq_def _ _ _ _)
instance (x0:Ü) (x1:æ) (x2:Int) (x3:Int):MC p (Go.Op.intDiv x0 x1 x2 x3):=MC.of (Go.Op.intDiv.eq_def _ _ _ _)
instance (x0:Ü) (x1:æ) (x2:Int) (x3:Int):MC p (Go.Op.intBits x0 x1 x2 x3):=MC.of (Go.Op.intBits.eq_def _ _ _ _)
instance (x0:Ü) (x1:Int) (x2:Int):MC p (Go.Op.intCmp x0 x1 x2):=MC.of (Go.Op.intCmp.eq_def _ _ _)
instance (x0:Ü) (x1:æ) (x2:Int) (x3:æ) (x4:Int):MC p (Go.Op.shift x0 x1 x2 x3 x4):=MC.of (Go.Op.shift.eq_def _ _ _ _ _)
instance (x0:Ü) (x1:Ĵ) (x2:Nat) (x3:Nat):MC p (Go.Op.floatArith x0 x1 x2 x3):=MC.of (Go.Op.floatArith.eq_def _ _ _ _)
instance (x0:Ü) (x1:Ĵ) (x2:Nat) (x3:Nat):MC p (Go.Op.floatCmp x0 x1 x2 x3):=MC.of (Go.Op.floatCmp.eq_def _ _ _ _)
instance (x0:Ĵ) (x1:Nat) (x2:Ĵ):MC p (Go.Conv.floatToFloat x0 x1 x2):=MC.of (Go.Conv.floatToFloat.eq_def _ _ _)
instance (x0:Ü) (x1:Ĵ) (x2:Nat) (x3:Nat):MC p (Go.Op.Complex.arith x0 x1 x2 x3):=MC.of (by unfold Go.Op.Complex.arith;rfl)
instance (x0:Nat) (x1:Nat):MC p (Go.Op.Complex.add x0 x1):=MC.of (by unfold Go.Op.Complex.add;rfl)
instance (x0:Nat) (x1:Nat):MC p (Go.Op.Complex.sub x0 x1):=MC.of (by unfold Go.Op.Complex.sub;rfl)
instance (x0:Nat) (x1:Nat):MC p (Go.Op.Complex.mul x0 x1):=MC.of (by unfold Go.Op.Complex.mul;rfl)
instance (x0:Nat) (x1:Nat):MC p (Go.Op.Complex.quo x0 x1):=MC.of (by unfold Go.Op.Complex.quo;rfl)
instance (x0:Nat) (x1:Nat) (x2:Nat) (x3:Nat) (x4:Nat):MC p (Go.Op.Complex.corrected x0 x1 x2 x3 x4):=MC.of (by unfold Go.Op.Complex.corrected;rfl)
instance (x0:Ĵ) (x1:Nat) (x2:Ĵ):MC p (Go.Op.Complex.conv x0 x1 x2):=MC.of (by unfold Go.Op.Complex.conv;rfl)
instance (x0:Nat) (x1:Nat) (x2:Nat) (x3:Nat):MC p (Go.Op.Complex.product x0 x1 x2 x3):=MC.of (by unfold Go.Op.Complex.product;rfl)
instance (x0:Nat) (x1:Nat) (x2:Nat) (x3:Nat):MC p (Go.Op.Complex.quotient x0 x1 x2 x3):=MC.of (by unfold Go.Op.Complex.quotient;rfl)
instance (x0:Ü) (x1:Ĵ) (x2:Nat) (x3:Nat) (x4:Nat) (x5:Nat):MC p (Go.Op.complexOp x0 x1 x2 x3 x4 x5):=MC.of (Go.Op.complexOp.eq_def _ _ _ _ _ _)
instance (x0:Ü) (x1:ByteArray) (x2:ByteArray):MC p (Go.Op.stringOp x0 x1 x2):=MC.of (Go.Op.stringOp.eq_def _ _ _)
instance (x0:ϝ) (x1:ϝ):MC p (Go.Op.twoPlaces x0 x1):=MC.of (Go.Op.twoPlaces.eq_def _ _)
instance (x0:æ) (x1:ϝ) (x2:ϝ):MC p (Go.Op.addrSub x0 x1 x2):=MC.of (Go.Op.addrSub.eq_def _ _ _)
instance (x0:Ü) (x1:ϝ) (x2:ϝ):MC p (Go.Op.addrCmp x0 x1 x2):=MC.of (Go.Op.addrCmp.eq_def _ _ _)
instance (x0:æ) (x1:ϝ) (x2:Int):MC p (Go.Op.addrMod x0 x1 x2):=MC.of (Go.Op.addrMod.eq_def _ _ _)
instance (x0:ϝ):MC p (Go.frozen x0):=⟨by
 intro _
 repeat' first| (with_reducible first|exact MC.h|refine bind' ?_ λ_=>?_|refine ite ?_ ?_) |split|dsimp only|trivial⟩
instance (x0:ϝ):MC p (Go.stringish x0):=MC.of (Go.stringish.eq_def _)
instance (x0:ϝ) (x1:ϝ):MC p (Go.mayBeOne x0 x1):=MC.of (Go.mayBeOne.eq_def _ _)
instance (x0:ό):MC p (Go.typeStr x0):=MC.of (Go.typeStr.eq_def _)
instance (x0:ϝ) (x1:ϝ):MC p (Go.sameAddr x0 x1):=MC.of (Go.sameAddr.eq_def _ _)
instance (x0:Option ϝ) (x1:Option ϝ):MC p (Go.samePointer x0 x1):=MC.of (Go.samePointer.eq_def _ _)
instance (x0:Nat) (x1:ό) (x2:υ) (x3:υ):MC p (Go.Op.equalIn x0 x1 x2 x3):=⟨by
 induction x0 generalizing x1 x2 x3 with
 |zero=>exact trivial
 |succ n ih=>
 unfold Go.Op.equalIn
 repeat' first| (with_reducible first|exact MC.h|exact ih _ _ _|exact newObj id|exact setObj _ id|refine bind' ?_ λ_=>?_|refine zm _ (λ_ _=>?_) _|refine sO _ (λ_ _=>?_) _|refine Hs _ (λ_ _=>?_) _|refine map _ ?_|refine yb _ λ_=>?_|refine AJ _ λ_=>?_|refine foldlM _ (λ_ _=>?_) _|refine ite ?_ ?_) |split|dsimp only|trivial⟩
instance (x0:ό) (x1:υ) (x2:υ):MC p (Go.Op.equal x0 x1 x2):=MC.of (Go.Op.equal.eq_def _ _ _)
instance (x0:Nat) (x1:ό) (x2:υ) (x3:υ):MC p (Go.Op.eqGuardIn x0 x1 x2 x3):=⟨by
 induction x0 generalizing x1 x2 x3 with
 |zero=>exact trivial
 |succ n ih=>
 unfold Go.Op.eqGuardIn
 repeat' first| (with_reducible first|exact MC.h|exact ih _ _ _|exact newObj id|exact setObj _ id|refine bind' ?_ λ_=>?_|refine zm _ (λ_ _=>?_) _|refine sO _ (λ_ _=>?_) _|refine Hs _ (λ_ _=>?_) _|refine map _ ?_|refine yb _ λ_=>?_|refine AJ _ λ_=>?_|refine foldlM _ (λ_ _=>?_) _|refine ite ?_ ?_) |split|dsimp only|trivial⟩
instance (ts:Array ό) (t:ό) (x y:υ):MC p (Go.Builtin.unsafeAdd_ ts t #[x,y]):=⟨by
 unfold Go.Builtin.unsafeAdd_;cases x<;>try exact trivial
 rename_i q;cases q
 ·refine bind' (s:=Go.asInt y) MC.h (λn=>?_)
  dsimp only
  repeat' first| (with_reducible first|exact MC.h|refine bind' ?_ λ_=>?_|refine ite ?_ ?_) |split|dsimp only|trivial
 ·refine bind' (s:=Go.asInt y) MC.h (λn=>?_)
  dsimp only
  repeat' first| (with_reducible first|exact MC.h|refine bind' ?_ λ_=>?_|refine ite ?_ ?_) |split|dsimp only|trivial⟩
instance (x0:ό) (x1:υ) (x2:υ):MC p (Go.movedNumber x0 x1 x2):=MC.of (Go.movedNumber.eq_def _ _ _)
instance (x0:ό) (x1:υ) (x2:υ):MC p (Go.movedPointer x0 x1 x2):=MC.of (Go.movedPointer.eq_def _ _ _)
instance (x0:Ü) (x1:ό) (x2:Ë) (x3:Ë) (x4:υ) (x5:υ):MC p (Go.eqGuard x0 x1 x2 x3 x4 x5):=MC.of (Go.eqGuard.eq_def _ _ _ _ _ _)
def eqGuard(x0:Ü)(x1:ό)(x2:Ë)(x3:Ë)(x4:υ)(x5:υ):az p (Go.eqGuard x0 x1 x2 x3 x4 x5):=MC.h
instance (x0:Ü) (x1:ό) (x2:υ) (x3:υ):MC p (Go.binOp x0 x1 x2 x3):=MC.of (Go.binOp.eq_def _ _ _ _)
def binOp(x0:Ü)(x1:ό)(x2:υ)(x3:υ):az p (Go.binOp x0 x1 x2 x3):=MC.h
instance (x0:υ) (x1:Nat):MC p (Go.Instr.extract x0 x1):=MC.of (Go.Instr.extract.eq_def _ _)
def abI(x0:υ)(x1:Nat):az p (Go.Instr.extract x0 x1):=MC.h
instance (x0:Fn) (x1:Array υ) (x2:Array υ):MC p (Go.Instr.makeFunc x0 x1 x2):=MC.of (Go.Instr.makeFunc.eq_def _ _ _)
def abP(x0:Fn)(x1:Array υ)(x2:Array υ):az p (Go.Instr.makeFunc x0 x1 x2):=MC.h
instance (x0:ό) (x1:Option υ):MC p (Go.Instr.makeMap x0 x1):=MC.of (Go.Instr.makeMap.eq_def _ _)
def abQ(x0:ό)(x1:Option υ):az p (Go.Instr.makeMap x0 x1):=MC.h
instance (x0:ό) (x1:υ) (x2:υ):MC p (Go.Instr.makeSlice x0 x1 x2):=MC.of (Go.Instr.makeSlice.eq_def _ _ _)
def abR(x0:ό)(x1:υ)(x2:υ):az p (Go.Instr.makeSlice x0 x1 x2):=MC.h
def Se(x0:ό)(x1:Array (Nat×υ)):az p (Go.Instr.build x0 x1):=by
 unfold Go.Instr.build
 repeat' first| (with_reducible first|exact MC.h|refine bind' ?_ λ_=>?_|refine yb _ λ_=>?_|refine ite ?_ ?_) |split|dsimp only|trivial
instance (x0:ό) (x1:Array (Nat×υ)):MC p (Go.Instr.build x0 x1):=⟨Se x0 x1⟩
instance (x0:ό) (x1:Nat) (x2:Array (Nat×υ)):MC p (Go.Instr.buildSlice x0 x1 x2):=MC.of (Go.Instr.buildSlice.eq_def _ _ _)
def abE(x0:ό)(x1:Nat)(x2:Array (Nat×υ)):az p (Go.Instr.buildSlice x0 x1 x2):=MC.h
instance (x0:υ):MC p (Go.Builtin.lenOf x0):=MC.of (Go.Builtin.lenOf.eq_def _)
instance (x0:Array ό) (x1:ό) (x2:Array υ):MC p (Go.Builtin.len_ x0 x1 x2):=MC.of (Go.Builtin.len_.eq_def _ _ _)
def aaC(x0:Array ό)(x1:ό)(x2:Array υ):az p (Go.Builtin.len_ x0 x1 x2):=MC.h
instance (x0:υ) (x1:υ):MC p (Go.Builtin.max2 x0 x1):=MC.of (Go.Builtin.max2.eq_def _ _)
instance (x0:υ) (x1:υ):MC p (Go.Builtin.min2 x0 x1):=MC.of (Go.Builtin.min2.eq_def _ _)
def Rp(x0:Array ό)(x1:ό)(x2:Array υ):az p (Go.Builtin.max_ x0 x1 x2):=by
 unfold Go.Builtin.max_
 repeat' first| (with_reducible first|exact MC.h|refine bind' ?_ λ_=>?_|refine foldlM _ (λ_ _=>?_) _|refine ite ?_ ?_) |split|dsimp only|trivial
instance (x0:Array ό) (x1:ό) (x2:Array υ):MC p (Go.Builtin.max_ x0 x1 x2):=⟨Rp x0 x1 x2⟩
def Rq(x0:Array ό)(x1:ό)(x2:Array υ):az p (Go.Builtin.min_ x0 x1 x2):=by
 unfold Go.Builtin.min_
 repeat' first| (with_reducible first|exact MC.h|refine bind' ?_ λ_=>?_|refine foldlM _ (λ_ _=>?_) _|refine ite ?_ ?_) |split|dsimp only|trivial
instance (x0:Array ό) (x1:ό) (x2:Array υ):MC p (Go.Builtin.min_ x0 x1 x2):=⟨Rq x0 x1 x2⟩
instance (x0:Nat) (x1:Nat) (x2:υ):MC p (Go.Builtin.firstCells x0 x1 x2):=MC.of (Go.Builtin.firstCells.eq_def _ _ _)
instance (x0:Array ό) (x1:ό) (x2:Array υ):MC p (Go.Builtin.copy_ x0 x1 x2):=MC.of (Go.Builtin.copy_.eq_def _ _ _)
def aaB(x0:Array ό)(x1:ό)(x2:Array υ):az p (Go.Builtin.copy_ x0 x1 x2):=MC.h
instance (x0:Array ό) (x1:ό) (x2:Array υ):MC p (Go.Builtin.clear_ x0 x1 x2):=MC.of (Go.Builtin.clear_.eq_def _ _ _)
def aaA(x0:Array ό)(x1:ό)(x2:Array υ):az p (Go.Builtin.clear_ x0 x1 x2):=MC.h
instance (x0:ϝ) (x1:Nat):MC p (Go.Builtin.holdsCells x0 x1):=MC.of (Go.Builtin.holdsCells.eq_def _ _)
instance (x0:Nat) (x1:Nat) (x2:Nat) (x3:Option ϝ) (x4:υ):MC p (Go.Builtin.mayShare x0 x1 x2 x3 x4):=MC.of (Go.Builtin.mayShare.eq_def _ _ _ _ _)
instance (x0:Array ό) (x1:ό) (x2:Array υ):MC p (Go.Builtin.append_ x0 x1 x2):=MC.of (Go.Builtin.append_.eq_def _ _ _)
def aaz(x0:Array ό)(x1:ό)(x2:Array υ):az p (Go.Builtin.append_ x0 x1 x2):=MC.h
instance (x0:Ĵ) (x1:Nat) (x2:æ):MC p (Go.Conv.floatToInt x0 x1 x2):=MC.of (Go.Conv.floatToInt.eq_def _ _ _)
def aaR(x0:Ĵ)(x1:Nat)(x2:æ):az p (Go.Conv.floatToInt x0 x1 x2):=MC.h
instance (x0:æ) (x1:Int):MC p (Go.Conv.intToInt x0 x1):=MC.of (Go.Conv.intToInt.eq_def _ _)
def aaS(x0:æ)(x1:Int):az p (Go.Conv.intToInt x0 x1):=MC.h
instance (x0:ό) (x1:ByteArray):MC p (Go.Conv.stringToBytes x0 x1):=MC.of (Go.Conv.stringToBytes.eq_def _ _)
def aaT(x0:ό)(x1:ByteArray):az p (Go.Conv.stringToBytes x0 x1):=MC.h
instance (x0:Bool) (x1:Nat) (x2:ό) (x3:υ):MC p (Go.Instr.checkKey x0 x1 x2 x3):=⟨by
 induction x1 generalizing x2 x3 with
 |zero=>exact trivial
 |succ n ih=>
 unfold Go.Instr.checkKey
 repeat' first| (with_reducible first|exact MC.h|exact ih _ _|exact newObj id|exact setObj _ id|refine bind' ?_ λ_=>?_|refine zm _ (λ_ _=>?_) _|refine sO _ (λ_ _=>?_) _|refine Hs _ (λ_ _=>?_) _|refine map _ ?_|refine yb _ λ_=>?_|refine AJ _ λ_=>?_|refine foldlM _ (λ_ _=>?_) _|refine ite ?_ ?_) |split|dsimp only|trivial⟩
instance (x0:ό) (x1:υ) (x2:List Ě) (x3:Nat):MC p (Go.Instr.findAsking x0 x1 x2 x3):=⟨by
 induction x2 generalizing x3 with
 |nil=>exact trivial
 |cons a l ih=>
 unfold Go.Instr.findAsking
 repeat' first| (with_reducible first|exact MC.h|exact ih _|exact newObj id|exact setObj _ id|refine bind' ?_ λ_=>?_|refine zm _ (λ_ _=>?_) _|refine sO _ (λ_ _=>?_) _|refine Hs _ (λ_ _=>?_) _|refine map _ ?_|refine yb _ λ_=>?_|refine AJ _ λ_=>?_|refine foldlM _ (λ_ _=>?_) _|refine ite ?_ ?_) |split|dsimp only|trivial⟩
instance (x0:ό) (x1:υ) (x2:List Ě):MC p (Go.Instr.findKey x0 x1 x2):=MC.of (Go.Instr.findKey.eq_def _ _ _)
instance (x0:ό) (x1:υ) (x2:υ) (x3:Bool):MC p (Go.Instr.lookup x0 x1 x2 x3):=MC.of (Go.Instr.lookup.eq_def _ _ _ _)
def abO(x0:ό)(x1:υ)(x2:υ)(x3:Bool):az p (Go.Instr.lookup x0 x1 x2 x3):=MC.h
instance (x0:υ) (x1:υ):MC p (Go.Instr.keyThatStays x0 x1):=MC.of (Go.Instr.keyThatStays.eq_def _ _)
instance (x0:ό) (x1:υ) (x2:υ) (x3:υ):MC p (Go.Instr.mapUpdate x0 x1 x2 x3):=MC.of (Go.Instr.mapUpdate.eq_def _ _ _ _)
def abS(x0:ό)(x1:υ)(x2:υ)(x3:υ):az p (Go.Instr.mapUpdate x0 x1 x2 x3):=MC.h
instance (x0:Nat):MC p (Go.Instr.getLoop x0):=MC.of (Go.Instr.getLoop.eq_def _)
instance (x0:Â) (x1:Array υ) (x2:Array Tmp) (x3:ϖ) (x4:ϖ) (x5:Option Nat):MC p (Go.Instr.enterLoop x0 x1 x2 x3 x4 x5):=MC.of (Go.Instr.enterLoop.eq_def _ _ _ _ _ _)
def abH(x0:Â)(x1:Array υ)(x2:Array Tmp)(x3:ϖ)(x4:ϖ)(x5:Option Nat):az p (Go.Instr.enterLoop x0 x1 x2 x3 x4 x5):=MC.h
instance (x0:Nat) (x1:Array υ):MC p (Go.Instr.yield x0 x1):=MC.of (Go.Instr.yield.eq_def _ _)
def abW(x0:Nat)(x1:Array υ):az p (Go.Instr.yield x0 x1):=MC.h
instance (x0:Nat):MC p (Go.Instr.beginRound x0):=MC.of (Go.Instr.beginRound.eq_def _)
def abC(x0:Nat):az p (Go.Instr.beginRound x0):=MC.h
instance (x0:Nat) (x1:Option ϖ):MC p (Go.Instr.endRound x0 x1):=MC.of (Go.Instr.endRound.eq_def _ _)
def abG(x0:Nat)(x1:Option ϖ):az p (Go.Instr.endRound x0 x1):=MC.h
instance (x0:Nat):MC p (Go.Instr.endLoop x0):=MC.of (Go.Instr.endLoop.eq_def _)
def abF(x0:Nat):az p (Go.Instr.endLoop x0):=MC.h
instance (x0:Nat):MC p (Go.Instr.takeDeferred x0):=MC.of (Go.Instr.takeDeferred.eq_def _)
def abV(x0:Nat):az p (Go.Instr.takeDeferred x0):=MC.h
def results(x0:Å)(x1:Array υ):az p (Go.results x0 x1):=by
 unfold Go.results
 repeat' first| (with_reducible first|exact MC.h|refine bind' ?_ λ_=>?_|refine yb _ λ_=>?_|refine ite ?_ ?_) |split|dsimp only|trivial
instance (x0:Å) (x1:Array υ):MC p (Go.results x0 x1):=⟨results x0 x1⟩
end az
end Go.Sim
namespace Go.Sim
open Go
def XC(w:Ψ)(a:ϝ)(s:String):yX (w.noCell a s):=by
 unfold Ad0;split<;>trivial
def afH(e:w.farLoad p a b=.error h):yX h:=by
 unfold World.farLoad at e;split at e
 ·split at e
  ·cases e
  ·cases e;trivial
 ·cases e;exact XC _ _ _
def afJ(e:w.farStore p a v b=.error h):yX h:=by
 unfold Ad2 at e;split at e
 ·split at e
  ·cases e
  ·cases e;trivial
 ·cases e;exact XC _ _ _
def anZ{s:Sem α}(hs:az p s):∀(w:Ψ) (h:Halt) (w':Ψ),s.run p w=.halt h w'->yX h:=by
 induction s with
 |pure a=>intro w h w' e;cases e
 |load m a k ih=>
  intro w h w' e;simp only[Ϣ] at e;split at e
  ·exact ih _ (hs _) _ _ _ e
  ·split at e
   ·exact ih _ (hs _) _ _ _ e
   ·rename_i hf
    cases e;exact afH hf
 |store m a v k ih=>
  intro w h w' e;cases v<;>simp only[Ϣ] at e<;>first
   | (cases e;trivial)
   | (split at e
      ·split at e
       ·cases e;trivial
       ·exact ih hs _ _ _ e
      ·split at e
       ·exact ih hs _ _ _ e
       ·rename_i hf
        cases e;exact afJ hf)
 |new o k ih=>intro w h w' e;exact ih _ (hs.2 _) _ _ _ e
 |shape r k ih=>intro w h w' e;exact ih _ (hs _) _ _ _ e
 |freeze a n k ih=>intro w h w' e;exact ih hs _ _ _ e
 |frozen a k ih=>intro w h w' e;exact ih _ (hs _) _ _ _ e
 |getObj r k ih=>
  intro w h w' e;simp only[Ϣ] at e;split at e
  ·cases e;trivial
  ·exact ih _ (hs _) _ _ _ e
  ·cases e;trivial
 |setObj r o k ih=>
  intro w h w' e;simp only[Ϣ] at e;split at e
  ·cases e;trivial
  ·exact ih hs.2 _ _ _ e
  ·cases e;trivial
 |choose q k ih=>
  intro w h w' e;simp only[Ϣ] at e;split at e
  ·exact ih _ (hs _) _ _ _ e
  ·exact ih _ (hs _) _ _ _ e
 |sys c k ih=>exact hs.elim
 |program k ih=>intro w h w' e;exact ih _ hs _ _ _ e
 |mark m k ih=>intro w h w' e;exact ih hs _ _ _ e
 |halt h=>intro w h' w' e;cases e;exact hs
def uX:ý->Ψ
 | .go _ w _=>w
 | .ended _ w _=>w
 |_=>default
def agr(T:Tape):ý->ý
 | .go g w es=>.go g (bq w T) es
 | .ended o w es=>.ended o (bq w T) es
 |s=>s
inductive DL:Bool->List È->Prop
 |nil:DL χ []
 |stop:DL θ [cQ]
 |cons {b:Bool} (r:Nat) {ds:List È} (h:DL b ds):DL b (⟨.collected r,#[]⟩::ds)
inductive pY:List Ϛ->Prop
 |base {fr:Ϛ} (h:DL θ fr.defers):pY [fr]
 |call {fr:Ϛ} {cs:List Ϛ} (h:DL χ fr.defers) (t:pY cs):pY (fr::cs)
inductive Du:ý->Prop
 |plain {g:ϐ} {w:Ψ} {es:Array Ñ} (h:Plain g) (hn:bO w.heap):Du (.go g w es)
 |ended {o:Outcome} {w:Ψ} {es:Array Ñ}:Du (.ended o w es)
 |sM {fr:Ϛ} {cs:List Ϛ} {w:Ψ} {es:Array Ñ} {ch:List Abt} (hm:fr.mode=.panicking ch) (hd:pY (fr::cs)) (hn:bO w.heap):Du (.go (aT fr cs) w es)
structure Good(f:Ψ->ý)(w:Ψ):Prop where
 cls:Du (f w)
 drawn:w.drawn<=(uX (f w)).drawn
 tape:(uX (f w)).tape=w.tape
 loc:∀T:Tape,(∀j q,w.drawn<=j->j<(uX (f w)).drawn->T j q=w.tape j q)->(f (bq w T)).bare=agr T (f w).bare
def TB{s:ý}:Du s.bare↔Du s:=by
 cases s with
 |go g w es=>
  refine⟨λh=>?_,λh=>?_⟩
  ·have:∀s,Du s->s=.go g w #[]->Du (.go g w es):=by
    intro s hs e;cases hs with
    |plain h hn=>cases e;exact .plain h hn
    |ended=>cases e
    |sM hm hd hn=>cases e;exact .sM hm hd hn
   exact this _ h rfl
  ·have:∀s,Du s->s=.go g w es->Du (.go g w #[]):=by
    intro s hs e;cases hs with
    |plain h hn=>cases e;exact .plain h hn
    |ended=>cases e
    |sM hm hd hn=>cases e;exact .sM hm hd hn
   exact this _ h rfl
 |ended o w es=>exact⟨λ_=>.ended,λ_=>.ended⟩
 |_=>exact⟨λh=>(by cases h),λh=>(by cases h)⟩
def UF(s:ý):uX s.bare=uX s:=by cases s<;>rfl
def Good.congr{f g:Ψ->ý}(h:∀w,(f w).bare=(g w).bare)(x:Good g w):Good f w:=by
 have e:uX (f w)=uX (g w):=by rw[<-UF,h,UF]
 refine⟨TB.1 (by rw[h];exact TB.2 x.cls),by rw[e];exact x.drawn,by rw[e];exact x.tape,λT hT=>?_⟩
 rw[e] at hT;rw[h,h];exact x.loc T hT
def Good.pure(h:Plain g)(hn:bO w.heap):Good (λw=>.go g w es) w:=⟨.plain h hn,ϊ _,rfl,λ_ _=>rfl⟩
def Good.ended{o:Outcome}{w:Ψ}{es:Array Ñ}:Good (λw=>.ended o w es) w:=⟨.ended,ϊ _,rfl,λ_ _=>rfl⟩
def Good.sM{fr:Ϛ}{cs:List Ϛ}{w:Ψ}{es:Array Ñ}{ch:List Abt}(hm:fr.mode=.panicking ch)(hd:pY (fr::cs))(hn:bO w.heap):Good (λw=>.go (aT fr cs) w es) w:=
 ⟨.sM hm hd hn,ϊ _,rfl,λ_ _=>rfl⟩
def Good.vS{s:Sem α}(hs:az p s){k:Ę α->ý}(hn:bO w.heap)
 (cD:∀a au,s.run p w=.ok a au->bO au.heap->Good (λw=>k (.ok a w)) au)
 (hh:∀h au,s.run p w=.halt h au->yX h->bO au.heap->Good (λw=>k (.halt h w)) au):Good (λw=>k (s.run p w)) w:=by
 have hd:=Yd hs w;have eQ:=an0 hs w hn;cases e:s.run p w with
 |ok a au=>
  rw[e] at hd eQ;simp only[Dh] at hd eQ;have g:=cD a au e eQ;refine⟨by simp only[e];exact g.cls,by simp only[e];exact ϡ hd.1 g.drawn,by simp only[e];exact g.tape.trans hd.2,λT hT=>?_⟩
  simp only[e] at hT |-
  have l:=Yh hs w T (λj q h1 h2=>hT j q h1 (by rw[e] at h2;exact ϟ h2 g.drawn))
  rw[l,e];exact g.loc T λj q h1 h2=>(hT j q (ϡ hd.1 h1) h2).trans (by rw[hd.2])
 |halt h au=>
  have ho:=anZ hs w h au e;rw[e] at hd eQ;simp only[Dh] at hd eQ;have g:=hh h au e ho eQ;refine⟨by simp only[e];exact g.cls,by simp only[e];exact ϡ hd.1 g.drawn,by simp only[e];exact g.tape.trans hd.2,λT hT=>?_⟩
  simp only[e] at hT |-
  have l:=Yh hs w T (λj q h1 h2=>hT j q h1 (by rw[e] at h2;exact ϟ h2 g.drawn))
  rw[l,e];exact g.loc T λj q h1 h2=>(hT j q (ϡ hd.1 h1) h2).trans (by rw[hd.2])
def aet{ch:List Abt}(hm:fr.mode=.panicking ch)(hd:pY (fr::cs))(hn:bO w.heap):
 (∃o aa,step p (ç fr cs w)=.ended o aa)\/∃kS mJ aa zf,step p (ç fr cs w)=.next (ç kS mJ aa)/\kS.mode=.panicking zf/\pY (kS::mJ)/\bO aa.heap:=by
 have Fg:Ϙ p θ (aT fr cs) w=Ï p θ fr cs ν w:=by
  unfold Ϙ;simp only[hm]
 have hDL:∃b,DL b fr.defers/\(b=θ->cs=[])/\(b=χ->pY cs):=by
  cases hd with
  |base h=>exact⟨θ,h,λ_=>rfl,λh=>(by cases h)⟩
  |call h t=>exact⟨χ,h,λh=>(by cases h),λ_=>t⟩
 obtain⟨b,hl,h1,h2⟩:=hDL;generalize zQ:fr.defers=df at hl;cases hl with
 |nil=>
  have ht:=h2 rfl;have key:∀(c:Ϛ) (rest:List Ϛ),cs=c::rest->(∃o,Ï p θ fr cs ν w=.ended o w)\/Ï p θ fr cs ν w=.go {frame:=c.raise ch,callers:=rest,status:=.running,dying:=ν} w:=by
   intro c rest fh;subst fh;unfold Ï;simp only[zQ,hm];by_cases hc:fr.catches p=θ
   ·rw[if_pos hc];exact .inl ⟨_,rfl⟩
   ·rw[if_neg hc];exact .inr rfl
  have rz:∀c:Ϛ,(∃zf,(c.raise ch).mode=.panicking zf)/\(c.raise ch).defers=c.defers:=by
   intro c;unfold Ack;split<;>exact⟨⟨_,rfl⟩,rfl⟩
  obtain⟨c,rest,fh⟩:∃c rest,cs=c::rest:=by
   cases ht with
   |base h=>exact⟨_,_,rfl⟩
   |call h t=>exact⟨_,_,rfl⟩
  obtain⟨⟨zf,zO⟩,U8⟩:=rz c;rcases key c rest fh with⟨o,e⟩ |e
  ·left
   refine⟨o,w,Ab1 ?_⟩
   rw[show Ϙ p θ {frame:=fr,callers:=cs,status:=.running,dying:=ν} w=_ from Fg,e]
   rfl
  ·right
   refine⟨c.raise ch,rest,w,zf,Ab2 ?_,zO,?_,hn⟩
   ·rw[show Ϙ p θ {frame:=fr,callers:=cs,status:=.running,dying:=ν} w=_ from Fg,e]
    rfl
   ·subst fh
    cases ht with
    |base h=>exact .base (U8▸h)
    |call h t=>exact .call (U8▸h) t
 |stop=>
  left;have e:Ï p θ fr cs ν w=ģ p {fr with defers:=[]} cs ν cQ w:=by
   unfold Ï;simp only[zQ,cQ]
  have e2:∃o,(ģ p {fr with defers:=[]} cs ν cQ w).bare=.ended o w:=by
   unfold ģ cQ;simp[Go.invoke,Go.stuck,Ϥ,bind,ϫ]
  obtain⟨o,e2⟩:=e2;refine⟨o,w,Ab1 ?_⟩
  rw[show Ϙ p θ {frame:=fr,callers:=cs,status:=.running,dying:=ν} w=_ from Fg,e]
  exact e2
 | @cons _ r ds h=>
   have e:(Ï p θ fr cs ν w).bare=(match(Ŗ r).run p w with
    | .ok calls w=>(.go {frame:={fr with defers:=calls++ds},callers:=cs,status:=.running,dying:=ν} w:ý)
    | .halt _ w=>.ended (.stuck "the deferred calls of a range-over-func loop have been taken" (fr.pos p)) w).bare:=by
    unfold Ï;simp only[zQ,ľ,Ady];cases(Ŗ r).run p w<;>rfl
   have bh:(Ŗ r).run p w=.ok [] {w with heap:=w.heap.setIfInBounds r (.deferred ν)}\/∃h au,(Ŗ r).run p w=.halt h au:=by
    unfold Ŗ;simp only[Go.getObj,bind,ϫ,Ϣ];cases ho:w.heap[r]? with
    |none=>right;exact⟨_,_,rfl⟩
    |some o=>
     cases o;case deferred calls=>
      cases calls with
      |none=>right;simp[Go.stuck,Ϣ]
      |some l=>
       cases l with
       |nil=>left;simp[Go.setObj,ϫ,Ϣ,ho,pure]
       |cons x l=>exact absurd (show qX (.deferred (φ (x::l))) from trivial) (hn.get ho)
     all_goals (right;simp[Go.stuck,Ϣ])
   rcases bh with hr| ⟨h',au,hr⟩
   ·right
    rw[hr] at e;refine⟨{fr with defers:=ds},cs,_,ch,Ab2 (w':={w with heap:=w.heap.setIfInBounds r (.deferred ν)}) ?_,hm,?_,hn.set r (λh=>h)⟩
    ·rw[show Ϙ p θ {frame:=fr,callers:=cs,status:=.running,dying:=ν} w=_ from Fg,e]
     rfl
    ·cases b with
     |true=>rw[h1 rfl];exact .base h
     |false=>exact .call h (h2 rfl)
   ·left
    rw[hr] at e;refine⟨_,_,Ab1 (o:=.stuck "the deferred calls of a range-over-func loop have been taken" (fr.pos p)) (w':=au) ?_⟩
    rw[show Ϙ p θ {frame:=fr,callers:=cs,status:=.running,dying:=ν} w=_ from Fg,e]
    rfl
def aes:∀(n:Nat) {fr:Ϛ} {cs:List Ϛ} {w:Ψ} {ch:List Abt},fr.mode=.panicking ch->pY (fr::cs)->bO w.heap->
 ∀ {kS:Ϛ} {mJ:List Ϛ} {aa:Ψ},runN p n (ç fr cs w)=.next (ç kS mJ aa)->∃zf,kS.mode=.panicking zf:=by
 intro n;induction n with
 |zero=>
  intro fr cs w ch hm hd hn kS mJ aa e;simp only[runN,ç,Stepped.next.injEq,Machine.mk.injEq] at e;obtain⟨_,e,_⟩:=e;simp only[Array.mk.injEq,List.cons.injEq,Aco] at e;exact⟨ch,e.1.1▸hm⟩
 |succ n ih=>
  intro fr cs w ch hm hd hn kS mJ aa e;simp only[runN] at e;rcases aet (p:=p) hm hd hn with⟨o,aa,h⟩ | ⟨arK,arw,au,ars,h,qz,gh,dn⟩
  ·rw[h] at e;cases e
  ·rw[h] at e
   exact ih qz gh dn e
end Go.Sim
namespace Go.Sim
open Go
section
variable {P:ϕ}{F:Array Å}{C:bX}{G:Nat->Bool}{ρ:Ren}
def az.val{s:Sem υ}(h:az p s):az p (do ϥ (ť (<-s))):=az.bind' h λ_=>trivial
def az.unit{s:Sem Unit}(h:az p s):az p (do s;ϥ Adn):=az.bind' h λ_=>trivial
def az.Gm{t:ό}(h:p.underlying t=φ d){f:ő->Sem α}(hf:az p (f d)):az p (Go.underlying t>>=f):=by
 show az p ((match p.underlying t with
  |some d=>(ϥ d:Sem ő)
  |none=>Go.stuck _)>>=f)
 rw[h];exact hf
def az.convert{s d:ό}(h:Rz P s d)(x:υ):az (tw P F) (Go.convert s d x):=by
 cases h with
 |ints j k h1 h2=>
  unfold Go.convert;refine az.Gm (d:=.int j) (by rw[kJ];exact h1) (az.Gm (d:=.int k) (by rw[kJ];exact h2) ?_)
  cases x;case int=>exact az.aaS _ _
  case float=>exact az.aaR _ _ _
  case pointer q=>cases q<;>exact trivial
  all_goals exact trivial
 |bytes e h1 h2 h3=>
  unfold Go.convert;refine az.Gm (d:=.string) (by rw[kJ];exact h1) (az.Gm (d:=.slice e) (by rw[kJ];exact h2) ?_)
  cases x;case string=>exact az.Gm (d:=.int .u8) (by rw[kJ];exact h3) (az.aaT _ _)
  case slice q n c=>cases q<;>exact trivial
  all_goals exact trivial
def az.callFunc(E:Env P F C G)(f:Â)(x:Array υ):az (tw P F) (Go.callFunc f x):=by
 have TZ:∀fn c,F[f]?=φ fn->fn.body=φ c->(fn.name== "runtime.NumGoroutine")=χ->az (tw P F) (Go.callFunc f x):=by
  intro fn c h1 h3 h5;have e1:(tw P F).funcs[f]?=φ fn:=h1;unfold Go.callFunc;show az (tw P F) (match(tw P F).funcs[f]? with
   |none=>Go.stuck _
   |some fn=>_)
  simp only[e1,h5,h3,Aec,Ð,if_false];trivial
 by_cases hf:C.ok f=θ
 ·obtain⟨fn,c,h1,h2,h3,h4,h5⟩:=E.get f hf
  exact TZ fn c h1 h3 h5
 ·by_cases hh:C.hole f=θ
  ·obtain⟨fn,fn',c,c',h1,h2,h3,h4,h5,h6⟩:=E.EZ f hh
   exact TZ fn c h1 h3 h5
  ·rcases E.dead f (by simpa using hf) (by simpa using hh) with e| ⟨fn,e,D⟩
   ·have e1:(tw P F).funcs[f]?=ν:=e
    unfold Go.callFunc;show az (tw P F) (match(tw P F).funcs[f]? with
     |none=>Go.stuck _
     |some fn=>_)
    simp only[e1];trivial
   ·have e1:(tw P F).funcs[f]?=φ fn:=e
    unfold Go.callFunc;show az (tw P F) (match(tw P F).funcs[f]? with
     |none=>Go.stuck _
     |some fn=>_)
    simp only[e1,D.name,D.body,D.next,D.row,D.init,Option.isNone_none,Ð,if_false,if_true,Bool.false_and];trivial
def az.CG(E:Env P F C G)(hv:aj ρ v v')(x:Array υ):az (tw P F) (do let d <-Acg v x;Go.invoke d.target d.args):=by
 cases hv;case func fn fn' a a' b b' h ha h1 hb h2=>
  cases h with
  |func f=>exact az.callFunc E f _
  |yield hl=>exact az.abW _ _
 case nilFunc=>
  show az (tw P F) (Go.runtimePanic .nilDeref:Sem Next);exact az.runtimePanic _
 case fjunk=>
  have e:(do let d <-Acg (.func (.method "") #[.nilIface] #[]) x;Go.invoke d.target d.args:Sem Next)=Go.runtimePanic .nilDeref:=by
   show Go.invoke (.fn (.method "") #[]) (#[.nilIface]++x)=_;have h0:(#[Value.nilIface]++x)[0]?=φ .nilIface:=by rw[Aaw (by simp)];rfl
   unfold Go.invoke;simp only[h0,Go.callMethod]
  rw[e];exact az.runtimePanic _
 all_goals exact trivial
def az.builtin{p:ϕ}{Q:ϕ}(b:Builtin)(ts:Array ό)(t:ό)(cs:Array Bool)(x:Array υ)(n:Nat)(hb:wN Q ts n b=θ):az p (Go.builtin b ts t cs x):=by
 cases b<;>try(simp[wN] at hb;done)
 case append=>exact az.val (az.aaz _ _ _)
 case clear=>exact az.val (az.aaA _ _ _)
 case copy=>exact az.val (az.aaB _ _ _)
 case len=>exact az.val (az.aaC _ _ _)
 case max=>exact az.val (az.Rp _ _ _)
 case min=>exact az.val (az.Rq _ _ _)
variable {e e':Ë->υ}
def az.execOp(E:Env P F C G)(o:Oper)(ho:k8 P G o=θ)(h:re G ρ e e'):az (tw P F) (Go.execOp e o):=by
 unfold k8 at ho;rw[ϩ] at ho;obtain⟨eT,ag⟩:=ho;have mem:∀x,x∈o.op.operands->aj ρ (e x) (e' x):=λx hx=>h x (Xx eT hx)
 unfold Go.execOp;generalize o.op=op at *;cases op<;>try(simp[jA] at ag;done)
 case move x=>exact trivial
 case assign x=>exact trivial
 case pick c a b=>exact az.bind' (az.asBool _) λ_=>trivial
 case alloc t=>exact az.val (az.abB _ _ _)
 case box t x=>exact az.val (az.abD _ _)
 case build t ps=>exact az.val (az.Se _ _)
 case buildSlice t n ps=>exact az.val (az.abE _ _ _)
 case load t a=>exact az.val (az.abN _ _)
 case store t a x=>exact az.unit (az.abU _ _ _)
 case binOp bop t x y yt=>exact az.val (az.bind' (az.eqGuard _ _ _ _ _ _) λ_=>az.binOp _ _ _ _)
 case unOp u t x=>
  cases u<;>try(simp[jA] at ag;done)
  refine az.val ?_
  unfold Op.unary;cases e x<;>exact trivial
 case convert s d x=>
  refine az.val (az.convert (P:=P) ?_ _)
  simp only[jA,BJ] at ag;split at ag
  ·exact .ints _ _ (by assumption) (by assumption)
  ·unfold BC at ag
   split at ag
   ·exact .bytes _ (by assumption) (by assumption) (by assumption)
   ·cases ag
  ·cases ag
 case nilCheck x=>
  have hx:=mem x (by simp[À])
  simp only;generalize e x=v at hx |-
  generalize e' x=v' at hx;cases hx;case func fn fn' _ _ _ _ hf _ _ _ _=>cases hf<;>exact trivial
  all_goals first|exact trivial|exact az.runtimePanic _
 case makeFunc fn a b=>exact az.val (az.abP _ _ _)
 case makeMap t r=>exact az.val (az.abQ _ _)
 case makeSlice t l c=>exact az.val (az.abR _ _ _)
 case slice t x lo hi mx=>exact az.val (az.abT _ _ _ _ _)
 case fieldAddr s x i=>exact az.val (az.abK _ _ _)
 case field t x i=>exact az.val (az.abJ _ _ _)
 case indexAddr t x i=>exact az.val (az.abM _ _ _)
 case index t x i=>exact az.val (az.abL _ _ _)
 case lookup t x i ok=>exact az.val (az.abO _ _ _ _)
 case mapUpdate t m k x=>exact az.unit (az.abS _ _ _ _)
 case extract x i=>exact az.val (az.abI _ _)
 case call c=>
  obtain⟨callee,args,ts⟩:=c;cases callee with
  |invoke=>simp[jA] at ag
  |value f=>exact az.CG E (mem f (by simp[À,Call.operands])) _
  |builtin b=>exact az.builtin (Q:=P) b ts _ _ _ args.size (by simpa [jA] using ag)
end
end Go.Sim
namespace Go.Sim
open Go
def acm:(Ò p θ fr cs ν s w).bare=(match s.run p w with
 | .ok n au=>Ò p θ fr cs ν (.pure n) au
 | .halt h au=>Ò p θ fr cs ν (.halt h) au).bare:=by
 have e:s.runT p w #[]=(s.run p w,(s.runT p w #[]).2):=Prod.ext (Ady p s w #[]) rfl;unfold Ò;simp only[if_true];rw[e];cases hr:s.run p w with
 |ok n au=>simp only[ľ,Ϥ];try(cases n<;>rfl)
 |halt h au=>simp only[ľ,Ϥ];try(cases h<;>first|rfl| (rename_i u;cases u<;>rfl))
def Sm:Next->Prop
 | .value _| .skip| .enter .. | .round .. =>True
 |_=>False
section
variable {P:ϕ}{F:Array Å}{C:bX}{S:Tl}{G:Nat->Bool}{ρ:Ren}
def Qv{s':Sem Next}(hs:ep (tw P F) P C ρ (lQ C) s s')(hw:cg C ρ w w'):∀n au,s.run (tw P F) w=.ok n au->Sm n:=by
 intro n au hr;obtain⟨bM,n',_,_,_,k,_⟩:=hs ρ ρ.le_refl w {w' with tape:=w.tape,drawn:=w.drawn} #[] (cg.rel ⟨hw.dL,hw.dq,hw.fn,hw.inj,hw.obj⟩ (λ_ _=>rfl)) n au hr
 cases k<;>trivial
def TR{d d':List È}(h:kM S ρ b d d'):DL b d:=by
 induction h with
 |nil=>exact .nil
 |stop=>exact .stop
 |cons hd _ ih=>cases hd;exact .cons _ ih
def YV(h:eo C S ρ b fr ba)(hL:Below C S ρ b cs bu):pY (fr::cs):=by
 induction hL generalizing fr ba with
 |base=>cases h with|mk f ht hk hd hm hr hf=>exact .base (TR hd)
 |call hq aw _ ih=>
  refine .call ?_ (ih hq)
  cases h with|mk f ht hk hd hm hr hf=>exact TR hd
def D8(fr:Ϛ)(v:υ):(fr.finish v).mode=fr.mode/\(fr.finish v).defers=fr.defers:=by
 unfold đ;split<;>exact⟨rfl,rfl⟩
def vM(h:fr.mode=.run):Plain (aT fr cs):=⟨⟨fr,cs,rfl⟩,λch e=>by simp only[h] at e;cases e⟩
def JK(h:fr.mode=.returning):Plain (aT fr cs):=⟨⟨fr,cs,rfl⟩,λch e=>by simp only[h] at e;cases e⟩
def L9(E:Env P F C G)(hs:az (tw P F) s)(hn:bO w.heap)(hm:fr.mode=.run)(hd:pY (fr::cs))
 (xQ:∀n au,s.run (tw P F) w=.ok n au->Sm n):Good (λw=>Ò (tw P F) θ fr cs ν s w) w:=by
 refine Good.congr (λw=>acm) ?_
 refine Good.vS hs (k:=λr=>match r with
  | .ok n au=>Ò (tw P F) θ fr cs ν (.pure n) au
  | .halt h au=>Ò (tw P F) θ fr cs ν (.halt h) au) hn (λn au hr dn=>?_) λh au hr ho dn=>?_
 ·have Wk:=xQ n au hr
  refine Good.congr (g:=λw=>match n with
   | .value v=>.go (aT (fr.finish v) cs) w
   | .skip=>.go (aT (fr.finish ω) cs) w
   | .enter f args=>.go (aT (Ý (tw P F) f args (match fr.todo with| .call _ θ _ _::_=>.wrapped|_=>.normal)) (fr::cs)) w
   | .round l f tmps a b=>.go (aT (Frame.round l f tmps a b .normal) (fr::cs)) w
   |_=>.ended (.stuck "" "") w) (λw=>?_) ?_
  ·unfold Ò
   simp only[if_true,Ϥ,ľ];cases n<;>first|rfl|exact Wk.elim
  ·cases n<;>first|exact Wk.elim|skip
   case value v=>exact Good.pure (vM ((D8 fr v).1.trans hm)) dn
   case skip=>exact Good.pure (vM ((D8 fr ω).1.trans hm)) dn
   case enter f x=>exact Good.pure (vM rfl) dn
   case round l f tm a b=>exact Good.pure (vM rfl) dn
 ·cases h<;>first|exact ho.elim|skip
  case panic v=>
   obtain⟨ch,zO⟩:=raise_mode fr [{v,recovered:=χ}];refine Good.congr (g:=λw=>.go (aT (fr.raise [{v,recovered:=χ}]) cs) w) (λw=>?_) (Good.sM zO ?_ dn)
   ·unfold Ò
    simp only[if_true,Ϥ,ľ]
   ·have:(fr.raise [{v,recovered:=χ}]).defers=fr.defers:=by unfold Ack;split<;>rfl
    cases hd with
    |base h=>exact .base (this▸h)
    |call h t=>exact .call (this▸h) t
  case stuck why=>
   refine Good.congr (g:=λw=>.ended (.stuck why (fr.pos (tw P F))) w) (λw=>?_) Good.ended
   unfold Ò;simp only[if_true,Ϥ,ľ]
  case unsupported u=>
   by_cases hu:∃g,u=.initOrder g
   ·obtain⟨g,rfl⟩:=hu
    refine Good.congr (g:=λw=>early (tw P F) fr cs ν g w) (λw=>?_) ?_
    ·unfold Ò
     simp only[if_true,Ϥ,ľ]
    ·refine Good.congr (g:=λw=>.ended (.unsupported (.initOrder g) (fr.pos (tw P F))) w) (λw=>?_) Good.ended
     unfold early;simp only[E.ahead,E.steps g,Aa4,Ð,if_false]
   ·refine Good.congr (g:=λw=>.ended (.unsupported u (fr.pos (tw P F))) w) (λw=>?_) Good.ended
    unfold Ò;simp only[if_true,Ϥ,ľ];cases u<;>first|rfl|exact(hu ⟨_,rfl⟩).elim
def Good.Gb{s:Sem α}(hs:az p s){q:ϕ}{k:Ę α->ý}(hn:bO w.heap)
 (cD:∀a au,s.run p w=.ok a au->bO au.heap->Good (λw=>k (.ok a w)) au)
 (hh:∀h au,s.run p w=.halt h au->yX h->bO au.heap->Good (λw=>k (.halt h w)) au):Good (λw=>ß (seen q fn (s.runT p w #[]).2) (k (s.runT p w #[]).1)) w:=by
 refine Good.congr (g:=λw=>k (s.run p w)) (λw=>?_) (Good.vS hs hn cD hh)
 rw[ľ,Ady]
def TS(hn:bO w.heap)(cq:eo C S ρ χ fr ba)(hL:Below C S ρ χ cs bu)(m:Bool):Good (λw=>İ (tw P F) m fr cs ν v w) w:=by
 cases cq with
 |mk f ht hk hd hm hr hf=>
  cases hL with
  |call hq aw hL=>
   cases hq with
   |mk f ht hk hd hm hr hf=>
    refine Good.pure (g:=aT (đ _ v) _) ?_ hn
    cases hm with
    |run=>exact vM (D8 _ _).1
    |returning=>exact JK (D8 _ _).1
def Py{w':Ψ}(hn:bO w.heap)(cq:eo C S ρ b fr ba)(hL:Below C S ρ b cs bu)(m:Bool)(j:Option ϖ):Good (λw=>FM (tw P F) m fr cs w j) w:=by
 have ie:=cq;cases cq with
 | @mk f t t' ht k k' hk d d' hd md hm ro jE hr fl hf=>
   unfold FM;cases hr with
   |none=>
    simp only;split
    ·exact Good.pure (JK rfl) hn
    ·exact Good.pure (JK rfl) hn
    ·exact Good.ended
   |some hl=>
    have hb:b=χ:=by
     cases b with
     |false=>rfl
     |true=>exact absurd (hf.base rfl) (by simp)
    subst hb;simp only;refine Good.Gb (az.abG _ _) (k:=λr=>match r with
     | .ok v w=>İ (tw P F) m _ cs ν v w
     | .halt _ w=>.ended (.stuck "range over a function: no such loop" _) w) hn (λa au _ dn=>TS dn ie hL m) λ_ _ _ _ _=>Good.ended
def afy(E:Env P F C G)(hG:∀g,G g=θ->ρ g g)(hn:bO w.heap)(hw:cg C ρ w w')(cq:eo C S ρ q fr ba)(rT:fr.mode=.run)(hL:Below C S ρ q cs bu)(m:Bool):
 Good (λw=>ϱ (tw P F) m θ fr cs ν w) w:=by
 have ie:=cq;have eW:=YV cq hL;have eL:iP C ρ w {w' with tape:=w.tape,drawn:=w.drawn}:=cg.rel ⟨hw.dL,hw.dq,hw.fn,hw.inj,hw.obj⟩ (λ_ _=>rfl)
 cases cq with
 | @mk f t t' ht k k' hk d d' hd md hm ro jE hr fl hf=>
   simp only at rT;subst rT;have cl:∀ {c},C.clean c->cC P G c=θ:=λh=>(E.clean _).1 h
   have lc:∀ {c},cC P G c=θ->C.clean c:=λh=>(E.clean _).2 h
   have pu:∀ {k₁:List Item} {d:List È},Good (λw=>.go (aT ⟨f,t,k₁,d,.run,.normal,ro⟩ cs) w) w:=Good.pure (vM rfl) hn
   have ev:∀ {k k':List Item} {d d':List È} {r r':Option Nat},re G ρ (Þ ⟨f,t,k,d,.run,.normal,r⟩) (Þ ⟨f,t',k',d',.run,fl,r'⟩):=Ec hG ht
   cases hk with
   |nil=>exact Py (w':=w') hn ie hL m ν
   |stop=>exact Good.ended
   | @cons _ i i' k k' hi hk=>
     cases hi with
     |inBlock id=>exact pu
     |inScope c hc=>exact pu
     |inLoop c hc=>exact pu
     |inRangeFunc hl=>exact Good.ended
     |beginRound=>
      refine L9 E (az.unit ?_) hn rfl eW ?_
      ·cases hr with
       |none=>exact trivial
       |some hl=>exact az.abC _
      ·refine Qv (P:=P) (C:=C) (ρ:=ρ) (Sim.Q2 (s':=jE.elim (Go.stuck "beginRound: no round") Ade) ?_) hw
       cases hr with
       |none=>exact Sim.stuck
       |some hl=>exact Sim.beginRound hl
     |endRangeFunc hl=>
      refine Good.Gb (az.abF _) (k:=λr=>match r with
       | .ok jump w=>.go (aT ⟨f,t,(jump.map Item.code).toList++k,d,.run,.normal,ro⟩ cs) w
       | .halt (.panic v) w=>.go (aT ((⟨f,t,_,d,.run,.normal,ro⟩:Ϛ).raise [{v,recovered:=χ}]) cs) w
       | .halt _ w=>.ended (.stuck "range over a function: no such loop" _) w) hn (λa au _ dn=>Good.pure (vM rfl) dn) λh au _ ho dn=>?_
      cases h with
      |panic v=>
       refine Good.sM (fr:=(⟨f,t,_,d,.run,.normal,ro⟩:Ϛ).raise [{v,recovered:=χ}]) (ch:=[{v,recovered:=χ}]) rfl ?_ dn
       cases eW with
       |base h=>exact .base h
       |call h t=>exact .call h t
      |_=>exact Good.ended
     |inRegion id dr ops todo hc=>
      cases todo with
      |nil=>exact pu
      |cons i rest=>
       have Ag:ops.all (k8 P G)=θ:=cl hc;unfold ϱ;simp only;split
       ·unfold stepG.oper
        simp only[Frame.oper?];cases ho:ops[i]? with
        |none=>exact Good.ended
        |some o=>
         have ma:o∈ops:= ļ ho;have jy:k8 P G o=θ:=by simpa using Ģ.1 Ag o ma
         have oN:∀q,o.op≠ .defer q:=λq e=>by simp[k8,jA,e] at jy
         have he:=ev (k:=.inRegion ops (i::rest)::k) (k':=.inRegion ops (i::rest)::k') (d:=d) (d':=d') (r:=ro) (r':=jE);have:=L9 E (az.execOp E o jy he) hn rfl eW (Qv (ep.execOp E o jy he) hw);simp only;cases hr with
         |none=>exact this
         |some hl=>
          cases ag:o.op<;>first|exact absurd ag (oN _) |exact this
       ·exact Good.pure (vM (D8 _ _).1) hn
     |cut hc=>
      rcases mA.TO hc with rfl| ⟨x,y,y',rfl,rfl,ha,hb⟩
      ·exact Good.ended
      ·exact pu
     |code cd hc=>
      have fV:=cl hc;cases cd with
      |skip=>exact pu
      |label l=>exact pu
      |ret=>exact Py (w':=w') hn ie hL m (φ .ret)
      |seq x y=>exact pu
      |cond x y z=>
       unfold ϱ;simp only;split
       ·exact pu
       ·exact Good.ended
      |block id x=>exact pu
      |loop x=>exact pu
      |scope x=>exact pu
      |exit id=>
       have:=Py (P:=P) (F:=F) (w':=w') hn ie hL m (φ (.exit id));unfold ϱ;simp only;cases exitTo id k with
       |none=>exact this
       |some k₁=>exact pu
      |region id ops dr=>
       unfold ϱ;simp only;cases dr with
       |false=>exact pu
       |true=>
        simp only[Aa4,Ð,if_false];refine Good.vS (p:=tw P F) (s:=Go.choose (.order f id)) (az.choose _) (k:=λr=>match r with
         | .ok n w=>.go (aT ⟨f,t,.inRegion ops (Region.schedule ((tw P F).follows .mixedOrders) ops n)::k,d,.run,.normal,ro⟩ cs) w
         | .halt _ w=>.ended (.stuck "order" ((⟨f,t,.code (.region id ops θ)::k,d,.run,.normal,ro⟩:Ϛ).pos (tw P F))) w) hn (λa au _ dn=>?_) (λh au _ _ _=>?_)
        ·exact Good.pure (vM rfl) dn
        ·exact Good.ended
      |rangeFunc g ps x y=>
       simp only[cC,ϩ] at fV;refine Good.Gb (az.abH _ _ _ _ _ _) (k:=λr=>match r with
        | .ok (l,mark) w=>Ò (tw P F) θ ⟨f,t,.inRangeFunc l::k,mark++d,.run,.normal,ro⟩ cs ν
          (do let d <-resolve (Þ ⟨f,t,.inRangeFunc l::k,mark++d,.run,.normal,ro⟩) {callee:=.value g,args:=#[.const (.func (.yield l) #[] #[])],argTypes:=#[]} 0;Go.invoke d.target d.args) w
        | .halt _ w=>.ended (.stuck "range over a function: no such loop" _) w) hn (λa au bh dn=>?_) λ_ _ _ _ _=>Good.ended
       obtain⟨bM,y2,eF,eM,k1,⟨hl,Cj⟩,k3,k4,k5⟩:=Sim.enterLoop (P:=P) (F:=F) (C:=C) f ht ps (lc fV.1.2) (lc fV.2) hr ρ ρ.le_refl w {w' with tape:=w.tape,drawn:=w.drawn} #[] eL a au bh
       obtain⟨l1,Jp⟩:=a;obtain⟨xY,Jq⟩:=y2;simp only at hl Cj |-
       have he:re G bM (Þ ⟨f,t,.inRangeFunc l1::k,Jp++d,.run,.normal,ro⟩) (Þ ⟨f,t',.inRangeFunc xY::k',Jq++d',.run,fl,jE⟩):=Ec (λg hg=>k4.le _ _ (hG g hg)) (ht.mono k4.le)
       have hy:aV bM #[Value.func (.yield l1) #[] #[]] #[Value.func (.yield xY) #[] #[]]:=cf.one (R:=aj bM) (aj.func (.yield hl) rfl (by simp) rfl (by simp))
       refine L9 E ?_ dn rfl ?_ (Qv (Sim.ml (Sim.CG E (he g fV.1.1) (by simpa [Þ] using hy))) k3.core)
       ·exact az.CG E (he g fV.1.1) _
       ·have nI:eo C S bM q ⟨f,t,.inRangeFunc l1::k,Jp++d,.run,.normal,ro⟩ ⟨f,t',.inRangeFunc xY::k',Jq++d',.run,fl,jE⟩:=.mk f (ht.mono k4.le) (.cons (.inRangeFunc hl) (hk.mono k4.le)) (kM.app Cj (hd.mono k4.le)) .run (by
         cases hr with
         |none=>exact .none
         |some h=>exact .some (k4.le _ _ h)) hf
        exact YV nI (hL.mono k4.le)
      |goto l=>simp[cC] at fV
      |refuse s=>simp[cC] at fV
def aql(E:Env P F C G)(hn:bO w.heap)(hw:cg C ρ w w')(cq:eo C S ρ b fr ba)(rT:fr.mode=.returning)(hL:Below C S ρ b cs bu)(m:Bool):
 Good (λw=>Ï (tw P F) m fr cs ν w) w:=by
 have ie:=cq;cases cq with
 | @mk f t t' ht k k' hk d d' hd md hm ro jE hr fl hf=>
   simp only at rT;subst rT;have E6:ro=ν:=by
    rcases Aed ro with e| ⟨x,e⟩
    ·exact e
    ·exact absurd (hf.round (by simp[e])) (by simp)
   subst E6;cases hd with
   |nil=>
    obtain⟨fn,cd,h1,h2,h3,h4,h5⟩:=E.get f (hf.ok rfl rfl);have e1:(tw P F).funcs[f]?=φ fn:=h1;unfold Ï;simp only[e1];refine Good.Gb (az.results _ _) (k:=λr=>match r with
     | .ok v w=>İ (tw P F) m _ cs ν v w
     | .halt (.stuck s) w=>.ended (.stuck s _) w
     | .halt _ w=>.ended (.stuck "return: the result variables cannot be read" _) w) hn (λa au _ dn=>TS dn ie hL m) λh _ _ _ _=>?_
    cases h<;>exact Good.ended
   |stop=>
    refine Good.congr (g:=λw=>.ended (.stuck "call: a method without a receiver" ((⟨f,t,k,[],.returning,.normal,ν⟩:Ϛ).pos (tw P F))) w) (λw=>?_) Good.ended
    unfold Ï ģ cQ;simp[Go.invoke,Go.stuck,Ϥ,bind,ϫ]
   |cons hi hd=>
    cases hi with
    | @collected r r' hb=>
      refine Good.Gb (az.abV _) (k:=λr=>match r with
       | .ok calls w=>.go {frame:={ (⟨f,t,k,_,.returning,.normal,ν⟩:Ϛ) with defers:=calls++_},callers:=cs,status:=.running,dying:=ν} w
       | .halt _ w=>.ended (.stuck "the deferred calls of a range-over-func loop have been taken" _) w) hn (λa au _ dn=>Good.pure (JK rfl) dn) λ_ _ _ _ _=>Good.ended
def apx(E:Env P F C G)(hG:∀g,G g=θ->ρ g g)(hn:bO w.heap)(hw:cg C ρ w w')(cq:eo C S ρ q fr ba)(hL:Below C S ρ q cs bu):
 Good (λw=>Ϙ (tw P F) θ (aT fr cs) w) w:=by
 have ie:=cq;cases cq with
 | @mk f t t' ht k k' hk d d' hd md hm ro jE hr fl hf=>
   cases hm with
   |run=>exact afy E hG hn hw ie rfl hL θ
   |returning=>exact aql E hn hw ie rfl hL θ
end
inductive Safe(p:ϕ)(Q:ϐ->Ψ->Prop):ϐ->Ψ->Prop
 |stop {g:ϐ} {w:Ψ} (h:Q g w):Safe p Q g w
 |step {g:ϐ} {w:Ψ} (nx:Tape->ϐ×Ψ) (h:∀T:Tape,(∃es,Ϙ p θ g (bq w T)=.go (nx T).1 (nx T).2 es)/\Plain (nx T).1) (hs:∀T,Safe p Q (nx T).1 (nx T).2):Safe p Q g w
section
variable {P:ϕ}{F:Array Å}{C:bX}{S:Tl}{G:Nat->Bool}
def Inv(C:bX)(S:Tl)(G:Nat->Bool)(g:ϐ)(w:Ψ):Prop:=
 bO w.heap/\∃(ρ:Ren) (b:Bool) (fr ba:Ϛ) (cs bu:List Ϛ) (w':Ψ),g=aT fr cs/\(∀g,G g=θ->ρ g g)/\eo C S ρ b fr ba/\Below C S ρ b cs bu/\cg C ρ w w'
def cg.left{ρ:Ren}(h:cg C ρ w w')(e:aa.heap=w.heap):cg C ρ aa w':=⟨by rw[e];exact h.dL,h.dq,h.fn,h.inj,by rw[e];exact h.obj⟩
def cg.right{ρ:Ren}(h:cg C ρ w w')(e:aa.heap=w'.heap):cg C ρ w aa:=⟨h.dL,by rw[e];exact h.dq,h.fn,h.inj,by rw[e];exact h.obj⟩
def Inv.bq{g:ϐ}{w:Ψ}(h:Inv C S G g w)(T:Tape):Inv C S G g (bq w T):=by
 obtain⟨hn,ρ,b,fr,ba,cs,bu,w',e,hG,cq,hL,hw⟩:=h;exact⟨hn,ρ,b,fr,ba,cs,bu,w',e,hG,cq,hL,hw.left rfl⟩
def Inv.zr(E:Env P F C G)(h:Inv C S G g w):Good (λw=>Ϙ (tw P F) θ g w) w:=by
 obtain⟨hn,ρ,b,fr,ba,cs,bu,w',e,hG,cq,hL,hw⟩:=h;subst e;exact apx E hG hn hw cq hL
def Inv.step(E:Env P F C G)(hh:∀f,C.hole f=χ){g:ϐ}{w:Ψ}(h:Inv C S G g w){dP:ϐ}{aa:Ψ}{es:Array Ñ}(e:Ϙ (tw P F) θ g w=.go dP aa es)(hp:Plain dP):Inv C S G dP aa:=by
 have ig:=h.zr E;have qF:bO aa.heap:=by
  have:=ig.cls;simp only[e] at this;cases this with
  |plain h hn=>exact hn
  |sM hm hd hn=>exact hn
 obtain⟨hn,ρ,b,fr,ba,cs,bu,w',rfl,hG,cq,hL,hw⟩:=h;have eL:iP C ρ w {w' with tape:=w.tape,drawn:=w.drawn}:=(hw.right (aa:={w' with tape:=w.tape,drawn:=w.drawn}) rfl).rel λ_ _=>rfl
 obtain⟨bM,eB,aF,es',h1,h2,h3,h4,h5⟩:=YS E hG eL cq hL θ θ θ .running .running ν ν dP aa es e hp;cases h2 with
 |inside nI oG=>exact⟨qF,bM,_,_,_,_,_,aF,rfl,λg hg=>h4.le _ _ (hG g hg),nI,oG,h3⟩
 |hole f hf=>rw[hh f] at hf;cases hf
def aku(h:ç fr cs w=ç ba bu w'):fr=ba/\cs=bu/\w=w':=by
 simp only[ç,Machine.mk.injEq] at h;obtain⟨h1,h2,_⟩:=h;simp only[Array.mk.injEq,List.cons.injEq,Aco] at h2;exact⟨h2.1.1,h2.1.2.1,h1⟩
def Qn(E:Env P F C G)(hh:∀f,C.hole f=χ){Q:ϐ->Ψ->Prop}(hQ:∀g w T,Q g w->Q g (bq w T))(hQm:∀g w,Q g w->∀ch,g.frame.mode≠ .panicking ch)
 {BR:ϐ}{aR:Ψ}(hi:Inv C S G BR aR)
 (aiC:∀T:Tape,∃n kS mJ aa,runN (tw P F) n (ç BR.frame BR.callers (bq aR T))=.next (ç kS mJ aa)/\Q (aT kS mJ) aa):Safe (tw P F) Q BR aR:=by
 apply Û;intro Ip
 let St:=ϐ×Ψ
 let Bb:St->Prop:=λx=>Inv C S G x.1 x.2/\¬Safe (tw P F) Q x.1 x.2
 have ai:∀x:St,Bb x->∃T:Tape,∀y:St,(∃es,Ϙ (tw P F) θ x.1 (bq x.2 T)=.go y.1 y.2 es)->Plain y.1->¬Safe (tw P F) Q y.1 y.2:=by
  intro x hx;apply Û;intro br;apply hx.2;have eT:∀T:Tape,∃y:St,(∃es,Ϙ (tw P F) θ x.1 (bq x.2 T)=.go y.1 y.2 es)/\Plain y.1/\Safe (tw P F) Q y.1 y.2:=by
   intro T;apply Û;intro h;exact br ⟨T,λy h1 h2 h3=>h ⟨y,h1,h2,h3⟩⟩
  exact .step (λT=>å (eT T)) (λT=>⟨(Î (eT T)).1,(Î (eT T)).2.1⟩) (λT=>(Î (eT T)).2.2)
 have an:∀x:St,∃T:Tape,Bb x->∀y:St,(∃es,Ϙ (tw P F) θ x.1 (bq x.2 T)=.go y.1 y.2 es)->Plain y.1->¬Safe (tw P F) Q y.1 y.2:=by
  intro x;by_cases hx:Bb x
  ·obtain⟨T,h⟩:=ai x hx
   exact⟨T,λ_=>h⟩
  ·exact⟨λ_ _=>0,λh=>absurd h hx⟩
 obtain⟨τ,hτ⟩:∃τ:St->Tape,∀x,Bb x->∀y:St,(∃es,Ϙ (tw P F) θ x.1 (bq x.2 (τ x))=.go y.1 y.2 es)->Plain y.1->¬Safe (tw P F) Q y.1 y.2:=
  ⟨λx=>å (an x),λx=>Î (an x)⟩
 let Live:St->Prop:=λx=>∃y:St,(∃es,Ϙ (tw P F) θ x.1 (bq x.2 (τ x))=.go y.1 y.2 es)/\Plain y.1
 obtain⟨nx,OG,OH⟩:∃nx:St->St,(∀x,Live x->(∃es,Ϙ (tw P F) θ x.1 (bq x.2 (τ x))=.go (nx x).1 (nx x).2 es)/\Plain (nx x).1)/\∀x,¬Live x->nx x=x:=by
  refine⟨λx=> @dite _ (Live x) (Aa8 _) (λh=>å h) (λ_=>x),λx h=>?_,λx h=>?_⟩
  ·simp only[h,dite_true];exact Î h
  ·simp only[h,dite_false]
 let sq:Nat->St:=λi=>Nat.rec (BR,aR) (λ_ x=>nx x) i
 have sq0:sq 0=(BR,aR):=rfl;have J6:∀i,sq (i+1)=nx (sq i):=λ_=>rfl
 have vi:∀x:St,Bb x->Good (λw=>Ϙ (tw P F) θ x.1 w) (bq x.2 (τ x)):=λx hx=>(hx.1.bq (τ x)).zr E
 have Et:∀i,Bb (sq i):=by
  intro i;induction i with
  |zero=>exact⟨hi,Ip⟩
  |succ i ih=>
   rw[J6];by_cases hl:Live (sq i)
   ·obtain⟨⟨es,h1⟩,h2⟩:=OG _ hl
    exact⟨(ih.1.bq (τ (sq i))).step E hh h1 h2,hτ _ ih _ ⟨es,h1⟩ h2⟩
   ·rw[OH _ hl];exact ih
 have G4:∀i,(sq i).2.drawn<=(sq (i+1)).2.drawn:=by
  intro i;rw[J6];by_cases hl:Live (sq i)
  ·obtain⟨⟨es,h1⟩,h2⟩:=OG _ hl
   have:=(vi _ (Et i)).drawn;simp only[h1,uX] at this;exact this
  ·rw[OH _ hl];exact ϊ _
 have OA:∀i j,i<=j->(sq i).2.drawn<=(sq j).2.drawn:=by
  intro i j h;induction h with
  |refl=>exact ϊ _
  |step _ ih=>exact ϡ ih (G4 _)
 let At:Nat->Nat->Prop:=λj i=>(sq i).2.drawn<=j/\j<(sq (i+1)).2.drawn
 have hAt:∀j i k,At j i->At j k->i=k:=by
  intro j i k h1 h2;rcases Nat.lt_trichotomy i k with h|h|h
  ·have:=OA (i+1) k h;have:=h1.2;have:=h2.1;omega
  ·exact h
  ·have:=OA (k+1) i h;have:=h2.2;have:=h1.1;omega
 let T:Tape:=λj q=> @dite _ (∃i,At j i) (Aa8 _) (λh=>τ (sq (å h)) j q) λ_=>
  @dite _ (∃i,¬Live (sq i)) (Aa8 _) (λh=>τ (sq (å h)) j q) λ_=>0
 have zH:∀i j q,At j i->T j q=τ (sq i) j q:=by
  intro i j q h;have hex:∃i,At j i:=⟨i,h⟩
  show @dite _ (∃i,At j i) (Aa8 _) _ _=_
  simp only[hex,dite_true];rw[hAt j _ i (Î hex) h]
 have NZ:∀i,¬Live (sq i)->∀k,i<=k->sq k=sq i:=by
  intro i hl k hk;induction hk with
  |refl=>rfl
  |step _ ih=>rw[J6,ih,OH _ hl]
 have Ny:∀i j q,¬Live (sq i)->(sq i).2.drawn<=j->T j q=τ (sq i) j q:=by
  intro i j q hl hj;have br:¬ ∃k,At j k:=by
   rintro⟨k,h1,h2⟩;rcases Nat.lt_or_ge k i with h|h
   ·have:=OA (k+1) i h;omega
   ·have e1:=NZ i hl (k+1) (by omega)
    rw[e1] at h2;omega
  have hex:∃i,¬Live (sq i):=⟨i,hl⟩
  show @dite _ (∃i,At j i) (Aa8 _) _ _=_
  simp only[br,dite_false,hex,dite_true];have hc:=Î hex;have:sq (å hex)=sq i:=by
   rcases Nat.le_total i (å hex) with h|h
   ·exact NZ i hl _ h
   ·exact(NZ _ hc _ h).symm
  rw[this]
 have OW:∀i,∃fr cs,(sq i).1=aT fr cs:=by
  intro i;obtain⟨_,_,_,fr,_,cs,_,_,e,_⟩:=(Et i).1;exact⟨fr,cs,e⟩
 have ah9:∀i,Live (sq i)->step (tw P F) (ç (sq i).1.frame (sq i).1.callers (bq (sq i).2 T))=.next (ç (sq (i+1)).1.frame (sq (i+1)).1.callers (bq (sq (i+1)).2 T)):=by
  intro i hl;obtain⟨⟨es,h1⟩,h2⟩:=OG _ hl;rw[<-J6] at h1 h2;have hg:=vi _ (Et i);have sX:=hg.loc T (λj q a b=>by
   simp only[h1,uX] at b;exact zH i j q ⟨a,b⟩)
  simp only[h1] at sX;obtain⟨fr,cs,e⟩:=OW i;obtain⟨⟨Uj,wT,e1⟩,_⟩:=h2;rw[e] at sX |-
  rw[e1] at sX |-
  exact Ab2 sX
 have ahx:∀i,¬Live (sq i)->(∃o aa,step (tw P F) (ç (sq i).1.frame (sq i).1.callers (bq (sq i).2 T))=.ended o aa)\/∃kS mJ aa ch,step (tw P F) (ç (sq i).1.frame (sq i).1.callers (bq (sq i).2 T))=.next (ç kS mJ aa)/\kS.mode=.panicking ch/\pY (kS::mJ)/\bO aa.heap:=by
  intro i hl;have hg:=vi _ (Et i);have sX:=hg.loc T (λj q a _=>Ny i j q hl a)
  have aa9:=hg.cls;obtain⟨fr,cs,e⟩:=OW i;generalize hs:Ϙ (tw P F) θ (sq i).1 (bq (sq i).2 (τ (sq i)))=s at sX aa9;cases aa9 with
  |plain h hn=>exact absurd ⟨(_,_),⟨_,hs⟩,h⟩ hl
  | @ended o w es=>
    left;rw[e] at sX |-
    exact⟨o,_,Ab1 sX⟩
  | @sM Uj wT w1 es ch hm hd hn=>
    right;rw[e] at sX |-
    exact⟨Uj,wT,bq w1 T,ch,Ab2 sX,hm,hd,hn⟩
 have Wf:∀n,(∀i,i<n->Live (sq i))->runN (tw P F) n (ç (sq 0).1.frame (sq 0).1.callers (bq (sq 0).2 T))=.next (ç (sq n).1.frame (sq n).1.callers (bq (sq n).2 T)):=by
  intro n hl;induction n with
  |zero=>rfl
  |succ n ih=>
   rw[runN_add,ih λi hi=>hl i (by omega)]
   simp only[runN,ah9 n (hl n (by omega))]
 obtain⟨n,kS,mJ,aa,bh,hq⟩:=aiC T;have bh:runN (tw P F) n (ç (sq 0).1.frame (sq 0).1.callers (bq (sq 0).2 T))=.next (ç kS mJ aa):=bh;have hnQ:∀i,Q (aT (sq i).1.frame (sq i).1.callers) (bq (sq i).2 T)->False:=by
  intro i h;apply(Et i).2;obtain⟨fr,cs,e⟩:=OW i;have:=hQ _ _ (sq i).2.tape h;rw[e] at this |-
  exact .stop this
 by_cases eT:∀i,i<n->Live (sq i)
 ·have:=Wf n eT
  rw[this] at bh;simp only[Stepped.next.injEq] at bh;obtain⟨e1,e2,e3⟩:=aku bh;subst e1 e2 e3;exact hnQ n hq
 ·
  have:∃i,i<n/\¬Live (sq i)/\∀k,k<i->Live (sq k):=by
   have hex:∃i,i<n/\¬Live (sq i):=by
    apply Û;intro h;exact eT λi hi=>Û λhl=>h ⟨i,hi,hl⟩
   obtain⟨i,hi⟩:=hex;induction i using Nat.strongRecOn with
   |_ i ih=>
    by_cases hk:∃k,k<i/\¬Live (sq k)
    ·obtain⟨k,h1,h2⟩:=hk
     exact ih k h1 ⟨by omega,h2⟩
    ·exact⟨i,hi.1,hi.2,λk rS=>Û λhl=>hk ⟨k,rS,hl⟩⟩
  obtain⟨i,dc,hl,NH⟩:=this;have h1:=Wf i NH;obtain⟨m,rfl⟩:∃m,n=i+(m+1):=⟨n - i - 1,by omega⟩
  have Cq:runN (tw P F) (i+(m+1)) (ç (sq 0).1.frame (sq 0).1.callers (bq (sq 0).2 T))=.next (ç kS mJ aa):=bh;rw[runN_add,h1] at Cq;simp only[runN] at Cq;rcases ahx i hl with⟨o,w2,h2⟩ | ⟨jv,ju,w2,ch,h2,hm,hd,hn⟩
  ·rw[h2] at Cq;cases Cq
  ·rw[h2] at Cq
   obtain⟨ch1,qy⟩:=aes m hm hd hn Cq;exact hQm _ _ hq ch1 qy
end
structure ay where
 O:Nat->Prop
 R:Nat->Prop
def ay.has(M:ay)(b:Nat):Prop:=M.O b\/M.R b
def ay.grow(M:ay)(w w':Ψ):ay:=⟨λb=>M.O b\/(w.heap.size<=b/\b<w'.heap.size),M.R⟩
structure bR(M:ay)(w w':Ψ):Prop where
 size:w.heap.size<=w'.heap.size
 kept:∀b,M.has b->w'.heap[b]?=w.heap[b]?
 tape:w'.tape=w.tape
 os:w'.os=w.os
 e:w'.output=w.output
def bR.refl(M:ay)(w:Ψ):bR M w w:=⟨ϊ _,λ_ _=>rfl,rfl,rfl,rfl⟩
def bR.trans{M:ay}{w aa au:Ψ}(h:bR M w aa)(k:bR M aa au):bR M w au:=
 ⟨ϡ h.size k.size,λb hb=>(k.kept b hb).trans (h.kept b hb),k.tape.trans h.tape,k.os.trans h.os,k.e.trans h.e⟩
def bR.of_heap{M:ay}(h:w'.heap=w.heap)(ht:w'.tape=w.tape)(ho:w'.os=w.os)(hp:w'.output=w.output):bR M w w':=⟨by rw[h];exact ϊ _,λ_ _=>by rw[h],ht,ho,hp⟩
def yP(M:ay)(e:Ñ):Prop:=
 (∃b:Nat,(e.loc=.obj b\/∃c:ϝ,e.loc=.cell c/\c.block=b)/\e.sync=χ/\M.has b/\(e.write=θ->M.O b))\/e.loc=.mark .noRoom\/∃f,e.loc=.mark (.extern f)
structure eZ(M:ay)(w w':Ψ)(es:Array Ñ):Prop where
 size:w.heap.size<=w'.heap.size
 kept:∀b,b<w.heap.size->¬M.O b->w'.heap[b]?=w.heap[b]?
 tape:w'.tape=w.tape
 os:w'.os=w.os
 e:w'.output=w.output
 ev:∀e∈es,yP (M.grow w w') e
def eZ.idle(M:ay)(w:Ψ):eZ M w w #[]:=⟨ϊ _,λ_ _ _=>rfl,rfl,rfl,rfl,by simp⟩
inductive Walk(P:ϕ)(main:Bool)(Stop:ay->ϐ->Ψ->Prop):ay->ϐ->Ψ->Prop
 |stop {M:ay} {g:ϐ} {w:Ψ} (h:∀aa,bR M w aa->Stop M g aa):Walk P main Stop M g w
 |step {M:ay} {g:ϐ} {w:Ψ} (run:g.status=.running) (nx:Ψ->ϐ×Ψ×Array Ñ)
   (h:∀aa,bR M w aa->Ϙ P main g aa=.go (nx aa).1 (nx aa).2.1 (nx aa).2.2/\eZ M aa (nx aa).2.1 (nx aa).2.2)
   (hs:∀aa,bR M w aa->Walk P main Stop (M.grow aa (nx aa).2.1) (nx aa).1 (nx aa).2.1):Walk P main Stop M g w
def Walk.rely{Stop:ay->ϐ->Ψ->Prop}{M:ay}(h:Walk P main Stop M g w)(k:bR M w aa):Walk P main Stop M g aa:=by
 cases h with
 |stop h=>exact .stop λau k2=>h au (k.trans k2)
 |step run nx h hs=>exact .step run nx (λau k2=>h au (k.trans k2)) λau k2=>hs au (k.trans k2)
def Walk.bind{S1 S2:ay->ϐ->Ψ->Prop}{M:ay}(h:Walk P main S1 M g w)(k:∀M g w,S1 M g w->Walk P main S2 M g w):Walk P main S2 M g w:=by
 induction h with
 | @stop M g w h=>
   have:=k M g w (h w (bR.refl M w));exact this
 |step run nx h _ ih=>exact .step run nx h ih
def Walk.mono{S1 S2:ay->ϐ->Ψ->Prop}{M:ay}(h:Walk P main S1 M g w)(k:∀M g w,S1 M g w->S2 M g w):Walk P main S2 M g w:=by
 induction h with
 |stop h=>exact .stop λaa k1=>k _ _ _ (h aa k1)
 |step run nx h _ ih=>exact .step run nx h ih
def Ch(p:ϕ)(y x:ϐ×Ψ):Prop:=∃(T:Tape) (es:Array Ñ),Ϙ p θ x.1 (bq x.2 T)=.go y.1 y.2 es
inductive uE(p:ϕ)(x:ϐ×Ψ):ϐ×Ψ->Prop
 |refl:uE p x x
 |step {y z:ϐ×Ψ} (h:uE p x y) (k:Ch p z y):uE p x z
def uE.trans{x y z:ϐ×Ψ}(h:uE p x y)(k:uE p y z):uE p x z:=by
 induction k with
 |refl=>exact h
 |step _ k ih=>exact .step ih k
structure iO(M:ay)(ρ:Ren)(w w':Ψ)(b6:ay)(aM:Ren)(aa aF:Ψ):Prop where
 le:ρ.le aM
 new:∀a b,aM a b->ρ a b\/(w.heap.size<=a/\w'.heap.size<=b)
 oa:w.heap.size<=aa.heap.size
 gO:w'.heap.size<=aF.heap.size
 lD:∀(a:Nat) (o:Obj),w.heap[a]?=φ o->mw o->aa.heap[a]?=φ o
 jd:∀b:Nat,M.has b->(∀a,ρ a b->∃o,w.heap[a]?=φ o/\mw o)->aF.heap[b]?=w'.heap[b]?
 R:b6.R=M.R
 O:∀b,M.O b->b6.O b
 On:∀b,b6.O b->M.O b\/(w'.heap.size<=b/\b<aF.heap.size)
 tape:aF.tape=w'.tape
 os:aF.os=w'.os
 e:aF.output=w'.output
def iO.refl(M:ay)(ρ:Ren)(w w':Ψ):iO M ρ w w' M ρ w w':=
 ⟨ρ.le_refl,λ_ _ h=>.inl h,ϊ _,ϊ _,λ_ _ h _=>h,λ_ _ _=>rfl,rfl,λ_ h=>h,λ_ h=>.inl h,rfl,rfl,rfl⟩
def ay.vb{M b6:ay}(hR:b6.R=M.R)(hO:∀b,M.O b->b6.O b){b:Nat}(h:M.has b):b6.has b:=h.imp (hO b) λx=>by rw[hR];exact x
def iO.trans{M b6 ry:ay}{ρ aM bM:Ren}{w w' aa aF au eF:Ψ}(h:iO M ρ w w' b6 aM aa aF)(k:iO b6 aM aa aF ry bM au eF)(hM:∀b,M.has b->b<w'.heap.size):iO M ρ w w' ry bM au eF where
 le:=Ren.le_trans h.le k.le
 new a b x:=by
  rcases k.new a b x with x| ⟨x,y⟩
  ·exact h.new a b x
  ·exact .inr ⟨ϡ h.oa x,ϡ h.gO y⟩
 oa:=ϡ h.oa k.oa
 gO:=ϡ h.gO k.gO
 lD a o x f:=k.lD a o (h.lD a o x f) f
 jd b hb hf:=by
  refine(k.jd b (ay.vb h.R h.O hb) λa ha=>?_).trans (h.jd b hb hf)
  rcases h.new a b ha with x| ⟨_,y⟩
  ·obtain⟨o,ho,fo⟩:=hf a x
   exact⟨o,h.lD a o ho fo,fo⟩
  ·have:=hM b hb;omega
 R:=k.R.trans h.R
 O b x:=k.O b (h.O b x)
 On b x:=by
  rcases k.On b x with x| ⟨x,y⟩
  ·rcases h.On b x with x| ⟨x,y⟩
   ·exact .inl x
   ·exact .inr ⟨x,ϟ y k.gO⟩
  ·exact .inr ⟨ϡ h.gO x,y⟩
 tape:=k.tape.trans h.tape
 os:=k.os.trans h.os
 e:=k.e.trans h.e
def iO.keep{M:ay}{ρ:Ren}(h:bR M w' aF):iO M ρ w w' M ρ w aF:=
 ⟨ρ.le_refl,λ_ _ h=>.inl h,ϊ _,h.size,λ_ _ h _=>h,λb hb _=>h.kept b hb,rfl,λ_ h=>h,λ_ h=>.inl h,h.tape,h.os,h.e⟩
def Fits(M:ay)(ρ:Ren)(w:Ψ):Prop:=∀a b,ρ a b->M.O b\/(M.R b/\∃o,w.heap[a]?=φ o/\mw o)
def cg.keep{C:bX}{M:ay}{ρ:Ren}(h:cg C ρ w w')(f:Fits M ρ w)(k:bR M w' aF):cg C ρ w aF where
 dL:=h.dL
 dq a b x:=ϟ (h.dq a b x) k.size
 fn:=h.fn
 inj:=h.inj
 obj a b o x e:=by
  obtain⟨o',h1,h2⟩:=h.obj a b o x e;exact⟨o',by rw[k.kept b ((f a b x).imp id (·.1))];exact h1,h2⟩
section
variable {P:ϕ}{F:Array Å}{C:bX}{S:Tl}{G:Nat->Bool}
structure Rel(P:ϕ)(F:Array Å)(C:bX)(S:Tl)(G:Nat->Bool)(M:ay)(ρ:Ren)(g:ϐ)(w:Ψ)(g':ϐ)(w':Ψ):Prop where
 gr:uG P (tw P F) C S ρ g g'
 core:cg C ρ w w'
 iy:∀g,G g=θ->ρ g g
 fits:Fits M ρ w
 low:∀b,M.has b->b<w'.heap.size
def Rel.keep{M:ay}{ρ:Ren}{g g':ϐ}{w w' aF:Ψ}(h:Rel P F C S G M ρ g w g' w')(k:bR M w' aF):Rel P F C S G M ρ g w g' aF:=
 ⟨h.gr,h.core.keep h.fits k,h.iy,h.fits,λb hb=>ϟ (h.low b hb) k.size⟩
def X7(E:Env P F C G){M:ay}{ρ:Ren}(h:Rel P F C S G M ρ g w g' w')
 (dc:∃b fr ba cs bu,g=aT fr cs/\g'=aT ba bu/\eo C S ρ b fr ba/\Below C S ρ b cs bu)
 {nx:Tape->ϐ×Ψ}(hn:∀T:Tape,(∃es,Ϙ (tw P F) θ g (bq w T)=.go (nx T).1 (nx T).2 es)/\Plain (nx T).1)(main:Bool):
 ∃(T:Tape) (aM:Ren) (eB:ϐ) (aF:Ψ) (es:Array Ñ),Ϙ P main g' w'=.go eB aF es/\eZ M w' aF es/\
  Rel P F C S G (M.grow w' aF) aM (nx T).1 (nx T).2 eB aF/\iO M ρ w w' (M.grow w' aF) aM (nx T).2 aF:=by
 obtain⟨b,fr,ba,cs,bu,rfl,rfl,cq,hL⟩:=dc
 let T:Tape:=λj q=>w'.tape (w'.drawn+(j - w.drawn)) q
 obtain⟨⟨es0,h1⟩,h2⟩:=hn T;have hw:iP C ρ (bq w T) w':=(h.core.left (aa:=bq w T) rfl).rel λj q=>by
  show w'.tape (w'.drawn+(w.drawn+j - w.drawn)) q=w'.tape (w'.drawn+j) q;rw[Nat.add_sub_cancel_left]
 obtain⟨aM,eB,aF,es,k1,k2,k3,k4,k5⟩:=YS E h.iy hw cq hL θ main θ .running .running ν ν _ _ _ h1 h2;have MX:∀b,b<w'.heap.size->¬M.O b->∀a,ρ a b->∃o,w.heap[a]?=φ o/\mw o:=λb _ hb a ha=>((h.fits a b ha).resolve_left hb).2
 have aN:(bq w T).heap.size=w.heap.size:=rfl;have Hm:eZ M w' aF es:=by
  refine⟨k4.gO,λb hb hO=>k4.jd b hb (MX b hb hO),k4.nf,k4.yo,k4.yp,λe he=>?_⟩
  rcases k5 e he with⟨b,a,e1,e2,e3,e4⟩ |x
  ·refine .inl ⟨b,e1,e2,?_⟩
   rcases k4.new a b e3 with x| ⟨x,y⟩
   ·rcases h.fits a b x with o| ⟨r,o,ho,fo⟩
    ·exact⟨.inl (.inl o),λ_=>.inl o⟩
    ·refine⟨.inr r,λFl=>?_⟩
     rcases e4 with e4| ⟨o',pJ,e4⟩
     ·have:=h.core.dL a b x;rw[aN] at e4;omega
     ·have e5:w.heap[a]?=φ o':=pJ
      rw[ho] at e5;obtain rfl:=Ϟ e5;exact absurd fo (e4 Fl)
   ·have hb:=k3.dq a b e3
    exact⟨.inl (.inr ⟨y,hb⟩),λ_=>.inr ⟨y,hb⟩⟩
  ·exact .inr x
 refine⟨T,aM,eB,aF,es,k1,Hm,⟨k2,k3,λg hg=>k4.le _ _ (h.iy g hg),λa b hab=>?_,λb hb=>?_⟩,⟨k4.le,k4.new,k4.oa,k4.gO,k4.lD,λb hb hf=>k4.jd b (h.low b hb) hf,rfl,λ_ x=>.inl x,λ_ x=>x,k4.nf,k4.yo,k4.yp⟩⟩
 ·rcases k4.new a b hab with x| ⟨x,y⟩
  ·rcases h.fits a b x with o| ⟨r,o,ho,fo⟩
   ·exact .inl (.inl o)
   ·exact .inr ⟨r,o,k4.lD a o ho fo,fo⟩
  ·exact .inl (.inr ⟨y,k3.dq a b hab⟩)
 ·rcases hb with(hb|hb) |hb
  ·exact ϟ (h.low b (.inl hb)) k4.gO
  ·exact hb.2
  ·exact ϟ (h.low b (.inr hb)) k4.gO
def Zx(E:Env P F C G)(main:Bool){Q:ϐ->Ψ->Prop}{Stop:ay->ϐ->Ψ->Prop}(hs:Safe (tw P F) Q g w):
 ∀ {M:ay} {ρ:Ren} {g':ϐ} {w':Ψ},Rel P F C S G M ρ g w g' w'->
  (∀(b6:ay) (aM:Ren) (dP:ϐ) (aa:Ψ) (eB:ϐ) (aF:Ψ),Rel P F C S G b6 aM dP aa eB aF->iO M ρ w w' b6 aM aa aF->Safe (tw P F) Q dP aa->uE (tw P F) (g,w) (dP,aa)->
     (Q dP aa\/¬ ∃b fr ba cs bu,dP=aT fr cs/\eB=aT ba bu/\eo C S aM b fr ba/\Below C S aM b cs bu)->Stop b6 eB aF)->Walk P main Stop M g' w':=by
 induction hs with
 | @stop g w h=>
   intro M ρ g' w' hR eW;exact .stop λaa k=>eW M ρ g w g' aa (hR.keep k) (.keep k) (.stop h) .refl (.inl h)
 | @step g w nx h hs ih=>
   intro M ρ g' w' hR eW;by_cases dc:∃b fr ba cs bu,g=aT fr cs/\g'=aT ba bu/\eo C S ρ b fr ba/\Below C S ρ b cs bu
   ·have key:∀aa:Ψ,∃y:ϐ×Ψ×Array Ñ,bR M w' aa->∃(T:Tape) (aM:Ren),Ϙ P main g' aa=.go y.1 y.2.1 y.2.2/\eZ M aa y.2.1 y.2.2/\
     Rel P F C S G (M.grow aa y.2.1) aM (nx T).1 (nx T).2 y.1 y.2.1/\iO M ρ w aa (M.grow aa y.2.1) aM (nx T).2 y.2.1:=by
     intro aa;by_cases k:bR M w' aa
     ·obtain⟨T,aM,eB,aF,es,a1,a2,a3,a4⟩:=X7 E (hR.keep k) dc h main
      exact⟨(eB,aF,es),λ_=>⟨T,aM,a1,a2,a3,a4⟩⟩
     ·exact⟨(g',aa,#[]),λx=>absurd x k⟩
    have bh:g'.status=.running:=by obtain⟨b,fr,ba,cs,bu,_,rfl,_⟩:=dc;rfl
    refine .step bh (λaa=>å (key aa)) (λaa k=>?_) λaa k=>?_
    ·obtain⟨T,aM,a1,a2,a3,a4⟩:=Î (key aa) k
     exact⟨a1,a2⟩
    ·obtain⟨T,aM,a1,a2,a3,a4⟩:=Î (key aa) k
     refine ih T a3 λry bM cz au Ee eF b1 b2 b3 b4 b5=>eW ry bM cz au Ee eF b1 (((iO.keep k).trans a4 hR.low).trans b2 hR.low) b3 ?_ b5
     obtain⟨⟨es,h1⟩,_⟩:=h T;exact uE.trans (.step .refl ⟨T,es,h1⟩) b4
   ·exact .stop λaa k=>eW M ρ g w g' aa (hR.keep k) (.keep k) (.step nx h hs) .refl (.inr dc)
end
end Go.Sim
namespace Go.Sim
open Go Go.Conc
open Go.ConcN (sumTo upd sumTo_upd upd_ne upd_same)
def Jy:Loc->Prop:=λ_=>False
def MT{M:ay}{B:Nat}(h:yP M e)(hB:∀b,M.has b->b<B):EvL Jy B e:=by
 obtain⟨loc,wr,sy⟩:=e;rcases h with⟨b,e1,e2,e3,e4⟩ |e1| ⟨f,e1⟩
 ·simp only at e1 e2 e4
  subst e2;rcases e1 with e1| ⟨c,e1,e5⟩
  ·subst e1
   refine⟨λ_ _ h=>h.elim,by simp,by simp,?_⟩
   cases wr<;>exact hB _ e3
  ·subst e1
   refine⟨λ_ _ h=>h.elim,by simp,by simp,?_⟩
   have:=hB _ e3;rw[<-e5] at this;cases wr<;>exact this
 ·simp only at e1
  subst e1;exact⟨λ_ _ h=>h.elim,by simp,by simp,by cases wr<;>cases sy<;>exact trivial⟩
 ·simp only at e1
  subst e1;exact⟨λ_ _ h=>h.elim,by simp,by simp,by cases wr<;>cases sy<;>exact trivial⟩
def qf(t:Trace):Prop:=∀op∈t,op.act≠ .mark .disable/\op.act≠ .mark .enable
def XF(h:qf t)(g:Nat):∀i,t.deaf g i=0:=by
 intro i;induction i with
 |zero=>rfl
 |succ i ih=>
  unfold Trace.deaf;split
  ·rename_i ag
   exact absurd rfl (h _ (ļ ag)).1
  ·rename_i ag
   exact absurd rfl (h _ (ļ ag)).2
  ·exact ih
def Jz(h:qf t){op:MemOp}(hi:t[i]?=φ op):t.heard i:=⟨op.g,by simp[Trace.g?,hi],XF h _ _⟩
def F0(h:qf t)(g:Nat):Deaf t g=0:=XF h g _
def qf.app{u:Trace}(h:qf t)(k:qf u):qf (t++u):=λop ag=>(Aad.1 ag).elim (h op) (k op)
def PY{M:ay}{g:Nat}{pos:String}(h:∀e∈es,yP M e):qf (MemOp.ofEvents g fn pos es):=by
 intro op ag;obtain⟨e,he,rfl⟩:=Go.Conc.mem_ofEvents ag;obtain⟨loc,wr,sy⟩:=e;rcases h _ he with⟨b,e1,e2,_⟩ |e1| ⟨f,e1⟩
 ·simp only at e1 e2
  subst e2;rcases e1 with e1| ⟨c,e1,_⟩<;>subst e1<;>cases wr<;>exact⟨by simp[ě],by simp[ě]⟩
 ·simp only at e1
  subst e1;exact⟨by simp[ě],by simp[ě]⟩
 ·simp only at e1
  subst e1;exact⟨by simp[ě],by simp[ě]⟩
section
variable {P:ϕ}
structure Fr(P:ϕ)(gs:Array ϐ)(w:Ψ)(t:Trace)(q:Nat->Nat)(g:ϐ):Prop where
 zero:gs[0]?=φ g
 lv:∀i x,0<i->gs[i]?=φ x->QuitsIn P (q i) x
 il:Past Jy w.heap.size t
 nd:qf t
 gb:∀op∈t,op.g<gs.size
def Fr.akb{q:Nat->Nat}(h:Fr P gs w t q g):Leavers P t gs q:=
 ⟨λi x hi hx=>by rw[F0 h.nd];exact QuitsD.of_quitsIn (h.lv i x hi hx),λj _=>F0 h.nd j⟩
def woken_quits{b:ϐ}{k:Nat}(hB:QuitsIn P k b):woken P g g' w' b=b:=woken_quitsD (QuitsD.of_quitsIn hB)
def oW(g:Nat)(fn:Â)(pos:String):MemOp.ofEvents g fn pos #[]=#[]:=by simp[MemOp.ofEvents]
def AA(M:ay)(w:Ψ)(d:Nat):bR M w (w.at d):=bR.of_heap rfl rfl rfl rfl
def Un{sl:Option (Nat×Nat)}{q:Nat->Nat}(h:Fr P gs w t q g)(bh:g.status=.running):
 (∃d bB,stepT P (crowd gs w sl)=runT P (crowd gs (w.at d) bB) 0)\/
 ∃aY d bB ops q',stepT P (crowd gs w sl)=(.next (crowd aY (w.at d) bB),ops)/\aY.size=gs.size/\sumTo aY.size q'<sumTo gs.size q/\Fr P aY (w.at d) (t++ops) q' g:=by
 obtain⟨h0,hL,hP,hN,hG⟩:=h;have vc:∀g∈gs,awake g:=by
  intro x hx;obtain⟨i,hi,rfl⟩:=Aay.1 hx;rcases Nat.eq_zero_or_pos i with rfl|te
  ·have:gs[0]=g:=by simpa [õ hi] using h0
   rw[this];exact awake_of (.inl bh)
  ·exact awake_of ((hL i _ te (õ hi)).status.elim .inl λx=>.inr (.inr x))
 obtain⟨i,x,d,bB,hi,hg,eW⟩:=crowd_pick (P:=P) (w:=w) (sl:=sl) vc ⟨0,g,h0,bh⟩;rcases Nat.eq_zero_or_pos i with rfl|te
 ·exact .inl ⟨d,bB,eW⟩
 ·right
  have hq:=hL i x te hi;have cJ:(i==0)=χ:=by simp;omega
  have ao:i<gs.size:=(ϛ.1 hi).1
  cases qH:q i with
  |zero=>rw[qH] at hq;rw[show x.status=.finished from hq] at hg;cases hg
  |succ k=>
   rw[qH] at hq;rcases hq with hf| ⟨_,g',Fa,oQ⟩
   ·rw[hf] at hg;cases hg
   have vy:=runT_crowd_go (P:=P) (sl:=bB) (i:=i) hi (by rw[cJ];exact Fa (w.at d))
   rw[oW] at vy;have aN:((gs.map (woken P x g' (w.at d))).setIfInBounds i g').size=gs.size:=by simp
   have I2:sumTo gs.size (upd q i k)+(k+1)=sumTo gs.size q+k:=by
    have:=sumTo_upd q k id ao;simpa [qH] using this
   refine⟨(gs.map (woken P x g' (w.at d))).setIfInBounds i g',d,bB,#[],upd q i k,eW.trans vy,aN,by rw[aN];omega,?_,λj y hj hy=>?_,by rw[á];exact hP,by rw[á];exact hN,by rw[á];exactλop ag=>by rw[aN];exact hG op ag⟩
   ·have aw:i≠0:=by omega
    rw[ė aw,Đ,h0]
    simp[woken_run bh]
   ·by_cases qv:i=j
    ·subst qv
     rw[Array.getElem?_setIfInBounds_self_of_lt (by simpa using ao)] at hy
     obtain rfl:=Ϟ hy;rw[upd_same];exact oQ
    ·rw[ė qv,Đ] at hy
     obtain⟨z,hz,rfl⟩:=Č.1 hy;have Aj:=hL j z hj hz;rw[woken_quits Aj,upd_ne q k (Ne.symm qv)];exact Aj
def Ul{sl:Option (Nat×Nat)}{q:Nat->Nat}{dP:ϐ}{M:ay}(h:Fr P gs w t q g)(hs:Ϙ P θ g w=.go dP aa es)(hd:eZ M w aa es)(hM:∀b,M.has b->b<w.heap.size):
 ∃aY ops,runT P (crowd gs w sl) 0=(.next (crowd aY aa sl),ops)/\aY.size=gs.size/\Fr P aY aa (t++ops) q dP:=by
 obtain⟨h0,hL,hP,hN,hG⟩:=h;have vy:=runT_crowd_go (P:=P) (sl:=sl) (i:=0) h0 (show Ϙ P (0==0) g w=_ from hs)
 have ao:0<gs.size:=(ϛ.1 h0).1
 refine⟨_,_,vy,by simp,by simp[ao],λj x hj hx=>?_,(hP.mono hd.size).own λe he=>MT (hd.ev e he) λb hb=>?_,hN.app (PY hd.ev),λop ag=>?_⟩
 ·have aw:0≠j:=by omega
  rw[ė aw,Đ] at hx
  obtain⟨y,hy,rfl⟩:=Č.1 hx;have hq:=hL j y hj hy;rw[woken_quits hq];exact hq
 ·rcases hb with(hb|hb) |hb
  ·exact ϟ (hM b (.inl hb)) hd.size
  ·exact hb.2
  ·exact ϟ (hM b (.inr hb)) hd.size
 ·rw[Array.size_setIfInBounds,Array.size_map]
  rcases Aad.1 ag with ag|ag
  ·exact hG op ag
  ·obtain⟨e,_,rfl⟩:=Go.Conc.mem_ofEvents ag
   exact ao
def BO{M:ay}(hd:eZ M w aa es)(hM:∀b,M.has b->b<w.heap.size):∀b,(M.grow w aa).has b->b<aa.heap.size:=by
 intro b hb;rcases hb with(hb|hb) |hb
 ·exact ϟ (hM b (.inl hb)) hd.size
 ·exact hb.2
 ·exact ϟ (hM b (.inr hb)) hd.size
def DK{Stop:ay->ϐ->Ψ->Prop}{M:ay}(h:Walk P θ Stop M g w):
 ∀(gs:Array ϐ) (sl:Option (Nat×Nat)) (t:Trace) (q:Nat->Nat),Fr P gs w t q g->(∀b,M.has b->b<w.heap.size)->
  ∃(N:Nat) (aY:Array ϐ) (M':ay) (g':ϐ) (w':Ψ) (bB:Option (Nat×Nat)) (t':Trace) (q':Nat->Nat),
    runNT P N (crowd gs w sl) t=(.next (crowd aY w' bB),t')/\aY.size=gs.size/\Stop M' g' w'/\Fr P aY w' t' q' g':=by
 induction h with
 | @stop M g w h=>exactλgs sl t q hF hM=>⟨0,gs,M,g,w,sl,t,q,rfl,rfl,h w (bR.refl M w),hF⟩
 | @step M g w run nx h hs ih=>
   have key:∀(n:Nat) (gs:Array ϐ) (sl:Option (Nat×Nat)) (t:Trace) (q:Nat->Nat) (au:Ψ),sumTo gs.size q<=n->bR M w au->Fr P gs au t q g->(∀b,M.has b->b<au.heap.size)->
    ∃(N:Nat) (aY:Array ϐ) (M':ay) (g':ϐ) (w':Ψ) (bB:Option (Nat×Nat)) (t':Trace) (q':Nat->Nat),
     runNT P N (crowd gs au sl) t=(.next (crowd aY w' bB),t')/\aY.size=gs.size/\Stop M' g' w'/\Fr P aY w' t' q' g':=by
    intro n;induction n with
    |zero=>
     intro gs sl t q au hn k hF hM;rcases Un (sl:=sl) hF run with⟨d,bB,eW⟩ | ⟨aY,d,bB,ops,q',_,_,ao,_⟩
     ·have k2:=k.trans (AA M au d)
      obtain⟨h1,h2⟩:=h _ k2;obtain⟨jw,ops,hr,aN,mL⟩:=Ul (sl:=bB) (w:=au.at d) (M:=M) ⟨hF.zero,hF.lv,hF.il,hF.nd,hF.gb⟩ h1 h2 hM;obtain⟨N,aY,M',g',w',oc,t',q',r1,r2,r3,r4⟩:=ih _ k2 jw bB _ q mL (BO h2 hM);exact⟨N+1,aY,M',g',w',oc,t',q',by simp only[runNT,eW,hr];exact r1,r2.trans aN,r3,r4⟩
     ·omega
    |succ n Fy=>
     intro gs sl t q au hn k hF hM;rcases Un (sl:=sl) hF run with⟨d,bB,eW⟩ | ⟨aY,d,bB,ops,q',eW,aN,ao,mL⟩
     ·have k2:=k.trans (AA M au d)
      obtain⟨h1,h2⟩:=h _ k2;obtain⟨jw,ops,hr,aN,mL⟩:=Ul (sl:=bB) (w:=au.at d) (M:=M) ⟨hF.zero,hF.lv,hF.il,hF.nd,hF.gb⟩ h1 h2 hM;obtain⟨N,aY,M',g',w',oc,t',q',r1,r2,r3,r4⟩:=ih _ k2 jw bB _ q mL (BO h2 hM);exact⟨N+1,aY,M',g',w',oc,t',q',by simp only[runNT,eW,hr];exact r1,r2.trans aN,r3,r4⟩
     ·obtain⟨N,zw,M',g',w',oc,t',Qa,r1,r2,r3,r4⟩:=Fy aY bB (t++ops) q' (au.at d) (by omega) (k.trans (AA M au d)) mL hM
      exact⟨N+1,zw,M',g',w',oc,t',Qa,by simp only[runNT,eW];exact r1,r2.trans aN,r3,r4⟩
   exactλgs sl t q hF hM=>key _ gs sl t q w (ϊ _) (bR.refl M w) hF hM
end
end Go.Sim
