import Derived.Test.YtfifdjajcogccaaGreatDoorZ02
import Derived.Test.YtfifdjajcogccaaGreatDoorZ01
import Derived.Deep.RegionWith
import Derived.Deep.RegionLaw
import Derived.Shelf.Small.Bits
import Derived.Laws.AppendOwnNone
import Derived.ChangeKeysEq
set_option linter.all false
set_option maxHeartbeats 64000000
set_option maxRecDepth 100000
open And renaming intro -> ϑ
open Bool renaming and_eq_true -> Aa3, or_eq_false_iff -> Aib, and_eq_false_iff -> Aic, eq_iff_iff -> Aid
open Classical renaming byContradiction -> Aa5
open Go renaming Calls -> ύ, info_parts -> Ag7, heap_alloc_new -> Aie, maxLen -> ϕ, wpList_append_own -> Ahb, TypeId -> ϋ, wpStill_nil -> Aha
open Go.Calls renaming quiet_of_same -> Aif
open Go.IntKind renaming i64 -> ϛ
open Go.Lib renaming run_eql_slice_nil -> Aig, compareInt -> Aih
open Go.RowKit renaming intOf -> ϗ
open Go.RowKit.Below renaming refl -> ώ, heap_setCell -> Afu
open Go.Value renaming int -> Ϟ
open Go.World renaming cell?_alloc_lt -> Afz, cell?_setCell_far -> Aii
open Int renaming ofNat -> Aij
open List renaming flatMap_cons -> Ahr, length_append -> Af6, length_cons -> Af5, mem_flatMap -> Aik, nil_append -> Agr, getElem?_of_mem -> Aht, set_cons_succ -> Ail, getElem?_eq_some_iff -> ϸ, length_map -> Ah4, mem_of_getElem? -> Ϭ, mem_map -> Ahu, getElem?_eq_getElem -> Af9, drop_eq_getElem_cons -> Aim, drop_eq_nil_of_le -> Ain, range -> Agm, any_eq_true -> Aio, any_eq_false -> Aip, take_succ_cons -> Agi, take_zero -> Agj, drop_succ_cons -> Agk, drop_zero -> Agl, mem_range -> Ahv, flatMap_append -> Agt, getElem?_eq_none -> Ahz
open Nat renaming le_refl -> ϊ, zero_add -> Aiq, le_of_lt -> Agz, le_of_eq -> Agw, zero_le -> ϟ, mul_one -> Agx, le_trans -> Ϧ, lt_succ_iff_lt_or_eq -> Agv
open Prod renaming fst -> Air
open Bool renaming true -> θ, false -> χ
open Go renaming Value -> υ, undef -> ω, World -> Ψ
open Go.Ending renaming returned -> Ω
open Go.IntKind renaming i64 -> κ
open Go.Lib renaming hid -> ψ
open Go.Obj renaming cells -> Ξ
open Go.RowKit renaming Below -> Γ, Below -> Γ
open Go.Value renaming slice -> ζ, pointer -> π, tuple -> μ, agg -> η, int -> ξ
open Option renaming some -> φ, none -> ν
namespace Go.Tw
variable [Go.Tw.aR]
open Go Go.Proofs Go.RowKit
def Te{α:Type}{f:α->List υ}{sz:Nat}(hf:∀x,(f x).length=sz):∀(l:List α) (j:Nat) (u:υ),(l.flatMap f)[j]?=φ u->∃i x r,l[i]?=φ x/\(f x)[r]?=φ u/\j=i * sz+r
 | [],j,u,h=>by simp at h
 |a::l,j,u,h=>by
  rw[Ahr] at h;by_cases hj:j<(f a).length
  ·rw[List.getElem?_append_left hj] at h
   exact⟨0,a,j,rfl,h,by omega⟩
  ·rw[List.getElem?_append_right (by omega),hf] at h
   obtain⟨i,x,r,h1,h2,h3⟩:=Te hf l _ u h;rw[hf] at hj;exact⟨i+1,x,r,by simpa using h1,h2,by rw[Nat.add_mul];omega⟩
def zT{α:Type}{f:α->List υ}{sz:Nat}(hf:∀x,(f x).length=sz):∀(l:List α),(l.flatMap f).length=l.length * sz
 | []=>by simp
 |a::l=>by rw[Ahr,Af6,hf,zT hf l,Af5,Nat.add_mul];omega
def CZ{α:Type}{f:α->List υ}(l:List α)(hf:∀x∈l,∀u∈f x,u.oneCell'=θ):∀u∈l.flatMap f,u.oneCell'=θ:=by
 intro u hu;obtain⟨x,h,hx⟩:=Aik.1 hu;exact hf x h u hx
def Row.cells{α:Type}{w:Ψ}{B sz:Nat}{f:α->List υ}{ad:Addr}{c:Nat}{l:List α}(h:Row w B sz (λx cs=>cs=f x) (ζ (φ ad) l.length c) l)(hf:∀x,(f x).length=sz):
 (∀j u,(l.flatMap f)[j]?=φ u-> w.cell? (ad.add j)=φ u)/\(l≠ []->ad.block<B):=by
 obtain⟨A,c',hv,h1,h2,h3⟩:=h;injection hv with hA
 refine⟨λj u hu=>?_,λaw=>?_⟩
 ·obtain⟨i,x,r,e1,e2,e3⟩:=Te hf l j u hu
  obtain⟨Cs,uZ,_,hc⟩:=h3 (by intro e;rw[e] at e1;simp at e1)
  obtain⟨cs,rfl,_,au⟩:=hc i x e1;rw[uZ] at hA;injection hA with hA
  subst hA;rw[e3];exact au r u e2
 ·obtain⟨Cs,uZ,hb,_⟩:=h3 aw
  rw[uZ] at hA;injection hA with hA
  subst hA;exact hb
def agi:(prog.info? 72).map (λi=>(i.zero,i.size,i.bytes))=φ (φ (η #[.string {data:=#[]},ξ κ 0,ξ κ 0,ξ κ 0]),4,40):=by
 rw[pB];kernel_rfl
def aaI{ad:Addr}{n c:Nat}{news:List υ}{w:Ψ}(hl:news.length=n * 4)(hc:∀j u,news[j]?=φ u-> w.cell? (ad.add j)=φ u)(h1:∀u∈news,u.oneCell'=θ)(hn:n<=1000000)(aC:news≠ []->ad.block<w.heap.size):
 ύ prog 155 #[ζ (φ ad) n c] w λe w'=>∃v,e=Ω v/\w'.ownsRow w.heap.size 72 4 v n news/\Γ w.heap.size w w':=by
 obtain⟨i0,cR,cT,aN,ba⟩:=Ag7 agi;have dv:=ψ (ϑ cR (ϑ cT (ϑ aN ba)));have HC:Hid (∀j u,news[j]?=φ u->(w.alloc (Ξ #[] 72)).cell? (ad.add j)=φ u):=ψ (λj u hu=>(Afz w _ _ (by rw[cq];exact aC (by intro e;rw[e] at hu;simp at hu))).trans (hc j u hu))
 have HL:=ψ (ϑ hl h1);have HO:Hid ((w.alloc (Ξ #[] 72)).ownsRow w.heap.size 72 4 (ζ (φ ⟨w.heap.size,0,ν⟩) 0 0) 0 []):=ψ ⟨rfl,.inr ⟨w.heap.size,0,#[],rfl,ϊ _,Aie w _,ϊ _,by unfold ϕ;omega,rfl,rfl⟩⟩
 clear hl hc h1 cR cT aN ba aC;have q:∀(w:Ψ) (a:Option Addr) (n c n' c':Nat),(binOp .eql 22 (ζ a n c) (ζ ν n' c')).run prog w=.ok (.bool a.isNone) w:=λw a n c n' c'=>Aig w _ _ a n c n' c' (U Tryz.underlying22)
 go_enter func155,Tryz.ntmps155;go_wp2_with (first
  | (at_builtin
     refine Ahb _ rfl (.tmp 5) (.tmp 6) 22 rfl w.heap.size 72 i0 (η #[.string {data:=#[]},ξ κ 0,ξ κ 0,ξ κ 0]) 4 40 (U Tryz.underlying22) dv.e.1 dv.e.2.1 dv.e.2.2.1 dv.e.2.2.2 rfl (by decide) _ 0 _ rfl HO.e ad n c news rfl HL.e.1 HC.e HL.e.2 ?c3 ?c4 ?c5 ?_
     case c3=>(simp only[ϕ];omega)
     case c4=>omega
     case c5=>simp
     intro v' w1 cK dT _;have gW:=ψ cK;have dI:=ψ dT;clear cK dT))
 go_ret;refine⟨_,rfl,by have:=gW.e;rwa[Aiq,Agr] at this,((ώ _ _).alloc (ϊ _) _).grown dI.e (by simp) (λk hk=>ei HO.e k hk)⟩
def aaH(n c:Nat)(w:Ψ):ύ prog 155 #[ζ ν n c] w λe w'=>e=Ω (ζ ν 0 0)/\w=w':=by
 have q:∀(w:Ψ) (a:Option Addr) (n c n' c':Nat),(binOp .eql 22 (ζ a n c) (ζ ν n' c')).run prog w=.ok (.bool a.isNone) w:=λw a n c n' c'=>Aig w _ _ a n c n' c' (U Tryz.underlying22)
 go_enter func155,Tryz.ntmps155;go_wp2;go_ret;exact⟨rfl,rfl⟩
def aaG{α:Type}{f:α->List υ}{v:υ}{l:List α}{w:Ψ}{B:Nat}(h:Row w B 4 (λx cs=>cs=f x) v l)(hB:B<=w.heap.size)(hf:∀x,(f x).length=4)(h1:∀x∈l,∀u∈f x,u.oneCell'=θ)(hn:l.length<=1000000):
 ύ prog 155 #[v] w λe w'=>∃v',e=Ω v'/\w'.ownsRow w.heap.size 72 4 v' l.length (l.flatMap f)/\Γ w.heap.size w w':=by
 obtain⟨A,c,rfl,-⟩:=id h;cases A with
 |none=>
  have hl:l=[]:=by
   obtain⟨A,c',hv,h1,h2,h3⟩:=h;injection hv with hA
   refine Aa5 λaw=>?_
   obtain⟨ad,ha,_⟩:=h3 aw;rw[ha] at hA;cases hA
  subst hl;refine(aaH _ _ w).mono ?_
  rintro e w' ⟨rfl,rfl⟩;exact⟨_,rfl,⟨rfl,.inl ⟨rfl,rfl⟩⟩,ώ _ _⟩
 |some ad=>
  have hc:=h.cells hf;exact aaI (zT hf l) hc.1 (CZ l h1) hn (λaw=>by
   have:=hc.2 (by intro e;rw[e] at aw;simp at aw);omega)
def VI:(prog.info? 59).map (λi=>(i.zero,i.size,i.bytes))=φ (φ (η #[.string {data:=#[]},ξ κ 0,ζ ν 0 0]),3,48):=by
 rw[pB];kernel_rfl
def aaB{ad:Addr}{n c:Nat}{news:List υ}{w:Ψ}(hl:news.length=n * 3)(hc:∀j u,news[j]?=φ u-> w.cell? (ad.add j)=φ u)(h1:∀u∈news,u.oneCell'=θ)(hn:n<=1000000)(aC:news≠ []->ad.block<w.heap.size):
 ύ prog 135 #[ζ (φ ad) n c] w λe w'=>∃v,e=Ω v/\w'.ownsRow w.heap.size 59 3 v n news/\Γ w.heap.size w w':=by
 obtain⟨i0,cR,cT,aN,ba⟩:=Ag7 VI;have dv:=ψ (ϑ cR (ϑ cT (ϑ aN ba)));have HC:Hid (∀j u,news[j]?=φ u->(w.alloc (Ξ #[] 59)).cell? (ad.add j)=φ u):=ψ (λj u hu=>(Afz w _ _ (by rw[cq];exact aC (by intro e;rw[e] at hu;simp at hu))).trans (hc j u hu))
 have HL:=ψ (ϑ hl h1);have HO:Hid ((w.alloc (Ξ #[] 59)).ownsRow w.heap.size 59 3 (ζ (φ ⟨w.heap.size,0,ν⟩) 0 0) 0 []):=ψ ⟨rfl,.inr ⟨w.heap.size,0,#[],rfl,ϊ _,Aie w _,ϊ _,by unfold ϕ;omega,rfl,rfl⟩⟩
 clear hl hc h1 cR cT aN ba aC;have q:∀(w:Ψ) (a:Option Addr) (n c n' c':Nat),(binOp .eql 23 (ζ a n c) (ζ ν n' c')).run prog w=.ok (.bool a.isNone) w:=λw a n c n' c'=>Aig w _ _ a n c n' c' (U Tryz.underlying23)
 go_enter func135,Tryz.ntmps135;go_wp2_with (first
  | (at_builtin
     refine Ahb _ rfl (.tmp 5) (.tmp 6) 23 rfl w.heap.size 59 i0 (η #[.string {data:=#[]},ξ κ 0,ζ ν 0 0]) 3 48 (U Tryz.underlying23) dv.e.1 dv.e.2.1 dv.e.2.2.1 dv.e.2.2.2 rfl (by decide) _ 0 _ rfl HO.e ad n c news rfl HL.e.1 HC.e HL.e.2 ?c3 ?c4 ?c5 ?_
     case c3=>(simp only[ϕ];omega)
     case c4=>omega
     case c5=>simp
     intro v' w1 cK dT _;have gW:=ψ cK;have dI:=ψ dT;clear cK dT))
 go_ret;refine⟨_,rfl,by have:=gW.e;rwa[Aiq,Agr] at this,((ώ _ _).alloc (ϊ _) _).grown dI.e (by simp) (λk hk=>ei HO.e k hk)⟩
def aaA(n c:Nat)(w:Ψ):ύ prog 135 #[ζ ν n c] w λe w'=>e=Ω (ζ ν 0 0)/\w=w':=by
 have q:∀(w:Ψ) (a:Option Addr) (n c n' c':Nat),(binOp .eql 23 (ζ a n c) (ζ ν n' c')).run prog w=.ok (.bool a.isNone) w:=λw a n c n' c'=>Aig w _ _ a n c n' c' (U Tryz.underlying23)
 go_enter func135,Tryz.ntmps135;go_wp2;go_ret;exact⟨rfl,rfl⟩
def Su{α:Type}{f:α->List υ}{v:υ}{l:List α}{w:Ψ}{B:Nat}(h:Row w B 3 (λx cs=>cs=f x) v l)(hB:B<=w.heap.size)(hf:∀x,(f x).length=3)(h1:∀x∈l,∀u∈f x,u.oneCell'=θ)(hn:l.length<=1000000):
 ύ prog 135 #[v] w λe w'=>∃v',e=Ω v'/\w'.ownsRow w.heap.size 59 3 v' l.length (l.flatMap f)/\Γ w.heap.size w w':=by
 obtain⟨A,c,rfl,-⟩:=id h;cases A with
 |none=>
  have hl:l=[]:=by
   obtain⟨A,c',hv,h1,h2,h3⟩:=h;injection hv with hA
   refine Aa5 λaw=>?_
   obtain⟨ad,ha,_⟩:=h3 aw;rw[ha] at hA;cases hA
  subst hl;refine(aaA _ _ w).mono ?_
  rintro e w' ⟨rfl,rfl⟩;exact⟨_,rfl,⟨rfl,.inl ⟨rfl,rfl⟩⟩,ώ _ _⟩
 |some ad=>
  have hc:=h.cells hf;exact aaB (zT hf l) hc.1 (CZ l h1) hn (λaw=>by
   have:=hc.2 (by intro e;rw[e] at aw;simp at aw);omega)
def Oq:(prog.info? 95).map (λi=>(i.zero,i.size,i.bytes))=φ (φ (η #[ζ ν 0 0,ξ κ 0,ξ κ 0]),3,40):=by
 rw[pB];kernel_rfl
def aaO{ad:Addr}{n c:Nat}{news:List υ}{w:Ψ}(hl:news.length=n * 3)(hc:∀j u,news[j]?=φ u-> w.cell? (ad.add j)=φ u)(h1:∀u∈news,u.oneCell'=θ)(hn:n<=1000000)(aC:news≠ []->ad.block<w.heap.size):
 ύ prog 158 #[ζ (φ ad) n c] w λe w'=>∃v,e=Ω v/\w'.ownsRow w.heap.size 95 3 v n news/\Γ w.heap.size w w':=by
 obtain⟨i0,cR,cT,aN,ba⟩:=Ag7 Oq;have dv:=ψ (ϑ cR (ϑ cT (ϑ aN ba)));have HC:Hid (∀j u,news[j]?=φ u->(w.alloc (Ξ #[] 95)).cell? (ad.add j)=φ u):=ψ (λj u hu=>(Afz w _ _ (by rw[cq];exact aC (by intro e;rw[e] at hu;simp at hu))).trans (hc j u hu))
 have HL:=ψ (ϑ hl h1);have HO:Hid ((w.alloc (Ξ #[] 95)).ownsRow w.heap.size 95 3 (ζ (φ ⟨w.heap.size,0,ν⟩) 0 0) 0 []):=ψ ⟨rfl,.inr ⟨w.heap.size,0,#[],rfl,ϊ _,Aie w _,ϊ _,by unfold ϕ;omega,rfl,rfl⟩⟩
 clear hl hc h1 cR cT aN ba aC;have q:∀(w:Ψ) (a:Option Addr) (n c n' c':Nat),(binOp .eql 24 (ζ a n c) (ζ ν n' c')).run prog w=.ok (.bool a.isNone) w:=λw a n c n' c'=>Aig w _ _ a n c n' c' (U Tryz.underlying24)
 go_enter func158,Tryz.ntmps158;go_wp2_with (first
  | (at_builtin
     refine Ahb _ rfl (.tmp 5) (.tmp 6) 24 rfl w.heap.size 95 i0 (η #[ζ ν 0 0,ξ κ 0,ξ κ 0]) 3 40 (U Tryz.underlying24) dv.e.1 dv.e.2.1 dv.e.2.2.1 dv.e.2.2.2 rfl (by decide) _ 0 _ rfl HO.e ad n c news rfl HL.e.1 HC.e HL.e.2 ?c3 ?c4 ?c5 ?_
     case c3=>(simp only[ϕ];omega)
     case c4=>omega
     case c5=>simp
     intro v' w1 cK dT _;have gW:=ψ cK;have dI:=ψ dT;clear cK dT))
 go_ret;refine⟨_,rfl,by have:=gW.e;rwa[Aiq,Agr] at this,((ώ _ _).alloc (ϊ _) _).grown dI.e (by simp) (λk hk=>ei HO.e k hk)⟩
def aaN(n c:Nat)(w:Ψ):ύ prog 158 #[ζ ν n c] w λe w'=>e=Ω (ζ ν 0 0)/\w=w':=by
 have q:∀(w:Ψ) (a:Option Addr) (n c n' c':Nat),(binOp .eql 24 (ζ a n c) (ζ ν n' c')).run prog w=.ok (.bool a.isNone) w:=λw a n c n' c'=>Aig w _ _ a n c n' c' (U Tryz.underlying24)
 go_enter func158,Tryz.ntmps158;go_wp2;go_ret;exact⟨rfl,rfl⟩
def aaM{α:Type}{f:α->List υ}{v:υ}{l:List α}{w:Ψ}{B:Nat}(h:Row w B 3 (λx cs=>cs=f x) v l)(hB:B<=w.heap.size)(hf:∀x,(f x).length=3)(h1:∀x∈l,∀u∈f x,u.oneCell'=θ)(hn:l.length<=1000000):
 ύ prog 158 #[v] w λe w'=>∃v',e=Ω v'/\w'.ownsRow w.heap.size 95 3 v' l.length (l.flatMap f)/\Γ w.heap.size w w':=by
 obtain⟨A,c,rfl,-⟩:=id h;cases A with
 |none=>
  have hl:l=[]:=by
   obtain⟨A,c',hv,h1,h2,h3⟩:=h;injection hv with hA
   refine Aa5 λaw=>?_
   obtain⟨ad,ha,_⟩:=h3 aw;rw[ha] at hA;cases hA
  subst hl;refine(aaN _ _ w).mono ?_
  rintro e w' ⟨rfl,rfl⟩;exact⟨_,rfl,⟨rfl,.inl ⟨rfl,rfl⟩⟩,ώ _ _⟩
 |some ad=>
  have hc:=h.cells hf;exact aaO (zT hf l) hc.1 (CZ l h1) hn (λaw=>by
   have:=hc.2 (by intro e;rw[e] at aw;simp at aw);omega)
def agh:(prog.info? 37).map (λi=>(i.zero,i.size,i.bytes))=φ (φ (η #[ξ κ 0,ξ κ 0]),2,16):=by
 rw[pB];kernel_rfl
def aaL{ad:Addr}{n c:Nat}{news:List υ}{w:Ψ}(hl:news.length=n * 2)(hc:∀j u,news[j]?=φ u-> w.cell? (ad.add j)=φ u)(h1:∀u∈news,u.oneCell'=θ)(hn:n<=1000000)(aC:news≠ []->ad.block<w.heap.size):
 ύ prog 179 #[ζ (φ ad) n c] w λe w'=>∃v,e=Ω v/\w'.ownsRow w.heap.size 37 2 v n news/\Γ w.heap.size w w':=by
 obtain⟨i0,cR,cT,aN,ba⟩:=Ag7 agh;have dv:=ψ (ϑ cR (ϑ cT (ϑ aN ba)));have HC:Hid (∀j u,news[j]?=φ u->(w.alloc (Ξ #[] 37)).cell? (ad.add j)=φ u):=ψ (λj u hu=>(Afz w _ _ (by rw[cq];exact aC (by intro e;rw[e] at hu;simp at hu))).trans (hc j u hu))
 have HL:=ψ (ϑ hl h1);have HO:Hid ((w.alloc (Ξ #[] 37)).ownsRow w.heap.size 37 2 (ζ (φ ⟨w.heap.size,0,ν⟩) 0 0) 0 []):=ψ ⟨rfl,.inr ⟨w.heap.size,0,#[],rfl,ϊ _,Aie w _,ϊ _,by unfold ϕ;omega,rfl,rfl⟩⟩
 clear hl hc h1 cR cT aN ba aC;have q:∀(w:Ψ) (a:Option Addr) (n c n' c':Nat),(binOp .eql 57 (ζ a n c) (ζ ν n' c')).run prog w=.ok (.bool a.isNone) w:=λw a n c n' c'=>Aig w _ _ a n c n' c' (U Tryz.underlying57)
 go_enter func179,Tryz.ntmps179;go_wp2_with (first
  | (at_builtin
     refine Ahb _ rfl (.tmp 5) (.tmp 6) 57 rfl w.heap.size 37 i0 (η #[ξ κ 0,ξ κ 0]) 2 16 (U Tryz.underlying57) dv.e.1 dv.e.2.1 dv.e.2.2.1 dv.e.2.2.2 rfl (by decide) _ 0 _ rfl HO.e ad n c news rfl HL.e.1 HC.e HL.e.2 ?c3 ?c4 ?c5 ?_
     case c3=>(simp only[ϕ];omega)
     case c4=>omega
     case c5=>simp
     intro v' w1 cK dT _;have gW:=ψ cK;have dI:=ψ dT;clear cK dT))
 go_ret;refine⟨_,rfl,by have:=gW.e;rwa[Aiq,Agr] at this,((ώ _ _).alloc (ϊ _) _).grown dI.e (by simp) (λk hk=>ei HO.e k hk)⟩
def aaK(n c:Nat)(w:Ψ):ύ prog 179 #[ζ ν n c] w λe w'=>e=Ω (ζ ν 0 0)/\w=w':=by
 have q:∀(w:Ψ) (a:Option Addr) (n c n' c':Nat),(binOp .eql 57 (ζ a n c) (ζ ν n' c')).run prog w=.ok (.bool a.isNone) w:=λw a n c n' c'=>Aig w _ _ a n c n' c' (U Tryz.underlying57)
 go_enter func179,Tryz.ntmps179;go_wp2;go_ret;exact⟨rfl,rfl⟩
def aaJ{α:Type}{f:α->List υ}{v:υ}{l:List α}{w:Ψ}{B:Nat}(h:Row w B 2 (λx cs=>cs=f x) v l)(hB:B<=w.heap.size)(hf:∀x,(f x).length=2)(h1:∀x∈l,∀u∈f x,u.oneCell'=θ)(hn:l.length<=1000000):
 ύ prog 179 #[v] w λe w'=>∃v',e=Ω v'/\w'.ownsRow w.heap.size 37 2 v' l.length (l.flatMap f)/\Γ w.heap.size w w':=by
 obtain⟨A,c,rfl,-⟩:=id h;cases A with
 |none=>
  have hl:l=[]:=by
   obtain⟨A,c',hv,h1,h2,h3⟩:=h;injection hv with hA
   refine Aa5 λaw=>?_
   obtain⟨ad,ha,_⟩:=h3 aw;rw[ha] at hA;cases hA
  subst hl;refine(aaK _ _ w).mono ?_
  rintro e w' ⟨rfl,rfl⟩;exact⟨_,rfl,⟨rfl,.inl ⟨rfl,rfl⟩⟩,ώ _ _⟩
 |some ad=>
  have hc:=h.cells hf;exact aaL (zT hf l) hc.1 (CZ l h1) hn (λaw=>by
   have:=hc.2 (by intro e;rw[e] at aw;simp at aw);omega)
def VG:(prog.info? 3).map (λi=>(i.zero,i.size,i.bytes))=φ (φ (ξ κ 0),1,8):=by
 rw[pB];kernel_rfl
def aaF{ad:Addr}{n c:Nat}{news:List υ}{w:Ψ}(hl:news.length=n * 1)(hc:∀j u,news[j]?=φ u-> w.cell? (ad.add j)=φ u)(h1:∀u∈news,u.oneCell'=θ)(hn:n<=1000000)(aC:news≠ []->ad.block<w.heap.size):
 ύ prog 180 #[ζ (φ ad) n c] w λe w'=>∃v,e=Ω v/\w'.ownsRow w.heap.size 3 1 v n news/\Γ w.heap.size w w':=by
 obtain⟨i0,cR,cT,aN,ba⟩:=Ag7 VG;have dv:=ψ (ϑ cR (ϑ cT (ϑ aN ba)));have HC:Hid (∀j u,news[j]?=φ u->(w.alloc (Ξ #[] 3)).cell? (ad.add j)=φ u):=ψ (λj u hu=>(Afz w _ _ (by rw[cq];exact aC (by intro e;rw[e] at hu;simp at hu))).trans (hc j u hu))
 have HL:=ψ (ϑ hl h1);have HO:Hid ((w.alloc (Ξ #[] 3)).ownsRow w.heap.size 3 1 (ζ (φ ⟨w.heap.size,0,ν⟩) 0 0) 0 []):=ψ ⟨rfl,.inr ⟨w.heap.size,0,#[],rfl,ϊ _,Aie w _,ϊ _,by unfold ϕ;omega,rfl,rfl⟩⟩
 clear hl hc h1 cR cT aN ba aC;have q:∀(w:Ψ) (a:Option Addr) (n c n' c':Nat),(binOp .eql 33 (ζ a n c) (ζ ν n' c')).run prog w=.ok (.bool a.isNone) w:=λw a n c n' c'=>Aig w _ _ a n c n' c' (U Tryz.underlying33)
 go_enter func180,Tryz.ntmps180;go_wp2_with (first
  | (at_builtin
     refine Ahb _ rfl (.tmp 5) (.tmp 6) 33 rfl w.heap.size 3 i0 (ξ κ 0) 1 8 (U Tryz.underlying33) dv.e.1 dv.e.2.1 dv.e.2.2.1 dv.e.2.2.2 rfl (by decide) _ 0 _ rfl HO.e ad n c news rfl HL.e.1 HC.e HL.e.2 ?c3 ?c4 ?c5 ?_
     case c3=>(simp only[ϕ];omega)
     case c4=>omega
     case c5=>simp
     intro v' w1 cK dT _;have gW:=ψ cK;have dI:=ψ dT;clear cK dT))
 go_ret;refine⟨_,rfl,by have:=gW.e;rwa[Aiq,Agr] at this,((ώ _ _).alloc (ϊ _) _).grown dI.e (by simp) (λk hk=>ei HO.e k hk)⟩
def aaE(n c:Nat)(w:Ψ):ύ prog 180 #[ζ ν n c] w λe w'=>e=Ω (ζ ν 0 0)/\w=w':=by
 have q:∀(w:Ψ) (a:Option Addr) (n c n' c':Nat),(binOp .eql 33 (ζ a n c) (ζ ν n' c')).run prog w=.ok (.bool a.isNone) w:=λw a n c n' c'=>Aig w _ _ a n c n' c' (U Tryz.underlying33)
 go_enter func180,Tryz.ntmps180;go_wp2;go_ret;exact⟨rfl,rfl⟩
def aaD{α:Type}{f:α->List υ}{v:υ}{l:List α}{w:Ψ}{B:Nat}(h:Row w B 1 (λx cs=>cs=f x) v l)(hB:B<=w.heap.size)(hf:∀x,(f x).length=1)(h1:∀x∈l,∀u∈f x,u.oneCell'=θ)(hn:l.length<=1000000):
 ύ prog 180 #[v] w λe w'=>∃v',e=Ω v'/\w'.ownsRow w.heap.size 3 1 v' l.length (l.flatMap f)/\Γ w.heap.size w w':=by
 obtain⟨A,c,rfl,-⟩:=id h;cases A with
 |none=>
  have hl:l=[]:=by
   obtain⟨A,c',hv,h1,h2,h3⟩:=h;injection hv with hA
   refine Aa5 λaw=>?_
   obtain⟨ad,ha,_⟩:=h3 aw;rw[ha] at hA;cases hA
  subst hl;refine(aaE _ _ w).mono ?_
  rintro e w' ⟨rfl,rfl⟩;exact⟨_,rfl,⟨rfl,.inl ⟨rfl,rfl⟩⟩,ώ _ _⟩
 |some ad=>
  have hc:=h.cells hf;exact aaF (zT hf l) hc.1 (CZ l h1) hn (λaw=>by
   have:=hc.2 (by intro e;rw[e] at aw;simp at aw);omega)
end Go.Tw
namespace Go.Tw
variable [Go.Tw.aR]
open Go Go.Proofs Go.RowKit
def cW{α:Type}(w:Ψ)(No:Nat->Prop)(sz:Nat)(R:α->List υ->Prop)(v:υ)(xs:List α):Prop:=
 ∃A c,v=ζ A xs.length c/\xs.length<=c/\c<=ϕ/\(xs≠ []->∃ad,A=φ ad/\ad.block<w.heap.size/\¬No ad.block/\
  ∀i x,xs[i]?=φ x->∃cs,R x cs/\cs.length=sz/\∀j u,cs[j]?=φ u-> w.cell? (ad.add (i * sz+j))=φ u)
section
variable {α:Type}{w w':Ψ}{No Gf:Nat->Prop}{B sz:Nat}{R:α->List υ->Prop}{v:υ}{xs:List α}
def cW.grown{row:Option Nat}(h:cW w No sz R v xs)(hg:w.grownBy w' row)(hr:∀k,row=φ k->No k):cW w' No sz R v xs:=by
 obtain⟨A,c,hv,h1,h2,h3⟩:=h;refine⟨A,c,hv,h1,h2,λhx=>?_⟩
 obtain⟨ad,ha,hb,hn,hc⟩:=h3 hx;refine⟨ad,ha,Nat.lt_of_lt_of_le hb hg.size,hn,λi x hi=>?_⟩
 obtain⟨cs,r,hl,au⟩:=hc i x hi;refine⟨cs,r,hl,λj u hu=>?_⟩
 refine(World.cell?_of_block (hg.block (ad.add (i * sz+j)).block (by rw[cq];exact hb) (λe=>hn ?_))).trans (au j u hu)
 rw[cq] at e;exact hr _ e.symm
def Row.um(h:Row w B sz R v xs)(hB:B<=w.heap.size)(hN:∀k,No k->B<=k):cW w No sz R v xs:=by
 obtain⟨A,c,hv,h1,h2,h3⟩:=h;refine⟨A,c,hv,h1,h2,λhx=>?_⟩
 obtain⟨ad,ha,hb,hc⟩:=h3 hx;exact⟨ad,ha,by omega,λhk=>by have:=hN _ hk;omega,hc⟩
def Row.mem(h:Row w B sz R v xs):∀x∈xs,∃cs,R x cs:=λx hx=>by
 obtain⟨A,c,hv,h1,h2,h3⟩:=h;obtain⟨i,hi⟩:=Aht hx
 obtain⟨ad,ha,hb,hc⟩:=h3 (by intro e;subst e;simp at hi)
 obtain⟨cs,r,_⟩:=hc i x hi;exact⟨cs,r⟩
def cW.row(h:cW w No sz R v xs):Row w w.heap.size sz R v xs:=by
 obtain⟨A,c,hv,h1,h2,h3⟩:=h;refine⟨A,c,hv,h1,h2,λhx=>?_⟩
 obtain⟨ad,ha,hb,hn,hc⟩:=h3 hx;exact⟨ad,ha,hb,hc⟩
def cW.below(h:cW w No sz R v xs)(hb:Γ w.heap.size w w')(hN:∀k,Gf k->No k\/w.heap.size<=k):cW w' Gf sz R v xs:=by
 obtain⟨A,c,hv,h1,h2,h3⟩:=h;refine⟨A,c,hv,h1,h2,λhx=>?_⟩
 obtain⟨ad,ha,hl,hn,hc⟩:=h3 hx;refine⟨ad,ha,Nat.lt_of_lt_of_le hl hb.size,λhk=>?_,λi x hi=>?_⟩
 ·rcases hN _ hk with h|h
  ·exact hn h
  ·omega
 ·obtain⟨cs,r,oz,au⟩:=hc i x hi
  exact⟨cs,r,oz,λj u hu=>(hb.cell (by rw[cq];exact hl)).trans (au j u hu)⟩
def cW.weaken(h:cW w No sz R v xs)(hN:∀k,Gf k->No k):cW w Gf sz R v xs:=h.below (ώ _ _) (λk hk=>Or.inl (hN k hk))
def cW.vO{base:Nat}{e:ϋ}{f:α->List υ}(h:w.ownsRow base e sz v xs.length (xs.flatMap f))(hf:∀x,(f x).length=sz)(hR:∀x∈xs,R x (f x))(hN:∀k,No k->k<base):cW w No sz R v xs:=by
 obtain⟨A,c,hv,h1,h2,h3⟩:=lu (R:=R) h hf hR;refine⟨A,c,hv,h1,h2,λhx=>?_⟩
 obtain⟨ad,ha,hb,hc⟩:=h3 hx;refine⟨ad,ha,hb,λhk=>?_,hc⟩
 have:=ei h ad.block (by rw[hv,ha];rfl)
 have:=hN _ hk;omega
end
def I1{α β:Type}[Inhabited β]{w:Ψ}{B sz:Nat}{R:α->List υ->Prop}{R':α×β->List υ->Prop}{v:υ}{xs:List α}(h:Row w B sz R v xs)(hR:∀x cs,R x cs->∃k,R' (x,k) cs):
 ∃ps:List (α×β),ps.map Air=xs/\Row w B sz R' v ps:=by
 obtain⟨A,c,hv,h1,h2,h3⟩:=h;by_cases hx:xs=[]
 ·subst hx
  exact⟨[],rfl,A,c,hv,h1,h2,λh=>absurd rfl h⟩
 obtain⟨ad,ha,hb,hc⟩:=h3 hx;have hk:∀i,∃k:β,∀x,xs[i]?=φ x->∃cs,R' (x,k) cs/\cs.length=sz/\∀j u,cs[j]?=φ u-> w.cell? (ad.add (i * sz+j))=φ u:=λi=>by
  cases e:xs[i]? with
  |none=>exact⟨default,λx hx=>by cases hx⟩
  |some x=>
   obtain⟨cs,r,hl,au⟩:=hc i x e;obtain⟨k,hk⟩:=hR x cs r;exact⟨k,λy hy=>by injection hy with hy;subst hy;exact⟨cs,hk,hl,au⟩⟩
 obtain⟨K,hK⟩:=Classical.axiomOfChoice hk;refine⟨xs.mapIdx λi x=>(x,K i),?_,A,c,by simpa using hv,by simpa using h1,h2,λ_=>⟨ad,ha,hb,λi p hi=>?_⟩⟩
 ·apply List.ext_getElem?;intro i
  simp;cases xs[i]?<;>rfl
 ·simp only[List.getElem?_mapIdx] at hi
  cases e:xs[i]? with
  |none=>rw[e] at hi;cases hi
  |some x=>
   rw[e] at hi;simp at hi;subst hi
   exact hK i x e
instance:Inhabited υ:=⟨ζ ν 0 0⟩
def vV(p:Piece):List υ:=[.string p.name,ξ κ p.len.lo,ξ κ p.len.hi,ξ κ p.bears]
def eP(p:bR×υ):List υ:=[.string p.1.name,ξ κ p.1.aH,p.2]
def eG(p:Tape×υ):List υ:=[p.2,ξ κ p.1.sum.lo,ξ κ p.1.sum.hi]
def lj{w:Ψ}{base:Nat}{e:ϋ}{sz n:Nat}{v u:υ}{p:Addr}{xs:List υ}(h:w.ownsRow base e sz v n xs)(hp:∀k,v.ownBlock=φ k->p.block≠k):(w.setCell p u).ownsRow base e sz v n xs:=by
 refine⟨h.1,?_⟩
 rcases h.2 with h0| ⟨g,cap,cur,h1,h2,h3,h4⟩
 ·exact .inl h0
 ·exact .inr ⟨g,cap,cur,h1,h2,(Afu _ _ _ _ (by rw[h1] at hp;exact Ne.symm (hp g rfl))).trans h3,h4⟩
def EJ{w w':Ψ}{base:Nat}{e:ϋ}{sz n:Nat}{v:υ}{xs:List υ}{row:Option Nat}(h:w.ownsRow base e sz v n xs)(hg:w.grownBy w' row)(hp:∀k,v.ownBlock=φ k->row≠φ k):w'.ownsRow base e sz v n xs:=by
 refine⟨h.1,?_⟩
 rcases h.2 with h0| ⟨g,cap,cur,h1,h2,h3,h4⟩
 ·exact .inl h0
 ·exact .inr ⟨g,cap,cur,h1,h2,(hg.block g (Array.getElem?_eq_some_iff.1 h3).1 (by rw[h1] at hp;exact Ne.symm (hp g rfl))).trans h3,h4⟩
def vU{w:Ψ}{base:Nat}{e:ϋ}{sz n:Nat}{v:υ}{xs:List υ}(h:w.ownsRow base e sz v n xs)(k:Nat)(hk:v.ownBlock=φ k):k<w.heap.size:=by
 rcases h.2 with⟨h0,_⟩ | ⟨g,cap,cur,h1,h2,h3,h4⟩
 ·rw[h0] at hk;cases hk
 ·rw[h1] at hk;injection hk with hk;subst hk;exact(Array.getElem?_eq_some_iff.1 h3).1
def Be{w:Ψ}{base:Nat}{e:ϋ}{sz n m c:Nat}{A:Option Addr}{xs:List υ}(h:w.ownsRow base e sz (ζ A m c) n xs):m=n:=by
 rcases h.2 with⟨h0,h1⟩ | ⟨g,cap,cur,h1,h2,h3,h4⟩
 ·injection h0 with _ h0;omega
 ·injection h1
def Wt{w:Ψ}{base:Nat}{e:ϋ}{sz n m c:Nat}{A:Option Addr}{xs:List υ}(h:w.ownsRow base e sz (ζ A m c) n xs):m<=c/\c<=2 ^ 63 - 1:=by
 rcases h.2 with⟨h0,h1⟩ | ⟨g,cap,cur,h1,h2,h3,h4,h5,_⟩
 ·injection h0 with _ h0 h2;omega
 ·injection h1 with _ h6 h7;unfold ϕ at h5;omega
def Ww{w:Ψ}{base:Nat}{e:ϋ}{sz n m c:Nat}{A:Option Addr}{xs:List υ}(h:w.ownsRow base e sz (ζ A m c) n xs)(hm:0<m):∃g,A=φ ⟨g,0,ν⟩:=by
 rcases h.2 with⟨h0,h1⟩ | ⟨g,cap,cur,h1,_⟩
 ·injection h0 with _ h0;omega
 ·injection h1 with h1;exact⟨g,h1⟩
def uV(w:Ψ)(p:Addr)(u:υ):w.grownBy (w.setCell p u) (φ p.block):=
 ⟨rfl,rfl,rfl,by simp,λk _ hk=>Afu _ _ _ _ (by intro e;exact hk (by rw[e]))⟩
end Go.Tw
namespace Go.Tw
variable [Go.Tw.aR]
open Go Go.Proofs Go.RowKit
def dP(F:Act->Ψ->Prop):Exit->Act->Ψ->Prop
 | .normal,a,w=>F a w
 |_,_,_=>False
def dP.imp{F:Act->Ψ->Prop}{Q:Exit->Act->Ψ->Prop}(h:∀a w,F a w->Q .normal a w):∀e a w,dP F e a w->Q e a w:=λe a w hf=>by
 cases e<;>first|exact h a w hf|exact(hf:False).elim
def rj(No:Nat->Prop)(g:Nat)(bv tv:υ)(k:Nat):Prop:=bv.ownBlock=φ k\/tv.ownBlock=φ k\/k=g+1\/No k
structure pI(w:Ψ)(No:Nat->Prop)(b:ao)(pv bv tv:υ)(bs:List (bR×υ))(ts:List (Tape×υ)):Prop where
 p:cW w No 4 Piece.R pv b.pieces
 bo:cW w No 3 (λp cs=>cs=eP p) bv bs
 t:cW w No 3 (λp cs=>cs=eG p) tv ts
 oW:bs.map Air=b.aF
 pD:ts.map Air=b.aJ
 kn:∀p∈bs,p.1.name.size<=ϕ/\cW w No 2 Span.R p.2 p.1.cM
 tp:∀p∈ts,cW w No 1 cH p.2 p.1.pieces
structure CI(No:Nat->Prop)(b:ao)(w W:Ψ)(g s1 s2:Nat)(pv bv tv:υ)(bs:List (bR×υ))(ts:List (Tape×υ)):Prop where
 box:Bk W g 26 #[ξ κ b.ag,pv,bv,tv]
 res:∃u0 u1 u2 u3,Bk W (g+1) 26 #[u0,u1,u2,u3]
 p:W.ownsRow (g+2) 72 4 pv b.pieces.length (b.pieces.flatMap vV)
 bo:W.ownsRow s1 59 3 bv bs.length (bs.flatMap eP)
 t:W.ownsRow s2 95 3 tv ts.length (ts.flatMap eG)
 oW:bs.map Air=b.aF
 pD:ts.map Air=b.aJ
 kn:∀p∈bs,cW W (rj No g bv tv) 2 Span.R p.2 p.1.cM
 tp:∀p∈ts,cW W (rj No g bv tv) 1 cH p.2 p.1.pieces
 below:Γ g w W
 gz:g=w.heap.size
 g1:g+2<=s1
 g2:s1<=s2
 pl:∀k,pv.ownBlock=φ k->k<s1
 bl:∀k,bv.ownBlock=φ k->k<s2
def CI.grown{No:Nat->Prop}{b:ao}{w W W':Ψ}{g s1 s2:Nat}{pv bv tv:υ}{bs:List (bR×υ)}{ts:List (Tape×υ)}(h:CI No b w W g s1 s2 pv bv tv bs ts)(hg:W.grownBy W' ν):CI No b w W' g s1 s2 pv bv tv bs ts where
 box:=h.box.grown hg (by simp)
 res:=by obtain⟨u0,u1,u2,u3,hr⟩:=h.res;exact⟨u0,u1,u2,u3,hr.grown hg (by simp)⟩
 p:=EJ h.p hg (by simp)
 bo:=EJ h.bo hg (by simp)
 t:=EJ h.t hg (by simp)
 oW:=h.oW
 pD:=h.pD
 kn p hp:=(h.kn p hp).grown hg (by simp)
 tp p hp:=(h.tp p hp).grown hg (by simp)
 below:=h.below.grown hg (by have:=h.box.lt;omega) (by simp)
 gz:=h.gz
 g1:=h.g1
 g2:=h.g2
 pl:=h.pl
 bl:=h.bl
def Xj{x:bR}{kv jC:υ}:∀ {bs:List (bR×υ)} {i:Nat},bs[i]?=φ (x,kv)->(bs.flatMap eP).set (i * 3+2) jC=(bs.set i (x,jC)).flatMap eP
 | [],i,h=>by simp at h
 |a::l,0,h=>by simp at h;subst h;simp[eP]
 |a::l,i+1,h=>by
  have e:(i+1) * 3+2=(i * 3+2)+1+1+1:=by omega
  have ih:=Xj (jC:=jC) (bs:=l) (i:=i) (by simpa using h)
  rw[e,Ahr];simp only[eP,List.cons_append,Agr,Ail,Ahr];congr 3
def Xk{x:Tape}{kv jC:υ}:∀ {ts:List (Tape×υ)} {i:Nat},ts[i]?=φ (x,kv)->(ts.flatMap eG).set (i * 3) jC=(ts.set i (x,jC)).flatMap eG
 | [],i,h=>by simp at h
 |a::l,0,h=>by simp at h;subst h;simp[eG]
 |a::l,i+1,h=>by
  have e:(i+1) * 3=(i * 3)+1+1+1:=by omega
  have ih:=Xk (jC:=jC) (ts:=l) (i:=i) (by simpa using h)
  rw[e,Ahr];simp only[eG,List.cons_append,Agr,Ail,Ahr];congr 3
def OU{α β:Type}:∀ {l:List (α×β)} {i:Nat} {x:α} {y y':β},l[i]?=φ (x,y)->(l.set i (x,y')).map Air=l.map Air
 | [],i,x,y,y',h=>by simp at h
 |a::l,0,x,y,y',h=>by simp at h;subst h;simp
 |a::l,i+1,x,y,y',h=>by
  rw[Ail,List.map_cons,OU (l:=l) (y:=y) (by simpa using h),List.map_cons]
def mem_set{α:Type}{l:List α}{i:Nat}{a x:α}(h:x∈l.set i a):x∈l\/x=a:=List.mem_or_eq_of_mem_set h
section
variable {No:Nat->Prop}{b:ao}{w W:Ψ}{g s1 s2:Nat}{pv bv tv:υ}{bs:List (bR×υ)}{ts:List (Tape×υ)}
def CI.alm{rb n c i:Nat}{x:bR}{kv jC:υ}(h:CI No b w W g s1 s2 pv (ζ (φ ⟨rb,0,ν⟩) n c) tv bs ts)(hx:bs[i]?=φ (x,kv))(hk:cW W (rj No g (ζ (φ ⟨rb,0,ν⟩) n c) tv) 2 Span.R jC x.cM):
 CI No b w (W.setCell ⟨rb,i * 3+2,ν⟩ jC) g s1 s2 pv (ζ (φ ⟨rb,0,ν⟩) n c) tv (bs.set i (x,jC)) ts:=by
 have hn:n=bs.length:=by
  rcases h.bo.2 with⟨h0,_⟩ | ⟨g',zd,cur,h1,_⟩
  ·cases h0
  ·injection h1
 have ae:=ei h.bo rb rfl;have ak:=h.bl rb rfl;have g1:=h.g1;have hi:=(ϸ.1 hx).1
 have hG:=uV W ⟨rb,i * 3+2,ν⟩ jC;have hN:∀k,φ rb=φ k->rj No g (ζ (φ ⟨rb,0,ν⟩) n c) tv k:=λk e=>Or.inl e
 refine⟨h.box.dn (by simp;omega) _,(by obtain⟨u0,u1,u2,u3,hr⟩:=h.res;exact⟨u0,u1,u2,u3,hr.dn (by simp;omega) _⟩),lj h.p (λk e=>by have:=h.pl k e;simp;omega),?_,lj h.t (λk e=>by have:=ei h.t k e;simp;omega),?_,h.pD,?_,λp hp=>(h.tp p hp).grown hG hN,h.below.setCell (by simp;omega) _,h.gz,h.g1,h.g2,h.pl,h.bl⟩
 ·have:=h.bo
  rw[<-hn] at this;rw[List.length_set,<-hn,<-Xj hx];exact IG this (by omega)
 ·rw[OU hx];exact h.oW
 ·intro p hp
  rcases mem_set hp with hp|rfl
  ·exact(h.kn p hp).grown hG hN
  ·exact hk.grown hG hN
def CI.alo{rb n c i:Nat}{x:Tape}{kv jC:υ}(h:CI No b w W g s1 s2 pv bv (ζ (φ ⟨rb,0,ν⟩) n c) bs ts)(hx:ts[i]?=φ (x,kv))(hk:cW W (rj No g bv (ζ (φ ⟨rb,0,ν⟩) n c)) 1 cH jC x.pieces):
 CI No b w (W.setCell ⟨rb,i * 3,ν⟩ jC) g s1 s2 pv bv (ζ (φ ⟨rb,0,ν⟩) n c) bs (ts.set i (x,jC)):=by
 have hn:n=ts.length:=by
  rcases h.t.2 with⟨h0,_⟩ | ⟨g',zd,cur,h1,_⟩
  ·cases h0
  ·injection h1
 have ae:=ei h.t rb rfl;have g1:=h.g1;have g2:=h.g2;have hi:=(ϸ.1 hx).1
 have hG:=uV W ⟨rb,i * 3,ν⟩ jC;have hN:∀k,φ rb=φ k->rj No g bv (ζ (φ ⟨rb,0,ν⟩) n c) k:=λk e=>Or.inr (Or.inl e)
 refine⟨h.box.dn (by simp;omega) _,(by obtain⟨u0,u1,u2,u3,hr⟩:=h.res;exact⟨u0,u1,u2,u3,hr.dn (by simp;omega) _⟩),lj h.p (λk e=>by have:=h.pl k e;simp;omega),lj h.bo (λk e=>by have:=h.bl k e;simp;omega),?_,h.oW,?_,λp hp=>(h.kn p hp).grown hG hN,?_,h.below.setCell (by simp;omega) _,h.gz,h.g1,h.g2,h.pl,h.bl⟩
 ·have:=h.t
  rw[<-hn] at this;rw[List.length_set,<-hn,<-Xk hx];exact IG this (by omega)
 ·rw[OU hx];exact h.pD
 ·intro p hp
  rcases mem_set hp with hp|rfl
  ·exact(h.tp p hp).grown hG hN
  ·exact hk.grown hG hN
def Bk.drew{w:Ψ}{g:Nat}{t:ϋ}{cs:Array υ}(h:Bk w g t cs):Bk w.drew g t cs:=h
def CI.start{W0 w3 w4 W:Ψ}{q1 q2 q3:υ}(h3:Γ W0.heap.size W0 w3)(h4:Γ w3.heap.size w3 w4)(h5:Γ w4.heap.size w4 W)(hz:w.heap.size+2<=W0.heap.size)
 (kb:Bk W w.heap.size 26 #[ξ κ b.ag,q1,q2,q3])(kr:Bk W (w.heap.size+1) 26 #[ξ κ 0,ζ ν 0 0,ζ ν 0 0,ζ ν 0 0])
 (o9:w3.ownsRow W0.heap.size 72 4 pv b.pieces.length (b.pieces.flatMap vV))(qN:w4.ownsRow w3.heap.size 59 3 bv bs.length (bs.flatMap eP))(Bb:W.ownsRow w4.heap.size 95 3 tv ts.length (ts.flatMap eG))
 (fe:bs.map Air=b.aF)(il:ts.map Air=b.aJ)(hb:∀p∈bs,cW w No 2 Span.R p.2 p.1.cM)(ht:∀p∈ts,cW w No 1 cH p.2 p.1.pieces)(xA:∀k,No k->k<w.heap.size)(bd:Γ w.heap.size w W0):
 CI No b w (((W.setCell ⟨w.heap.size,1,ν⟩ pv).setCell ⟨w.heap.size,2,ν⟩ bv).setCell ⟨w.heap.size,3,ν⟩ tv) w.heap.size w3.heap.size w4.heap.size pv bv tv bs ts:=by
 have e3:=h3.size;have e4:=h4.size;have e5:=h5.size;have bW:Γ w.heap.size w W:=((bd.trans (h3.mono (by omega))).trans (h4.mono (by omega))).trans (h5.mono (by omega))
 have bF:Γ w.heap.size w (((W.setCell ⟨w.heap.size,1,ν⟩ pv).setCell ⟨w.heap.size,2,ν⟩ bv).setCell ⟨w.heap.size,3,ν⟩ tv):=((bW.setCell (ϊ _) _).setCell (ϊ _) _).setCell (ϊ _) _;have l9:=vU o9;have l12:=vU qN;have g9:=ei o9;have g12:=ei qN;have g15:=ei Bb;have hN:∀k,rj No w.heap.size bv tv k->No k\/w.heap.size<=k:=λk hk=>by
  rcases hk with hk|hk|hk|hk
  ·have:=g12 k hk;omega
  ·have:=g15 k hk;omega
  ·omega
  ·exact Or.inl hk
 have p9:W.ownsRow W0.heap.size 72 4 pv b.pieces.length (b.pieces.flatMap vV):=qO (qO o9 h4 (ϊ _)) h5 (ϊ _);have Ol:W.ownsRow w3.heap.size 59 3 bv bs.length (bs.flatMap eP):=qO qN h5 (ϊ _);refine⟨?_,⟨_,_,_,_,((kr.dn (by simp) _).dn (by simp) _).dn (by simp) _⟩,?_,?_,?_,fe,il,λp hp=>(hb p hp).below bF hN,λp hp=>(ht p hp).below bF hN,bF,rfl,by omega,by omega,l9,l12⟩
 ·exact((kb.set 1 pv).set 2 bv).set 3 tv
 ·exact(lj (lj (lj p9 (λk e=>by have:=g9 k e;simp;omega)) (λk e=>by have:=g9 k e;simp;omega)) (λk e=>by have:=g9 k e;simp;omega)).base hz
 ·exact lj (lj (lj Ol (λk e=>by have:=g12 k e;simp;omega)) (λk e=>by have:=g12 k e;simp;omega)) (λk e=>by have:=g12 k e;simp;omega)
 ·exact lj (lj (lj Bb (λk e=>by have:=g15 k e;simp;omega)) (λk e=>by have:=g15 k e;simp;omega)) (λk e=>by have:=g15 k e;simp;omega)
def CI.Gx{rb n c i j:Nat}{p:bR×υ}{u:υ}(h:CI No b w W g s1 s2 pv (ζ (φ ⟨rb,0,ν⟩) n c) tv bs ts)(hx:bs[i]?=φ p)(hu:(eP p)[j]?=φ u): W.cell? ⟨rb,i * 3+j,ν⟩=φ u:=by
 have hn:=Be h.bo;have h2:=h.bo;rw[<-hn] at h2;have:=vT h2 _ _ (GL (f:=eP) (sz:=3) (λ_=>rfl) bs i _ j u hx hu)
 rwa[nu] at this
def CI.Gy{rb n c i j:Nat}{p:Tape×υ}{u:υ}(h:CI No b w W g s1 s2 pv bv (ζ (φ ⟨rb,0,ν⟩) n c) bs ts)(hx:ts[i]?=φ p)(hu:(eG p)[j]?=φ u): W.cell? ⟨rb,i * 3+j,ν⟩=φ u:=by
 have hn:=Be h.t;have h2:=h.t;rw[<-hn] at h2;have:=vT h2 _ _ (GL (f:=eG) (sz:=3) (λ_=>rfl) ts i _ j u hx hu)
 rwa[nu] at this
def CI.ac1{rb n c:Nat}(h:CI No b w W g s1 s2 pv (ζ (φ ⟨rb,0,ν⟩) n c) tv bs ts)(i:Nat): W.frozen? ⟨rb,i,ν⟩=χ:=by
 rcases h.bo.2 with⟨h0,_⟩ | ⟨g',zd,cur,h1,_,h3,_⟩
 ·cases h0
 ·injection h1 with h1;injection h1 with h1;injection h1 with h1;subst h1
  rw[Go.Sim.xm (a:=⟨rb,i,ν⟩) h3];rfl
def CI.ac2{rb n c:Nat}(h:CI No b w W g s1 s2 pv bv (ζ (φ ⟨rb,0,ν⟩) n c) bs ts)(i:Nat): W.frozen? ⟨rb,i,ν⟩=χ:=by
 rcases h.t.2 with⟨h0,_⟩ | ⟨g',zd,cur,h1,_,h3,_⟩
 ·cases h0
 ·injection h1 with h1;injection h1 with h1;injection h1 with h1;subst h1
  rw[Go.Sim.xm (a:=⟨rb,i,ν⟩) h3];rfl
def CI.Ja{i:Nat}{u:υ}(h:CI No b w W g s1 s2 pv bv tv bs ts)(hi:i<4):CI No b w (W.setCell ⟨g+1,i,ν⟩ u) g s1 s2 pv bv tv bs ts:=by
 have g1:=h.g1;have g2:=h.g2;have hG:=uV W ⟨g+1,i,ν⟩ u;have hN:∀k,φ (g+1)=φ k->rj No g bv tv k:=λk e=>Or.inr (Or.inr (Or.inl (by injection e with e;exact e.symm)))
 refine⟨h.box.dn (by simp) _,?_,lj h.p (λk e=>by have:=ei h.p k e;simp;omega),lj h.bo (λk e=>by have:=ei h.bo k e;simp;omega),lj h.t (λk e=>by have:=ei h.t k e;simp;omega),h.oW,h.pD,λp hp=>(h.kn p hp).grown hG hN,λp hp=>(h.tp p hp).grown hG hN,h.below.setCell (by simp) _,h.gz,h.g1,h.g2,h.pl,h.bl⟩
 obtain⟨u0,u1,u2,u3,hr⟩:=h.res;have:=hr.set i u;match i,hi with
 |0,_=>exact⟨u,u1,u2,u3,this⟩
 |1,_=>exact⟨u0,u,u2,u3,this⟩
 |2,_=>exact⟨u0,u1,u,u3,this⟩
 |3,_=>exact⟨u0,u1,u2,u,this⟩
def yY{α β:Type}{w:Ψ}{B sz:Nat}{R':α×β->List υ->Prop}{R:α->List υ->Prop}{v:υ}{ps:List (α×β)}(h:Row w B sz R' v ps)(hR:∀p∈ps,∀cs,R' p cs->R p.1 cs):Row w B sz R v (ps.map Air):=by
 obtain⟨A,c,hv,h1,h2,h3⟩:=h;refine⟨A,c,by rw[Ah4];exact hv,by rw[Ah4];exact h1,h2,λaw=>?_⟩
 obtain⟨ad,ha,hb,hc⟩:=h3 (by intro e;rw[e] at aw;exact aw rfl)
 refine⟨ad,ha,hb,λi x hi=>?_⟩
 rw[List.getElem?_map] at hi
 cases e:ps[i]? with
 |none=>rw[e] at hi;cases hi
 |some p=>
  rw[e] at hi;simp at hi;subst hi
  obtain⟨cs,r,hl,au⟩:=hc i p e;exact⟨cs,hR p (Ϭ e) cs r,hl,au⟩
def CI.ZO(h:CI No b w W g s1 s2 pv bv tv bs ts)(hp:∀p∈b.pieces,p.name.size<=ϕ)(hx:∀x∈b.aF,x.name.size<=ϕ)(xA:∀k,No k->k<g):pI W No b pv bv tv bs ts:=by
 have g1:=h.g1;have g2:=h.g2;refine⟨cW.vO h.p (λ_=>rfl) (λp hm=>⟨rfl,hp p hm⟩) (λk hk=>by have:=xA k hk;omega),cW.vO h.bo (λ_=>rfl) (λp hm=>rfl) (λk hk=>by have:=xA k hk;omega),cW.vO h.t (λ_=>rfl) (λp hm=>rfl) (λk hk=>by have:=xA k hk;omega),h.oW,h.pD,λp hm=>⟨hx p.1 ?_,(h.kn p hm).weaken λk hk=>Or.inr (Or.inr (Or.inr hk))⟩,λp hm=>(h.tp p hm).weaken λk hk=>Or.inr (Or.inr (Or.inr hk))⟩
 rw[<-h.oW];exact Ahu.2 ⟨p,hm,rfl⟩
def pI.grown{W':Ψ}{row:Option Nat}(h:pI W No b pv bv tv bs ts)(hg:W.grownBy W' row)(hr:∀k,row=φ k->No k):pI W' No b pv bv tv bs ts:=
 ⟨h.p.grown hg hr,h.bo.grown hg hr,h.t.grown hg hr,h.oW,h.pD,λp hp=>⟨(h.kn p hp).1,(h.kn p hp).2.grown hg hr⟩,λp hp=>(h.tp p hp).grown hg hr⟩
def pI.book(h:pI W No b pv bv tv bs ts):bg W W.heap.size b pv bv tv:=by
 refine⟨h.p.row,?_,?_⟩
 ·rw[<-h.oW]
  exact yY h.bo.row (λp hm cs hc=>⟨p.2,hc,(h.kn p hm).1,(h.kn p hm).2.row⟩)
 ·rw[<-h.pD]
  exact yY h.t.row (λp hm cs hc=>⟨p.2,hc,(h.tp p hm).row⟩)
def bg.um{B:Nat}(h:bg W B b pv bv tv)(hB:B<=W.heap.size)(hN:∀k,No k->B<=k):∃bs ts,pI W No b pv bv tv bs ts:=by
 obtain⟨bs,fe,xH⟩:=I1 (R':=λ(p:bR×υ) cs=>cs=eP p/\p.1.name.size<=ϕ/\Row W B 2 Span.R p.2 p.1.cM) h.aF (λx cs ⟨kv,h1,h2,h3⟩=>⟨kv,h1,h2,h3⟩)
 obtain⟨ts,il,pg⟩:=I1 (R':=λ(p:Tape×υ) cs=>cs=eG p/\Row W B 1 cH p.2 p.1.pieces) h.aJ (λx cs ⟨kv,h1,h3⟩=>⟨kv,h1,h3⟩)
 have ox:∀p∈bs,p.1.name.size<=ϕ/\Row W B 2 Span.R p.2 p.1.cM:=λp hp=>by obtain⟨cs,h1,h2⟩:=xH.mem p hp;exact h2
 have rS:∀p∈ts,Row W B 1 cH p.2 p.1.pieces:=λp hp=>by obtain⟨cs,h1,h2⟩:=pg.mem p hp;exact h2
 exact⟨bs,ts,h.pieces.um hB hN,(xH.still (Δ.refl W) λ_ _ h=>h.1).um hB hN,(pg.still (Δ.refl W) λ_ _ h=>h.1).um hB hN,fe,il,λp hp=>⟨(ox p hp).1,(ox p hp).2.um hB hN⟩,λp hp=>(rS p hp).um hB hN⟩
end
end Go.Tw
namespace Go.Tw
variable [Go.Tw.aR]
open Go Go.Proofs Go.RowKit
def ajI(x:Piece):∀u∈vV x,u.oneCell'=θ:=by simp[vV,Value.oneCell']
def ago(x:Int):∀u∈ [ξ κ x],u.oneCell'=θ:=by simp[Value.oneCell']
def al5(x:Span):∀u∈Span.vs x,u.oneCell'=θ:=by simp[Span.vs,Value.oneCell']
def Rh(v:υ):Prop:=∃A n c,v=ζ A n c
def pw{w:Ψ}{base:Nat}{e:ϋ}{sz n:Nat}{v:υ}{xs:List υ}(h:w.ownsRow base e sz v n xs):Rh v:=j8 h
def copied{No:Nat->Prop}{w:Ψ}{b:ao}{pv bv tv:υ}{bs:List (bR×υ)}{ts:List (Tape×υ)}(hN:pI w No b pv bv tv bs ts)(xA:∀k,No k->k<w.heap.size)(hv:Valid b):
 ύ prog 136 #[η #[ξ κ b.ag,pv,bv,tv]] w λe w'=>∃ix ia fD oV qT,e=Ω (η #[ξ κ b.ag,ix,ia,fD])/\pI w' No b ix ia fD oV qT/\Γ w.heap.size w w':=by
 have ai:=hN.book;have HP:Hid (Row w w.heap.size 4 (λx cs=>cs=vV x) pv b.pieces):=ψ (ai.pieces.still (Δ.refl w) λ_ _ h=>h.1)
 have fe:=hN.oW;have il:=hN.pD;have ox:∀p∈bs,cW w No 2 Span.R p.2 p.1.cM:=λp hp=>(hN.kn p hp).2
 have rS:∀p∈ts,cW w No 1 cH p.2 p.1.pieces:=hN.tp
 have YR:Hid (∀p∈b.pieces,p.name.size<=ϕ):=ψ (λp hp=>by obtain⟨cs,h1,h2⟩:=ai.pieces.mem p hp;exact h2)
 have Y1:Hid (∀x∈b.aF,x.name.size<=ϕ):=ψ (λp hp=>by obtain⟨cs,kv,h1,h2,h3⟩:=ai.aF.mem p hp;exact h2)
 have F4:Hid (Row w w.heap.size 3 (λp cs=>cs=eP p) bv bs):=ψ hN.bo.row
 have YZ:Hid (Row w w.heap.size 3 (λp cs=>cs=eG p) tv ts):=ψ hN.t.row
 have sT:=ψ xA;have hB:w.heap.size<=w.heap.size:=ϊ _;have Dq:∀p∈bs,∀u∈eP p,u.oneCell'=θ:=λp hp u hu=>by
  obtain⟨A,c,e,_⟩:=(ox p hp);simp[eP] at hu;rcases hu with rfl|rfl|rfl
  ·rfl
  ·rfl
  ·rw[e];rfl
 have Vk:∀p∈ts,∀u∈eG p,u.oneCell'=θ:=λp hp u hu=>by
  obtain⟨A,c,e,_⟩:=rS p hp;simp[eG] at hu;rcases hu with rfl|rfl|rfl
  ·rw[e];rfl
  ·rfl
  ·rfl
 have fX:bs.length=b.aF.length:=by rw[<-fe,Ah4]
 have qG:ts.length=b.aJ.length:=by rw[<-il,Ah4]
 have C1:Hid (∀w',Δ w.heap.size w w'->w.heap.size<=w'.heap.size->ύ prog 155 #[pv] w' λe bq=>∃v',e=Ω v'/\bq.ownsRow w'.heap.size 72 4 v' b.pieces.length (b.pieces.flatMap vV)/\Γ w'.heap.size w' bq):=
  ψ λw' hs hz=>aaG (HP.e.still hs λ_ _ h=>h) hz (λ_=>rfl) (λp _=>ajI p) (by have:=hv.np;omega)
 have C2:Hid (∀w',Δ w.heap.size w w'->w.heap.size<=w'.heap.size->ύ prog 135 #[bv] w' λe bq=>∃v',e=Ω v'/\bq.ownsRow w'.heap.size 59 3 v' bs.length (bs.flatMap eP)/\Γ w'.heap.size w' bq):=
  ψ λw' hs hz=>Su (F4.e.still hs λ_ _ h=>h) hz (λ_=>rfl) Dq (by have:=hv.nb;omega)
 have C3:Hid (∀w',Δ w.heap.size w w'->w.heap.size<=w'.heap.size->ύ prog 158 #[tv] w' λe bq=>∃v',e=Ω v'/\bq.ownsRow w'.heap.size 95 3 v' ts.length (ts.flatMap eG)/\Γ w'.heap.size w' bq):=
  ψ λw' hs hz=>aaM (YZ.e.still hs λ_ _ h=>h) hz (λ_=>rfl) Vk (by have:=hv.nt;omega)
 have HM:=ψ (ϑ ox (ϑ rS (ϑ fe (ϑ il (ϑ fX qG)))));obtain⟨A1,n1,c1,rfl,-⟩:=ai.pieces.Φ;obtain⟨A2,n2,c2,rfl,-⟩:=ai.aF.Φ;obtain⟨A3,n3,c3,rfl,-⟩:=ai.aJ.Φ;have HV:=ψ hv;clear ai hv ox rS Dq Vk fe il fX qG hN xA;go_enter func136,Tryz.ntmps136;go_wp2;obtain⟨W0,z8⟩:∃W0,W0=((w.alloc (Ξ #[ξ κ b.ag,ζ A1 n1 c1,ζ A2 n2 c2,ζ A3 n3 c3] 26)).alloc (Ξ #[ξ κ 0,ζ ν 0 0,ζ ν 0 0,ζ ν 0 0] 26)):=⟨_,rfl⟩
 rw[<-z8];have kb:Bk W0 w.heap.size 26 #[ξ κ b.ag,ζ A1 n1 c1,ζ A2 n2 c2,ζ A3 n3 c3]:=by rw[z8];exact(Bk.new w _ _).alloc _
 have kr:Bk W0 (w.heap.size+1) 26 #[ξ κ 0,ζ ν 0 0,ζ ν 0 0,ζ ν 0 0]:=by rw[z8];exact Bk.cG (by simp) _ _
 have bw:Γ w.heap.size w W0:=by rw[z8];exact(((ώ _ _).alloc (ϊ _) _).alloc (by simp) _)
 have cT:W0.heap.size=w.heap.size+2:=by rw[z8];simp
 have KB:=ψ (ϑ kb kr);have BW:=ψ bw;have k1:=kb.cell 1;have k2:=kb.cell 2;have k3:=kb.cell 3;clear z8 kb kr bw;have KD:Hid (Bk W0.drew w.heap.size 26 #[ξ κ b.ag,ζ A1 n1 c1,ζ A2 n2 c2,ζ A3 n3 c3]):=ψ KB.e.1;have BD:Hid (Γ w.heap.size w W0.drew):=ψ (iY BW.e);have ZD:w.heap.size<W0.drew.heap.size:=KD.e.lt;have SB:Hid (∀w',Γ w.heap.size w w'->Δ w.heap.size w w'/\w.heap.size<=w'.heap.size):=ψ λw' h=>⟨Δ.aK h hB,by have:=h.size;omega⟩
 refine Code.wp_mono (Q:=dP λa W=>∃A9 n9 c9 mh iq c12 pG n15 c15,a={tmps:=#[Value.agg #[Ϟ ϛ b.ag,Value.slice A1 n1 c1,Value.slice A2 n2 c2,Value.slice A3 n3 c3],Value.pointer (φ {block:=w.heap.size,off:=0}),Value.pointer (φ {block:=w.heap.size+1,off:=0}),ω,ω,ω,ω,Value.pointer (φ {block:=w.heap.size,off:=1}),Value.slice A1 n1 c1,Value.slice A9 n9 c9,Value.pointer (φ {block:=w.heap.size,off:=2}),Value.slice A2 n2 c2,Value.slice mh iq c12,Value.pointer (φ {block:=w.heap.size,off:=3}),Value.slice A3 n3 c3,Value.slice pG n15 c15,Value.pointer (φ {block:=w.heap.size,off:=1}),Value.pointer (φ {block:=w.heap.size,off:=2}),Value.pointer (φ {block:=w.heap.size,off:=3}),ω,ω,ω,ω,ω,ω,ω,ω,ω,ω,ω,ω,ω,ω,ω,ω,ω,ω,ω,ω,ω,ω,ω,ω,ω,ω,ω,ω,ω,ω,ω,ω,ω,ω,ω],defers:=[]}/\Hid (∃s1 s2,CI No b w W w.heap.size s1 s2 (ζ A9 n9 c9) (ζ mh iq c12) (ζ pG n15 c15) bs ts)) ?post ?region
 case region=>
  go_region_with (first
   | (go_at_call 155
      refine(C1.e _ ?h1 ?h2).mono ?_
      case h1=>exact(SB.e _ BD.e).1
      case h2=>exact(SB.e _ BD.e).2
      rintro e w3 ⟨v9,rfl,o9,bD⟩;have k1: w3.cell? ⟨w.heap.size,1,ν⟩=φ (ζ A1 n1 c1):=(KD.e.below bD ZD).cell 1;have k2: w3.cell? ⟨w.heap.size,2,ν⟩=φ (ζ A2 n2 c2):=(KD.e.below bD ZD).cell 2;have k3: w3.cell? ⟨w.heap.size,3,ν⟩=φ (ζ A3 n3 c3):=(KD.e.below bD ZD).cell 3;have fw:=ψ bD;have O9:=ψ o9;obtain⟨A9,n9,c9,rfl⟩:=pw o9;clear bD o9)
   | (go_at_call 135
      refine(C2.e _ ?h1 ?h2).mono ?_
      case h1=>exact(SB.e _ (BD.e.trans (fw.e.mono (Agz ZD)))).1
      case h2=>exact(SB.e _ (BD.e.trans (fw.e.mono (Agz ZD)))).2
      rintro e w4 ⟨v12,rfl,qN,cO⟩;have k3: w4.cell? ⟨w.heap.size,3,ν⟩=φ (ζ A3 n3 c3):=((KD.e.below fw.e ZD).below cO (by have:=fw.e.size;omega)).cell 3
      have jK:=ψ cO;have zv:=ψ qN;obtain⟨mh,iq,c12,rfl⟩:=pw qN;clear cO qN)
   | (go_at_call 158
      refine(C3.e _ ?h1 ?h2).mono ?_
      case h1=>exact(SB.e _ ((BD.e.trans (fw.e.mono (Agz ZD))).trans (jK.e.mono (by have:=fw.e.size;omega)))).1
      case h2=>exact(SB.e _ ((BD.e.trans (fw.e.mono (Agz ZD))).trans (jK.e.mono (by have:=fw.e.size;omega)))).2
      rintro e w5 ⟨v15,rfl,Bb,eR⟩;have uD:Hid (Bk w5 w.heap.size 26 #[ξ κ b.ag,ζ A1 n1 c1,ζ A2 n2 c2,ζ A3 n3 c3]):=ψ (((KD.e.below fw.e ZD).below jK.e (by have:=fw.e.size;omega)).below eR (by have:=fw.e.size;have:=jK.e.size;omega))
      have z5:w.heap.size<w5.heap.size:=uD.e.lt;have f1: w5.frozen? ⟨w.heap.size,1,ν⟩=χ:=uD.e.frozen 1;have f2: w5.frozen? ⟨w.heap.size,2,ν⟩=χ:=uD.e.frozen 2;have f3: w5.frozen? ⟨w.heap.size,3,ν⟩=χ:=uD.e.frozen 3;have k1: w5.cell? ⟨w.heap.size,1,ν⟩=φ (ζ A1 n1 c1):=uD.e.cell 1;have k2: w5.cell? ⟨w.heap.size,2,ν⟩=φ (ζ A2 n2 c2):=uD.e.cell 2;have k3: w5.cell? ⟨w.heap.size,3,ν⟩=φ (ζ A3 n3 c3):=uD.e.cell 3;have mi:=ψ eR;have Zc:=ψ Bb;obtain⟨pG,n15,c15,rfl⟩:=pw Bb;clear eR Bb))
  all_goals
   show ∃_,_
   refine⟨_,_,_,_,_,_,_,_,_,rfl,ψ ⟨w3.heap.size,w4.heap.size,?_⟩⟩
   have e3:=fw.e.size;have e4:=jK.e.size;have Ca:w.heap.size+2<=W0.drew.heap.size:=Agw cT.symm;refine CI.start (W:=w5) fw.e jK.e mi.e Ca uD.e (((KB.e.2.drew.below fw.e (by omega)).below jK.e (by omega)).below mi.e (by omega)) O9.e zv.e Zc.e HM.e.2.2.1 HM.e.2.2.2.1 HM.e.1 HM.e.2.1 sT.e BD.e
 case post=>
  clear C1 C2 C3 KB KD BD BW HP k1 k2 k3 SB;refine dP.imp ?_
  rintro a W ⟨A9,n9,c9,mh,iq,c12,pG,n15,c15,rfl,s1,s2,HC⟩;have UB:iq=bs.length:=Be HC.bo;have UC:n15=ts.length:=Be HC.t;have aov:iq<=3:=by have:=HV.e.nb;have:=HM.e.2.2.2.2.1;omega
  have aox:n15<=4:=by have:=HV.e.nt;have:=HM.e.2.2.2.2.2;omega
  have k2: W.cell? ⟨w.heap.size,2,ν⟩=φ (ζ mh iq c12):=HC.box.cell 2;have an3:iq<=c12/\c12<=2 ^ 63 - 1:=Wt HC.bo;have an4:n15<=c15/\c15<=2 ^ 63 - 1:=Wt HC.t;have HL:=ψ (ϑ UB UC);clear UB UC;have HC:=ψ HC;rename_i Kt;clear Kt ZD cT;go_wp2;clear k2;go_loopw [22] (λu wr=>∃i:Nat,i<=iq/\u=ξ κ i/\Hid (∃oV,CI No b w wr w.heap.size s1 s2 (ζ A9 n9 c9) (ζ mh iq c12) (ζ pG n15 c15) oV ts)) (λu _=>iq - (ϗ u).toNat)
  case atStart=>exact⟨0,ϟ _,rfl,ψ ⟨bs,HC.e⟩⟩
  case round=>
   obtain⟨i,hi,rfl,oV,hC⟩:=hrel;by_cases al:i<iq
   ·obtain⟨rb,rfl⟩:=Ww hC.bo (by omega)
    have tE:iq=oV.length:=Be hC.bo;obtain⟨⟨x,kv⟩,hx⟩:∃p,oV[i]?=φ p:=⟨_,Af9 (by omega)⟩
    have da:=hC.kn _ (Ϭ hx);simp only at da;have hxs:x.cM.length<=3:=by
     have:x∈b.aF:=by rw[<-hC.oW];exact Ahu.2 ⟨_,Ϭ hx,rfl⟩
     exact(HV.e.bp x this).cM
    obtain⟨kn,rI⟩:∃k,k=x.cM:=⟨_,rfl⟩
    rw[<-rI] at da hxs;obtain⟨m5,rN⟩:∃m,m=kn.length:=⟨_,rfl⟩
    obtain⟨A5,c5,rfl,-⟩:=id da;rw[<-rN] at da hxs hx;have g0: wr.cell? ⟨rb,i * 3,ν⟩=φ (.string x.name):=hC.Gx (j:=0) hx rfl;have g1: wr.cell? ⟨rb,i * 3+1,ν⟩=φ (ξ κ x.aH):=hC.Gx (j:=1) hx rfl;have g2: wr.cell? ⟨rb,i * 3+2,ν⟩=φ (ζ A5 m5 c5):=hC.Gx (j:=2) hx rfl;have mF:rb<wr.heap.size:=vU hC.bo rb rfl;have Aq:w.heap.size<rb:=by have:=ei hC.bo rb rfl;have:=hC.g1;omega
    have HX:=ψ (ϑ hx (ϑ rI rN));have KE:=ψ da;have qZ:=ψ hC;clear hx da hC rI rN tE;go_wp2;have oo:=qZ.e.grown (W':=(wr.alloc (Ξ #[.string x.name,ξ κ x.aH,ζ A5 m5 c5] 59)).drew) (qd wr _ ν);have Kx:=ψ oo;have Ep:(wr.alloc (Ξ #[.string x.name,ξ κ x.aH,ζ A5 m5 c5] 59)).drew.cell? ⟨w.heap.size,2,ν⟩=φ (ζ (φ ⟨rb,0,ν⟩) iq c12):=oo.box.cell 2;have Di:(wr.alloc (Ξ #[.string x.name,ξ κ x.aH,ζ A5 m5 c5] 59)).drew.cell? ⟨wr.heap.size,2,ν⟩=φ (ζ A5 m5 c5):=(Bk.new wr _ _).cell 2;have aB:Hid (ύ prog 179 #[ζ A5 m5 c5] (wr.alloc (Ξ #[.string x.name,ξ κ x.aH,ζ A5 m5 c5] 59)).drew λe w'=>∃v',e=Ω v'/\
     cW w' (rj No w.heap.size (ζ (φ ⟨rb,0,ν⟩) iq c12) (ζ pG n15 c15)) 2 Span.R v' kn/\Γ (wr.alloc (Ξ #[.string x.name,ξ κ x.aH,ζ A5 m5 c5] 59)).drew.heap.size (wr.alloc (Ξ #[.string x.name,ξ κ x.aH,ζ A5 m5 c5] 59)).drew w'):=ψ (by
     have hk:=KE.e.grown (w':=(wr.alloc (Ξ #[.string x.name,ξ κ x.aH,ζ A5 m5 c5] 59)).drew) (qd wr _ ν) (by simp)
     obtain⟨r0,r1,r2,r3,lf⟩:=oo.res;refine(aaJ hk.row (ϊ _) (λ_=>rfl) (λp _=>al5 p) (by rw[<-HX.e.2.2];omega)).mono ?_
     rintro e w' ⟨v',rfl,ho,hb⟩;refine⟨v',rfl,cW.vO ho (λ_=>rfl) (λ_ _=>rfl) (λk hk=>?_),hb⟩
     rcases hk with hk|hk|hk|hk
     ·exact vU oo.bo k hk
     ·exact vU oo.t k hk
     ·rw[hk];exact lf.lt
     ·have:=sT.e k hk;have:=lf.lt;omega)
    clear oo;go_region_held3 (λw'=> w'.cell? ⟨w.heap.size,2,ν⟩=φ (ζ (φ ⟨rb,0,ν⟩) iq c12)/\ w'.cell? ⟨wr.heap.size,2,ν⟩=φ (ζ A5 m5 c5))
     (first|exact⟨Ep,Di⟩ |exact⟨mH,ak⟩ |exact⟨rY _,ef _⟩)
     (first
       | (go_at_call 179
          refine aB.e.mono ?_
          rintro e w5 ⟨v9,rfl,r9,oZ⟩;obtain⟨A7,c7,rfl,-⟩:=id r9;have mH: w5.cell? ⟨w.heap.size,2,ν⟩=φ (ζ (φ ⟨rb,0,ν⟩) iq c12):=(oZ.cell (by simp;omega)).trans Ep
          have ak: w5.cell? ⟨wr.heap.size,2,ν⟩=φ (ζ A5 m5 c5):=(oZ.cell (by simp)).trans Di
          have cX:=Kx.e.grown (je oZ (ϊ _) ν);have hg: w5.cell? ⟨rb,i * 3+2,ν⟩=φ (ζ A5 m5 c5):=cX.Gx (j:=2) HX.e.1 rfl;have hf: w5.frozen? ⟨rb,i * 3+2,ν⟩=χ:=cX.ac1 _;have rY:∀u,(w5.setCell ⟨rb,i * 3+2,ν⟩ u).cell? ⟨w.heap.size,2,ν⟩=φ (ζ (φ ⟨rb,0,ν⟩) iq c12):=λu=>(Aii _ _ _ _ (by simp;omega)).trans mH
          have ef:∀u,(w5.setCell ⟨rb,i * 3+2,ν⟩ u).cell? ⟨wr.heap.size,2,ν⟩=φ (ζ A5 m5 c5):=λu=>(Aii _ _ _ _ (by simp;omega)).trans ak
          have lF:=ψ (ϑ r9 cX);clear oZ r9 cX))
    go_wp2;go_roundw;case rel=>exact⟨i+1,by omega,by go_num,ψ ⟨_,lF.e.2.alm HX.e.1 (by rw[<-HX.e.2.1];exact lF.e.1)⟩⟩
    case measure=>simp[ϗ];omega
   ·obtain rfl:i=iq:=by omega
    have Ku:=ψ hC;obtain⟨wb,rfl⟩:∃wb:Ψ,wb=wr:=⟨_,rfl⟩
    have k3: wb.cell? ⟨w.heap.size,3,ν⟩=φ (ζ pG n15 c15):=hC.box.cell 3;clear hC;go_wp2;clear k3;go_loopw [39] (λu wr=>∃k:Nat,k<=n15/\u=ξ κ k/\Hid (∃qT,CI No b w wr w.heap.size s1 s2 (ζ A9 n9 c9) (ζ mh i c12) (ζ pG n15 c15) oV qT)) (λu _=>n15 - (ϗ u).toNat)
    case atStart=>exact⟨0,ϟ _,rfl,ψ ⟨ts,Ku.e⟩⟩
    case round=>
     obtain⟨k,hk,rfl,qT,hC⟩:=hrel;by_cases al:k<n15
     ·obtain⟨rb,rfl⟩:=Ww hC.t (by omega)
      have tE:n15=qT.length:=Be hC.t;obtain⟨⟨x,kv⟩,hx⟩:∃p,qT[k]?=φ p:=⟨_,Af9 (by omega)⟩
      have da:=hC.tp _ (Ϭ hx);simp only at da;have hxs:x.pieces.length<=3:=by
       have:x∈b.aJ:=by rw[<-hC.pD];exact Ahu.2 ⟨_,Ϭ hx,rfl⟩
       have:=(HV.e.tape x this).2;have:=HV.e.np;omega
      obtain⟨kn,rI⟩:∃k,k=x.pieces:=⟨_,rfl⟩
      rw[<-rI] at da hxs;obtain⟨m5,rN⟩:∃m,m=kn.length:=⟨_,rfl⟩
      obtain⟨A5,c5,rfl,-⟩:=id da;rw[<-rN] at da hxs hx;have g0: wr.cell? ⟨rb,k * 3,ν⟩=φ (ζ A5 m5 c5):=hC.Gy (j:=0) hx rfl;have g1: wr.cell? ⟨rb,k * 3+1,ν⟩=φ (ξ κ x.sum.lo):=hC.Gy (j:=1) hx rfl;have g2: wr.cell? ⟨rb,k * 3+2,ν⟩=φ (ξ κ x.sum.hi):=hC.Gy (j:=2) hx rfl;have mF:rb<wr.heap.size:=vU hC.t rb rfl;have Aq:w.heap.size<rb:=by have:=ei hC.t rb rfl;have:=hC.g1;have:=hC.g2;omega
      have HX:=ψ (ϑ hx (ϑ rI rN));have KE:=ψ da;have qZ:=ψ hC;clear hx da hC rI rN tE;go_wp2;have oo:=qZ.e.grown (W':=(wr.alloc (Ξ #[ζ A5 m5 c5,ξ κ x.sum.lo,ξ κ x.sum.hi] 95)).drew) (qd wr _ ν);have Kx:=ψ oo;have Ep:(wr.alloc (Ξ #[ζ A5 m5 c5,ξ κ x.sum.lo,ξ κ x.sum.hi] 95)).drew.cell? ⟨w.heap.size,3,ν⟩=φ (ζ (φ ⟨rb,0,ν⟩) n15 c15):=oo.box.cell 3;have Di:(wr.alloc (Ξ #[ζ A5 m5 c5,ξ κ x.sum.lo,ξ κ x.sum.hi] 95)).drew.cell? ⟨wr.heap.size,0,ν⟩=φ (ζ A5 m5 c5):=(Bk.new wr _ _).cell 0;have aB:Hid (ύ prog 180 #[ζ A5 m5 c5] (wr.alloc (Ξ #[ζ A5 m5 c5,ξ κ x.sum.lo,ξ κ x.sum.hi] 95)).drew λe w'=>∃v',e=Ω v'/\
               cW w' (rj No w.heap.size (ζ mh i c12) (ζ (φ ⟨rb,0,ν⟩) n15 c15)) 1 cH v' kn/\Γ (wr.alloc (Ξ #[ζ A5 m5 c5,ξ κ x.sum.lo,ξ κ x.sum.hi] 95)).drew.heap.size (wr.alloc (Ξ #[ζ A5 m5 c5,ξ κ x.sum.lo,ξ κ x.sum.hi] 95)).drew w'):=ψ (by
       have hk:=KE.e.grown (w':=(wr.alloc (Ξ #[ζ A5 m5 c5,ξ κ x.sum.lo,ξ κ x.sum.hi] 95)).drew) (qd wr _ ν) (by simp)
       obtain⟨r0,r1,r2,r3,lf⟩:=oo.res;refine(aaD (f:=λn=> [ξ κ n]) hk.row (ϊ _) (λ_=>rfl) (λp _=>ago p) (by rw[<-HX.e.2.2];omega)).mono ?_
       rintro e w' ⟨v',rfl,ho,hb⟩;refine⟨v',rfl,cW.vO ho (λ_=>rfl) (λ_ _=>rfl) (λk hk=>?_),hb⟩
       rcases hk with hk|hk|hk|hk
       ·exact vU oo.bo k hk
       ·exact vU oo.t k hk
       ·rw[hk];exact lf.lt
       ·have:=sT.e k hk;have:=lf.lt;omega)
      clear oo;go_region_held3 (λw'=> w'.cell? ⟨w.heap.size,3,ν⟩=φ (ζ (φ ⟨rb,0,ν⟩) n15 c15)/\ w'.cell? ⟨wr.heap.size,0,ν⟩=φ (ζ A5 m5 c5))
       (first|exact⟨Ep,Di⟩ |exact⟨mH,ak⟩ |exact⟨rY _,ef _⟩)
       (first
               | (go_at_call 180
                  refine aB.e.mono ?_
                  rintro e w5 ⟨v9,rfl,r9,oZ⟩;obtain⟨A7,c7,rfl,-⟩:=id r9;have mH: w5.cell? ⟨w.heap.size,3,ν⟩=φ (ζ (φ ⟨rb,0,ν⟩) n15 c15):=(oZ.cell (by simp;omega)).trans Ep
                  have ak: w5.cell? ⟨wr.heap.size,0,ν⟩=φ (ζ A5 m5 c5):=(oZ.cell (by simp)).trans Di
                  have cX:=Kx.e.grown (je oZ (ϊ _) ν);have hg: w5.cell? ⟨rb,k * 3,ν⟩=φ (ζ A5 m5 c5):=cX.Gy (j:=0) HX.e.1 rfl;have hf: w5.frozen? ⟨rb,k * 3,ν⟩=χ:=cX.ac2 _;have rY:∀u,(w5.setCell ⟨rb,k * 3,ν⟩ u).cell? ⟨w.heap.size,3,ν⟩=φ (ζ (φ ⟨rb,0,ν⟩) n15 c15):=λu=>(Aii _ _ _ _ (by simp;omega)).trans mH
                  have ef:∀u,(w5.setCell ⟨rb,k * 3,ν⟩ u).cell? ⟨wr.heap.size,0,ν⟩=φ (ζ A5 m5 c5):=λu=>(Aii _ _ _ _ (by simp;omega)).trans ak
                  have lF:=ψ (ϑ r9 cX);clear oZ r9 cX))
      go_wp2;go_roundw;case rel=>exact⟨k+1,by omega,by go_num,ψ ⟨_,lF.e.2.alo HX.e.1 (by rw[<-HX.e.2.1];exact lF.e.1)⟩⟩
      case measure=>simp[ϗ];omega
     ·obtain rfl:k=n15:=by omega
      have q0:=hC.box.cell 0;have q1:=hC.box.cell 1;have q2:=hC.box.cell 2;have q3:=hC.box.cell 3;obtain⟨r0,r1,r2,r3,lf⟩:=hC.res;have p0:=lf.cell 0;have p1:=lf.cell 1;have p2:=lf.cell 2;have p3:=lf.cell 3;have f0:=lf.frozen 0;have f1:=lf.frozen 1;have f2:=lf.frozen 2;have f3:=lf.frozen 3;have rV:w.heap.size+1<wr.heap.size:=lf.lt;have qZ:=ψ hC;clear hC;have qz:=((((lf.set 0 (ξ κ b.ag)).set 1 (ζ A9 n9 c9)).set 2 (ζ mh i c12)).set 3 (ζ pG k c15));have y0:=qz.cell 0;have y1:=qz.cell 1;have y2:=qz.cell 2;have y3:=qz.cell 3;have QY:=ψ ((((qZ.e.Ja (i:=0) (u:=ξ κ b.ag) (by omega)).Ja (i:=1) (u:=ζ A9 n9 c9) (by omega)).Ja (i:=2) (u:=ζ mh i c12) (by omega)).Ja (i:=3) (u:=ζ pG k c15) (by omega))
      clear lf qz;go_wp2;refine bodyPost_ret (v:=η #[ξ κ b.ag,ζ A9 n9 c9,ζ mh i c12,ζ pG k c15]) (by simp[results,Tryz.results136,go_sem,y0,y1,y2,y3]) rfl ⟨_,_,_,_,_,rfl,QY.e.ZO YR.e Y1.e sT.e,QY.e.below⟩
def ug{P:Program}{ops:Array Oper}{o:Oper}{a:Act}{w:Ψ}{K:Act->Ψ->Prop}{Q:Exit->Act->Ψ->Prop}{E:Prop}(hg:o.guard=ν)(s x:Operand)(t:ϋ)
 (ho:o.op=.call {callee:=.builtin .append,args:=#[s,x],argTypes:=#[t,t]})
 (base:Nat)(e:ϋ)(i:TypeInfo)(z:υ)(size bytes:Nat)(ht:P.underlying t=φ (.slice e))(hi: P.info? e=φ i)(hz:i.zero=φ z)
 (yk:i.size=size)(ES:i.bytes=bytes)(hzs:z.cells.size=size)(aI:0<size)
 (v:υ)(n:Nat)(xs:List υ)(hs:a.eval s=v)(aG:w.ownsRow base e size v n xs)
 (ad:Addr)(m c:Nat)(news:List υ)(hx:a.eval x=ζ (φ ad) m c)(hl:news.length=m * size)(Hs:∀j u,news[j]?=φ u-> w.cell? (ad.add j)=φ u)(h1:∀u∈news,u.oneCell'=θ)
 (TI:n+m<=ϕ)(abl:(n+m) * bytes<=140737488355328)(MO:base<=w.heap.size)
 (h:∀v' w',w'.ownsRow base e size v' (n+m) (xs++news)->w.grownBy w' v.ownBlock->K (a.put o.dst v') w'):if Region.wanted o (yielded ops a.tmps)=θ then Oper.wp P o a w K Q else E:=by
 have hw:Region.wanted o (yielded ops a.tmps)=θ:=by simp[Region.wanted,hg]
 rw[if_pos hw];exact wp_append_own w s x t ho base e i z size bytes ht hi hz yk ES hzs aI v n xs hs aG ad m c news hx hl Hs h1 TI abl MO λv' w' h2 h3 _=>h v' w' h2 h3
def fj(b:ao)(x:bR):ao:={b with aF:=b.aF++ [x]}
def Zg{w w1 w6:Ψ}{b:ao}{x:bR}{bs:List (bR×υ)}{pv bv tv kv yU:υ}{B:Nat}(hB:B<=w.heap.size)(ai:bg w B b pv bv tv)(Ib:x.name.size<=ϕ)(Ef:Row w B 2 Span.R kv x.cM)
 (ox:∀p∈bs,p.1.name.size<=ϕ/\Row w B 2 Span.R p.2 p.1.cM)(fe:bs.map Air=b.aF)(h1:Γ w.heap.size w w1)(h6:Γ w1.heap.size w1 w6)(hz:w.heap.size+3<=w1.heap.size)
 (o:w6.ownsRow w1.heap.size 59 3 yU (bs.length+1) (bs.flatMap eP++ [.string x.name,ξ κ x.aH,kv]))
 (kb:Bk w1 w.heap.size 26 #[ξ κ b.ag,pv,bv,tv])(kr:Bk w1 (w.heap.size+2) 26 #[ξ κ 0,ζ ν 0 0,ζ ν 0 0,ζ ν 0 0]):
 (∃oV qT,pI (w6.setCell ⟨w.heap.size,2,ν⟩ yU) (λk=>k=w.heap.size+2) (fj b x) pv yU tv oV qT)/\Bk (w6.setCell ⟨w.heap.size,2,ν⟩ yU) w.heap.size 26 #[ξ κ b.ag,pv,yU,tv]/\
 Bk (w6.setCell ⟨w.heap.size,2,ν⟩ yU) (w.heap.size+2) 26 #[ξ κ 0,ζ ν 0 0,ζ ν 0 0,ζ ν 0 0]/\Γ w.heap.size w (w6.setCell ⟨w.heap.size,2,ν⟩ yU)/\Rh yU:=by
 have e6:=h6.size;have bW:Γ w.heap.size w (w6.setCell ⟨w.heap.size,2,ν⟩ yU):=(h1.trans (h6.mono (by omega))).setCell (ϊ _) _
 have o':(w6.setCell ⟨w.heap.size,2,ν⟩ yU).ownsRow w1.heap.size 59 3 yU (bs++ [(x,kv)]).length ((bs++ [(x,kv)]).flatMap eP):=by
  have:=mO (u:=yU) (p:=⟨w.heap.size,2,ν⟩) o (by simp<;>omega)
  simpa [eP] using this
 have hN:∀k,k=w.heap.size+2->(λk=>w.heap.size<=k) k\/w.heap.size<=k:=λk hk=>Or.inr (by omega)
 obtain⟨bs0,ts,hn⟩:=ai.um (No:=λk=>w.heap.size<=k) hB (λk hk=>by omega)
 refine⟨⟨bs++ [(x,kv)],ts,hn.p.below bW hN,cW.vO o' (λ_=>rfl) (λp hm=>rfl) (λk hk=>by omega),hn.t.below bW hN,by simp[fj,fe],hn.pD,λp hm=>?_,λp hm=>(hn.tp p hm).below bW hN⟩,(kb.below h6 (by omega)).set 2 yU,(kr.below h6 (by omega)).dn (by simp) _,bW,pw o⟩
 rcases List.mem_append.1 hm with hm|hm
 ·exact⟨(ox p hm).1,((ox p hm).2.um (No:=λk=>w.heap.size<=k) hB (λk hk=>by omega)).below bW hN⟩
 ·simp at hm;subst hm
  exact⟨Ib,(Ef.um (No:=λk=>w.heap.size<=k) hB (λk hk=>by omega)).below bW hN⟩
def Zh{w:Ψ}{b:ao}{x:bR}{pv bv tv kv:υ}{B:Nat}(hB:B<=w.heap.size)(ai:bg w B b pv bv tv)(Ib:x.name.size<=ϕ)(Ef:Row w B 2 Span.R kv x.cM)(h0:dF b=0)(h1:dF (fj b x)=0):
 ύ prog 53 #[η #[ξ κ b.ag,pv,bv,tv],η #[.string x.name,ξ κ x.aH,kv]] w λe w'=>∃ix ia fD,e=Ω (μ #[η #[ξ κ b.ag,ix,ia,fD],ξ κ 0])/\bg w' w'.heap.size (fj b x) ix ia fD/\Γ w.heap.size w w':=by
 obtain⟨bs,fe,xH⟩:=I1 (R':=λ(p:bR×υ) cs=>cs=eP p/\p.1.name.size<=ϕ/\Row w B 2 Span.R p.2 p.1.cM) ai.aF (λx cs ⟨kv,h1,h2,h3⟩=>⟨kv,h1,h2,h3⟩)
 have ox:∀p∈bs,p.1.name.size<=ϕ/\Row w B 2 Span.R p.2 p.1.cM:=λp hp=>by obtain⟨cs,h1,h2⟩:=xH.mem p hp;exact h2
 have F4:Hid (Row w B 3 (λp cs=>cs=eP p) bv bs):=ψ (xH.still (Δ.refl w) λ_ _ h=>h.1)
 have Dq:∀p∈bs,∀u∈eP p,u.oneCell'=θ:=λp hp u hu=>by
  obtain⟨A,c,e,_⟩:=(ox p hp).2;simp[eP] at hu;rcases hu with rfl|rfl|rfl
  ·rfl
  ·rfl
  ·rw[e];rfl
 have fX:bs.length=b.aF.length:=by rw[<-fe,Ah4]
 have hv:=iy h0;have Au:bs.length<=3:=by rw[fX];exact hv.nb
 have C2:Hid (∀w',Δ B w w'->B<=w'.heap.size->ύ prog 135 #[bv] w' λe bq=>∃v',e=Ω v'/\bq.ownsRow w'.heap.size 59 3 v' bs.length (bs.flatMap eP)/\Γ w'.heap.size w' bq):=
  ψ λw' hs hz=>Su (F4.e.still hs λ_ _ h=>h) hz (λ_=>rfl) Dq (by omega)
 have HM:=ψ (ϑ ox (ϑ fe fX));have bT:=ψ ai;have HH:=ψ (ϑ h0 (ϑ h1 (ϑ Ib Ef)));obtain⟨A1,n1,c1,rfl,-⟩:=ai.pieces.Φ;obtain⟨A2,n2,c2,rfl,-⟩:=ai.aF.Φ;obtain⟨A3,n3,c3,rfl,-⟩:=ai.aJ.Φ;obtain⟨A4,n4,c4,rfl,-⟩:=Ef.Φ;obtain⟨i0,cR,cT,aN,ba⟩:=Ag7 VI;have dv:=ψ (ϑ cR (ϑ cT (ϑ aN ba)));clear ai xH ox Dq fe fX hv h0 h1 Ib Ef cR cT aN ba;go_enter func53,Tryz.ntmps53;go_wp2_with (first
  | (go_at_call 68;refine(ry (bT.e.still ((((Δ.refl w).alloc hB _).alloc (by simp<;>omega) _).alloc (by simp<;>omega) _)) (by simp<;>omega) HH.e.1).mono ?_;rintro e w1 ⟨rfl,ae⟩
     have kb:Bk w1 w.heap.size 26 #[ξ κ b.ag,ζ A1 n1 c1,ζ A2 n2 c2,ζ A3 n3 c3]:=(((Bk.new w _ _).alloc _).alloc _).below ae (by simp<;>omega)
     have kx:Bk w1 (w.heap.size+1) 59 #[.string x.name,ξ κ x.aH,ζ A4 n4 c4]:=((Bk.cG (by simp<;>omega) _ _).alloc _).below ae (by simp<;>omega)
     have kr:Bk w1 (w.heap.size+2) 26 #[ξ κ 0,ζ ν 0 0,ζ ν 0 0,ζ ν 0 0]:=(Bk.cG (by simp<;>omega) _ _).below ae (by simp)
     have aY:Hid (Γ w.heap.size w w1):=ψ (((((ώ _ _).alloc (ϊ _) _).alloc (by simp) _).alloc (by simp<;>omega) _).trans (ae.mono (by simp<;>omega)))
     have HK:=ψ (ϑ kb (ϑ kx kr));clear kb kx kr ae))
 have k2: w1.cell? ⟨w.heap.size,2,ν⟩=φ (ζ A2 n2 c2):=HK.e.1.cell 2;have x0: w1.cell? ⟨w.heap.size+1,0,ν⟩=φ (.string x.name):=HK.e.2.1.cell 0;have x1: w1.cell? ⟨w.heap.size+1,1,ν⟩=φ (ξ κ x.aH):=HK.e.2.1.cell 1;have x2: w1.cell? ⟨w.heap.size+1,2,ν⟩=φ (ζ A4 n4 c4):=HK.e.2.1.cell 2;have hz:w.heap.size+3<=w1.heap.size:=HK.e.2.2.lt;have jW:w.heap.size<w1.heap.size:=by omega
 have ae3:w.heap.size<=w1.heap.size:=by omega
 have ae4:w.heap.size+1<w1.heap.size:=by omega
 have ae5:w.heap.size+1<=w1.heap.size:=by omega
 have XD:Hid (Γ w1.heap.size w1 w1.drew):=ψ (iY (ώ _ _));have XA:Hid (∀o,Γ w1.heap.size w1 (w1.drew.alloc o)):=ψ λo=>(iY (ώ _ _)).alloc (ϊ _) o
 have SB:Hid (∀w',Γ w1.heap.size w1 w'->Δ B w w'/\B<=w'.heap.size):=ψ λw' h=>⟨Δ.aK (aY.e.trans (h.mono (by omega))) hB,by have:=h.size;omega⟩
 refine Code.wp_mono (Q:=dP λa W=>∃mh iq c12 XX wE n19 c19,a={tmps:=#[Value.agg #[ξ κ b.ag,ζ A1 n1 c1,ζ A2 n2 c2,ζ A3 n3 c3],Value.agg #[.string x.name,ξ κ x.aH,ζ A4 n4 c4],Value.pointer (φ {block:=w.heap.size,off:=0}),Value.pointer (φ {block:=w.heap.size+1,off:=0}),Value.pointer (φ {block:=w.heap.size+1+1,off:=0}),ξ κ 0,ξ κ 0,ω,Value.agg #[ξ κ b.ag,ζ A1 n1 c1,ζ A2 n2 c2,ζ A3 n3 c3],ξ κ 0,ξ κ 0,.bool χ,ω,ω,Value.pointer (φ {block:=w.heap.size,off:=2}),ζ A2 n2 c2,ζ mh iq c12,Value.agg #[.string x.name,ξ κ x.aH,ζ A4 n4 c4],XX,ζ wE n19 c19,Value.pointer (φ {block:=w.heap.size,off:=2}),ω,ω,ω,ω,ω,ω,ω,ω],defers:=[]}/\Hid ((∃oV qT,pI W (λk=>k=w.heap.size+2) (fj b x) (ζ A1 n1 c1) (ζ wE n19 c19) (ζ A3 n3 c3) oV qT)/\Bk W w.heap.size 26 #[ξ κ b.ag,ζ A1 n1 c1,ζ wE n19 c19,ζ A3 n3 c3]/\
  Bk W (w.heap.size+2) 26 #[ξ κ 0,ζ ν 0 0,ζ ν 0 0,ζ ν 0 0]/\Γ w.heap.size w W)) ?post ?region
 case region=>
  go_region_law (first
   | (go_simp
      go_at_call 135
      refine(C2.e _ ?h1 ?h2).mono ?_
      case h1=>first|exact(SB.e _ XD.e).1|exact(SB.e _ (XA.e _)).1
      case h2=>first|exact(SB.e _ XD.e).2|exact(SB.e _ (XA.e _)).2
      rintro e w3 ⟨v12,rfl,qN,bD⟩;have fw:Hid (Γ w1.heap.size w1 w3):=ψ (by first|exact XD.e.trans bD|exact(XA.e _).trans (bD.mono (by simp)))
      have zv:Hid (w3.ownsRow w1.heap.size 59 3 v12 bs.length (bs.flatMap eP)):=ψ (qN.base (by simp))
      have rE:=HK.e.2.1.below fw.e (by omega)
      have x0: w3.cell? ⟨w.heap.size+1,0,ν⟩=φ (.string x.name):=rE.cell 0;have x1: w3.cell? ⟨w.heap.size+1,1,ν⟩=φ (ξ κ x.aH):=rE.cell 1;have x2: w3.cell? ⟨w.heap.size+1,2,ν⟩=φ (ζ A4 n4 c4):=rE.cell 2;have jB:w1.heap.size<=w3.heap.size:=fw.e.size
      try(have HZ:Hid (∀(j:Nat) (u:υ),[Value.string x.name,ξ κ x.aH,ζ A4 n4 c4][j]?=φ u-> w3.cell? ((⟨w1.heap.size,0,ν⟩:Addr).add j)=φ u):=ψ (λj u hu=>by
       rw[nu];have:=((Bk.new w1.drew 59 #[.string x.name,ξ κ x.aH,ζ A4 n4 c4]).below bD (by simp)).cell j
       simpa using this.trans (by simpa using hu)))
      obtain⟨mh,iq,c12,rfl⟩:=pw qN;clear bD qN rE)
   | (refine ug rfl (.tmp 16) (.tmp 18) 23 rfl w1.heap.size 59 i0 (η #[.string {data:=#[]},ξ κ 0,ζ ν 0 0]) 3 48 (U Tryz.underlying23) dv.e.1 dv.e.2.1 dv.e.2.2.1 dv.e.2.2.2 rfl (by decide) _ bs.length (bs.flatMap eP) rfl zv.e ⟨w1.heap.size,0,ν⟩ 1 1 [.string x.name,ξ κ x.aH,ζ A4 n4 c4] rfl rfl HZ.e ?c2 ?c3 ?c4 jB ?_
      case c2=>simp[Value.oneCell']
      case c3=>(simp only[ϕ];omega)
      case c4=>omega
      intro v' w6 aG dS;have HO:=ψ aG;have xO:Γ w1.heap.size w1 w6:=fw.e.grown dS jB (λk hk=>ei zv.e k hk)
      have gU:=ψ xO;have ig:=HK.e.1.below xO (by omega)
      have q2: w6.cell? ⟨w.heap.size,2,ν⟩=φ (ζ A2 n2 c2):=ig.cell 2;have f2: w6.frozen? ⟨w.heap.size,2,ν⟩=χ:=ig.frozen 2;obtain⟨wE,n19,c19,rfl⟩:=pw aG;clear aG dS xO ig)
   | (refine ug rfl (.tmp 16) (.tmp 18) 23 rfl w1.heap.size 59 i0 (η #[.string {data:=#[]},ξ κ 0,ζ ν 0 0]) 3 48 (U Tryz.underlying23) dv.e.1 dv.e.2.1 dv.e.2.2.1 dv.e.2.2.2 rfl (by decide) _ bs.length (bs.flatMap eP) rfl (zv.e.alloc _) ⟨w3.heap.size,0,ν⟩ 1 1 [.string x.name,ξ κ x.aH,ζ A4 n4 c4] rfl rfl ?c1 ?c2 ?c3 ?c4 ?c5 ?_
      case c1=>(intro j u hu;rw[nu];have:=(Bk.new w3 59 #[.string x.name,ξ κ x.aH,ζ A4 n4 c4]).cell j;simpa using this.trans (by simpa using hu))
      case c2=>simp[Value.oneCell']
      case c3=>(simp only[ϕ];omega)
      case c4=>omega
      case c5=>(simp<;>omega)
      intro v' w6 aG dS;have HO:=ψ aG;have xO:Γ w1.heap.size w1 w6:=(fw.e.alloc jB _).grown dS (by simp<;>omega) (λk hk=>ei zv.e k hk)
      have gU:=ψ xO;have ig:=HK.e.1.below xO (by omega)
      have q2: w6.cell? ⟨w.heap.size,2,ν⟩=φ (ζ A2 n2 c2):=ig.cell 2;have f2: w6.frozen? ⟨w.heap.size,2,ν⟩=χ:=ig.frozen 2;obtain⟨wE,n19,c19,rfl⟩:=pw aG;clear aG dS xO ig))
  all_goals
   have Hq:=Zg hB bT.e HH.e.2.2.1 HH.e.2.2.2 HM.e.1 HM.e.2.1 aY.e gU.e hz HO.e HK.e.1 HK.e.2.2;show ∃_,_
   exact⟨_,_,_,_,_,_,_,rfl,ψ ⟨Hq.1,Hq.2.1,Hq.2.2.1,Hq.2.2.2.1⟩⟩
 case post=>
  clear C2 dv k2 x0 x1 x2 XD XA SB jW ae3 ae4 ae5 hz HK F4 Au;refine dP.imp ?_
  rintro a W ⟨mh,iq,c12,XX,wE,n19,c19,rfl,⟨oV,qT,hp⟩,ig,xS,fX⟩;have k0:=ig.cell 0;have k1:=ig.cell 1;have k2:=ig.cell 2;have k3:=ig.cell 3;have HP:=ψ hp;have HK:=ψ (ϑ ig (ϑ xS fX));have iM:w.heap.size<W.heap.size:=ig.lt;have TJ:=ψ (ry hp.book (ϊ _) HH.e.2.1);have vy:(fj b x).ag=b.ag:=rfl;rw[vy] at TJ;clear hp ig xS fX vy;go_wp2_with (first
   | (go_at_call 68
      refine TJ.e.mono ?_
      rintro e w7 ⟨rfl,jx⟩;have DG:=HK.e.1.below jx iM;have k0: w7.cell? ⟨w.heap.size,0,ν⟩=φ (ξ κ b.ag):=DG.cell 0;have k1: w7.cell? ⟨w.heap.size,1,ν⟩=φ (ζ A1 n1 c1):=DG.cell 1;have k2: w7.cell? ⟨w.heap.size,2,ν⟩=φ (ζ wE n19 c19):=DG.cell 2;have k3: w7.cell? ⟨w.heap.size,3,ν⟩=φ (ζ A3 n3 c3):=DG.cell 3;have Xc:=ψ (HK.e.2.1.below jx HK.e.2.1.lt);have Zk:=(copied (w:=w7) (HP.e.grown (je jx (ϊ _) ν) nofun) (λk hk=>by have:=Xc.e.lt;omega) (iy HH.e.2.1))
      have vy:(fj b x).ag=b.ag:=rfl;rw[vy] at Zk;have Ym:=ψ Zk;clear Zk vy;have QW:=ψ jx;clear jx DG)
   | (go_at_call 136
      refine Ym.e.mono ?_
      rintro e w8 ⟨p8,b8,t8,bs8,ts8,rfl,MW,Ah⟩;have Ha:=MW.book;have qK:=Xc.e.below Ah Xc.e.lt;have r0:=qK.cell 0;have r1:=qK.cell 1;have r2:=qK.cell 2;have r3:=qK.cell 3;have f0:=qK.frozen 0;have f1:=qK.frozen 1;have f2:=qK.frozen 2;have f3:=qK.frozen 3;have hz8:w.heap.size+2<w8.heap.size:=qK.lt;obtain⟨JZ,OY,LG,rfl,-⟩:=Ha.pieces.Φ;obtain⟨J0,OZ,LH,rfl,-⟩:=Ha.aF.Φ;obtain⟨J1,K9,LI,rfl,-⟩:=Ha.aJ.Φ;have Yy:=ψ Ah;have Q0:=ψ (ϑ MW qK);clear Ah Ha MW qK))
  have aeL:Bk w8 (w.heap.size+1+1) 26 #[ξ κ 0,ζ ν 0 0,ζ ν 0 0,ζ ν 0 0]:=Q0.e.2;have yh:=((((aeL.set 0 (ξ κ b.ag)).set 1 (ζ JZ OY LG)).set 2 (ζ J0 OZ LH)).set 3 (ζ J1 K9 LI));have y0:=yh.cell 0;have y1:=yh.cell 1;have y2:=yh.cell 2;have y3:=yh.cell 3;have hG:=λ(V:Ψ) (i:Nat) (u:υ)=>uV V ⟨w.heap.size+2,i,ν⟩ u
  have bj:∀k,φ (w.heap.size+2)=φ k->(λk=>k=w.heap.size+2) k:=λk e=>by injection e with e;exact e.symm
  have Nj:=((((Q0.e.1.grown (hG _ 0 (ξ κ b.ag)) bj).grown (hG _ 1 (ζ JZ OY LG)) bj).grown (hG _ 2 (ζ J0 OZ LH)) bj).grown (hG _ 3 (ζ J1 K9 LI)) bj);have jS:Γ w.heap.size w w8:=(HK.e.2.2.trans (QW.e.mono (Agz iM))).trans (Yy.e.mono (by have:=QW.e.size;omega))
  refine bodyPost_ret (v:=μ #[η #[ξ κ b.ag,ζ JZ OY LG,ζ J0 OZ LH,ζ J1 K9 LI],ξ κ 0]) (by simp[results,Tryz.results53,go_sem,y0,y1,y2,y3]) rfl ⟨_,_,_,rfl,Nj.book,?_⟩
  exact(((jS.setCell (by simp<;>omega) _).setCell (by simp<;>omega) _).setCell (by simp<;>omega) _).setCell (by simp<;>omega) _
def pY:List Int->List Int->Int
 | [],[]=>0
 | [],_::_=> -1
 |_::_,[]=>1
 |x::xs,y::ys=>if Aih x y=0 then pY xs ys else Aih x y
def zN{w:Ψ}{xs ys:List Int}{v u:υ}{B:Nat}(hv:Row w B 1 cH v xs)(hu:Row w B 1 cH u ys)(hB:B<=w.heap.size):
 ύ prog 139 #[v,u] w λe w'=>e=Ω (ξ κ (pY xs ys))/\w=w':=by
 obtain⟨A1,n1,c1,rfl,e1,h1,eA,r1⟩:=hv.Φ;obtain⟨A2,n2,c2,rfl,e2,h2,dW,r2⟩:=hu.Φ;unfold ϕ at eA dW;have R1:=ψ r1;have R2:=ψ r2;have E:=ψ (ϑ e1 e2);clear r1 r2 e1 e2 hv hu;have aB:Hid (∀(x y:Int) (w:Ψ),ύ Tw.prog 181 #[ξ κ x,ξ κ y] w λe w'=>e=Ω (ξ κ (Aih x y))/\w'=w):=ψ (λx y w=>Sh.cmp_Compare_int x y w)
 go_enter func139,Tryz.ntmps139;go_wp2;go_loopw [11] (λk wr=>wr=w/\∃i:Nat,i<=n1/\i<=n2/\k=ξ κ i/\Hid (pY xs ys=pY (xs.drop i) (ys.drop i))) (λk _=>n1 - (ϗ k).toNat)
 case atStart=>exact⟨rfl,0,ϟ _,ϟ _,rfl,ψ rfl⟩
 case round=>
  obtain⟨rfl,i,hi,vm,rfl,hc⟩:=hrel;by_cases al:i<n1
  ·obtain⟨ad,x,cs,kX,aC,hx,rfl,-,au⟩:=R1.e i al
   subst kX;have g0: wr.cell? (ad.add (i * 1))=φ (ξ κ x):=cC au (Δ.refl wr) aC rfl;rw[Agx] at g0;have Dt:xs.drop i=x::xs.drop (i+1):=(Aim (ϸ.1 hx).1).trans (by rw[(ϸ.1 hx).2])
   have zm:=ψ Dt;clear Dt hx au;by_cases ae6:i<n2
   ·obtain⟨cI,y,jQ,CO,bI,hy,rfl,-,ie⟩:=R2.e i ae6
    subst CO;have g1: wr.cell? (cI.add (i * 1))=φ (ξ κ y):=cC ie (Δ.refl wr) bI rfl;rw[Agx] at g1;have vf:ys.drop i=y::ys.drop (i+1):=(Aim (ϸ.1 hy).1).trans (by rw[(ϸ.1 hy).2])
    have uz:=ψ vf;clear vf hy ie;have aoD:((n2:Int)<=(i:Int))=False:=by simp;omega
    obtain⟨c,cX⟩:∃c,c=Aih x y:=⟨_,rfl⟩
    have CL:=ψ (aB.e x y wr);rw[<-cX] at CL;have qZ:=ψ cX;clear cX;by_cases ic:c=0
    ·have hb:(c !=0)=χ:=by simp[ic]
     go_wp2_with (first
      | (go_at_call 181;refine CL.e.mono ?_;rintro e w1 ⟨rfl,rfl⟩))
     go_roundw;case rel=>exact⟨trivial,i+1,by omega,by omega,by go_num,ψ (by rw[hc.e,zm.e,uz.e,pY,<-qZ.e,if_pos ic])⟩
     case measure=>simp[ϗ];omega
    ·have hb:(c !=0)=θ:=by simp[ic]
     go_wp2_with (first
      | (go_at_call 181;refine CL.e.mono ?_;rintro e w1 ⟨rfl,rfl⟩))
     go_ret;exact⟨aX (by rw[hc.e,zm.e,uz.e,pY,<-qZ.e,if_neg ic]),rfl⟩
   ·obtain rfl:i=n2:=by omega
    have vf:ys.drop i=[]:=Ain (Agw E.e.2);have uz:=ψ vf;clear vf;go_wp2;go_ret;exact⟨aX (by rw[hc.e,zm.e,uz.e,pY]),rfl⟩
  ·obtain rfl:i=n1:=by omega
   have Dt:xs.drop i=[]:=Ain (Agw E.e.1);have zm:=ψ Dt;clear Dt;by_cases hl:i<n2
   ·obtain⟨y,Yh,hy⟩:∃y Yh,ys.drop i=y::Yh:=⟨_,_,Aim (by rw[E.e.2];exact hl)⟩
    have uz:=ψ hy;clear hy;go_wp2;go_ret;exact⟨aX (by rw[hc.e,zm.e,uz.e,pY]),rfl⟩
   ·have vf:ys.drop i=[]:=Ain (by rw[E.e.2];omega)
    have uz:=ψ vf;clear vf;go_wp2;go_ret;exact⟨aX (by rw[hc.e,zm.e,uz.e,pY]),rfl⟩
end Go.Tw
namespace Go.Tw
variable [Go.Tw.aR]
open Go Go.Proofs Go.RowKit
def Wu{w:Ψ}{b1 b2 e1 e2 s1 s2 n1 n2:Nat}{v1 v2:υ}{x1 x2:List υ}(h1:w.ownsRow b1 e1 s1 v1 n1 x1)(h2:w.ownsRow b2 e2 s2 v2 n2 x2)(aw:e1≠e2):∀k,v1.ownBlock=φ k->v2.ownBlock≠φ k:=by
 intro k hk cP;rcases h1.2 with⟨h0,_⟩ | ⟨g,cap,cur,a1,a2,a3,_⟩
 ·rw[h0] at hk;cases hk
 ·rcases h2.2 with⟨h0,_⟩ | ⟨g',zd,anN,c1,c2,c3,_⟩
  ·rw[h0] at cP;cases cP
  ·rw[a1] at hk;rw[c1] at cP
   injection hk with hk;injection cP with cP
   simp only at hk cP;subst hk;subst cP
   rw[a3] at c3;injection c3 with c3;injection c3 with _ c3
   exact aw c3
def dJ(m:Nat)(n:Nat):List Nat:=(Agm n).filter (λi=>m.testBit i)
def Ie{m n:Nat}(h:m.testBit n=θ):dJ m (n+1)=dJ m n++ [n]:=by simp[dJ,List.range_succ,h]
def Ic{m n:Nat}(h:m.testBit n=χ):dJ m (n+1)=dJ m n:=by simp[dJ,List.range_succ,h]
def fL{α:Type}(l:List α)(m n:Nat):List α:=(dJ m n).filterMap (λi=>l[i]?)
def Wz{α:Type}{l:List α}{m n:Nat}{x:α}(h:m.testBit n=θ)(hx:l[n]?=φ x):fL l m (n+1)=fL l m n++ [x]:=by
 unfold fL;rw[Ie h,List.filterMap_append];simp[hx]
def Wy{α:Type}{l:List α}{m n:Nat}(h:m.testBit n=χ):fL l m (n+1)=fL l m n:=by unfold fL;rw[Ic h]
def mM(b:ao)(m:Nat):ao:={b with aJ:=fL b.aJ m b.aJ.length}
def ajE{α β:Type}(f:α->β)(l:List α)(m n:Nat):fL (l.map f) m n=(fL l m n).map f:=by
 unfold fL;rw[List.map_filterMap];congr 1;funext i;simp
def Pc{α:Type}(l:List α)(m:Nat):∀n,n<=l.length->(fL l m n).length=(dJ m n).length
 |0,_=>by simp[fL,dJ]
 |n+1,h=>by
  have ih:=Pc l m n (by omega)
  cases hb:m.testBit n with
  |true=>rw[Wz hb (Af9 (by omega)),Ie hb];simp[ih]
  |false=>rw[Wy hb,Ic hb];exact ih
def lV(m n:Nat):List υ:=(dJ m n).map λk:Nat=>ξ κ (k:Int)
def Ek(m:Nat)(n:Nat):(dJ m n).length<=n:=by
 unfold dJ;refine Ϧ (List.length_filter_le _ _) (by simp)
structure OI(w W:Ψ)(g z:Nat)(ag pv bv c7 v6 v7:υ)(el:Array υ)(n6 n7:Nat)(x6 x7:List υ):Prop where
 o6:W.ownsRow (g+3) 3 1 v6 n6 x6
 o7:W.ownsRow (g+3) 95 3 v7 n7 x7
 kr:Bk W (g+1) 117 #[ξ κ 0,ζ ν 0 0,ζ ν 0 0,ζ ν 0 0]
 kk:Bk W (g+2) 117 #[ag,pv,bv,c7]
 ke:Bk W z 95 el
 hb:Γ g w W
section
variable {w W W':Ψ}{g z n6 n7 m:Nat}{ag pv bv c7 v6 v7 v':υ}{el:Array υ}{x6 x7 ys:List υ}
def OI.alloc(h:OI w W g z ag pv bv c7 v6 v7 el n6 n7 x6 x7)(o:Obj):OI w (W.alloc o) g z ag pv bv c7 v6 v7 el n6 n7 x6 x7:=
 ⟨World.ownsRow.alloc h.o6 o,World.ownsRow.alloc h.o7 o,h.kr.alloc o,h.kk.alloc o,h.ke.alloc o,h.hb.alloc (by have:=h.kr.lt;omega) o⟩
def OI.Rv(h:OI w W g z ag pv bv c7 v6 v7 el n6 n7 x6 x7)(ho:W'.ownsRow (g+3) 3 1 v' m ys)(hg:W.grownBy W' v6.ownBlock):OI w W' g z ag pv bv c7 v' v7 el m n7 ys x7:=by
 have jU:=ei h.o6;refine⟨ho,EJ h.o7 hg (λk hk e=>Wu h.o6 h.o7 (by decide) k e hk),h.kr.grown hg (λe=>by have:=jU _ e.symm;omega),h.kk.grown hg (λe=>by have:=jU _ e.symm;omega),h.ke.grown hg (λe=>?_),h.hb.grown hg (by have:=h.kr.lt;omega) (λk hk=>by have:=jU k hk;omega)⟩
 rcases h.o6.2 with⟨h0,_⟩ | ⟨k,cap,cur,a1,a2,a3,_⟩
 ·rw[h0] at e;cases e
 ·rw[a1] at e;injection e with e
  have tD:=h.ke;unfold Bk at tD;rw[e] at tD;simp only at tD;rw[a3] at tD;injection tD with tD;injection tD with _ tD
  exact absurd tD (by decide)
def OI.Rw(h:OI w W g z ag pv bv c7 v6 v7 el n6 n7 x6 x7)(ho:W'.ownsRow (g+3) 95 3 v' m ys)(hg:W.grownBy W' v7.ownBlock):
 W'.ownsRow (g+3) 3 1 v6 n6 x6/\W'.ownsRow (g+3) 95 3 v' m ys/\Bk W' (g+1) 117 #[ξ κ 0,ζ ν 0 0,ζ ν 0 0,ζ ν 0 0]/\Bk W' (g+2) 117 #[ag,pv,bv,c7]/\Γ g w W':=by
 have jU:=ei h.o7;exact⟨EJ h.o6 hg (λk hk e=>Wu h.o6 h.o7 (by decide) k hk e),ho,h.kr.grown hg (λe=>by have:=jU _ e.symm;omega),h.kk.grown hg (λe=>by have:=jU _ e.symm;omega),h.hb.grown hg (by have:=h.kr.lt;omega) (λk hk=>by have:=jU k hk;omega)⟩
def LO{w:Ψ}{g t:Nat}{a b c:υ}(h:Bk w g t #[a,b,c]):∀(j:Nat) (u:υ),[a,b,c][j]?=φ u-> w.cell? ((⟨g,0,ν⟩:Addr).add j)=φ u:=by
 intro j u hu;rw[nu];exact(h.cell j).trans (by simpa using hu)
def LN{w:Ψ}{g t:Nat}{a:υ}(h:Bk w g t #[a]):∀(j:Nat) (u:υ),[a][j]?=φ u-> w.cell? ((⟨g,0,ν⟩:Addr).add j)=φ u:=by
 intro j u hu;rw[nu];exact(h.cell j).trans (by simpa using hu)
def kT{w:Ψ}{b e s n g t:Nat}{v:υ}{xs:List υ}{cs:Array υ}(h:Bk w g t cs)(ho:w.ownsRow b e s v n xs)(aw:t≠e)(hk:φ g=v.ownBlock):False:=by
 rcases ho.2 with⟨h0,_⟩ | ⟨k,cap,cur,a1,a2,a3,_⟩
 ·rw[h0] at hk;cases hk
 ·rw[a1] at hk;injection hk with hk
  unfold Bk at h;rw[hk] at h;simp only at h;rw[a3] at h;injection h with h;injection h with _ h
  exact aw h.symm
def afX{w V w6:Ψ}{g z n6 n7:Nat}{ag pv bv c7 v6 v7 a b c:υ}{el:Array υ}{x6 x7:List υ}{o:Obj}(nZ:OI w V.drew g z ag pv bv c7 v6 v7 el n6 n7 x6 x7)
 (dS:((V.drew.alloc o).alloc (Ξ #[a,b,c] 95)).grownBy w6 v6.ownBlock):Bk w6 (V.heap.size+1) 95 #[a,b,c]:=
 (Bk.cG (g:=V.heap.size+1) (w:=V.drew.alloc o) (by simp) 95 #[a,b,c]).grown dS (λe=>kT (Bk.cG (g:=V.heap.size+1) (w:=V.drew.alloc o) (by simp) 95 #[a,b,c]) ((nZ.alloc o).alloc _).o6 (by decide) e)
def afT{w V w6:Ψ}{g z n6 n7:Nat}{ag pv bv c7 v6 v7 a b c:υ}{el:Array υ}{x6 x7:List υ}{o:Obj}(nZ:OI w V.drew g z ag pv bv c7 v6 v7 el n6 n7 x6 x7)
 (dS:((V.drew.alloc (Ξ #[a,b,c] 95)).alloc o).grownBy w6 v6.ownBlock):Bk w6 V.heap.size 95 #[a,b,c]:=
 ((Bk.new V.drew 95 #[a,b,c]).alloc o).grown dS (λe=>kT ((Bk.new V.drew 95 #[a,b,c]).alloc o) ((nZ.alloc _).alloc o).o6 (by decide) e)
def aja{W:Ψ}(h:W.ownsRow (g+3) 3 1 v6 n6 x6/\W.ownsRow (g+3) 95 3 v' m ys/\Bk W (g+1) 117 #[ξ κ 0,ζ ν 0 0,ζ ν 0 0,ζ ν 0 0]/\Bk W (g+2) 117 #[ag,pv,bv,c7]/\Γ g w W):
 let V:=W.setCell ⟨g+2,3,ν⟩ v'
 V.ownsRow (g+3) 3 1 v6 n6 x6/\V.ownsRow (g+3) 95 3 v' m ys/\Bk V (g+1) 117 #[ξ κ 0,ζ ν 0 0,ζ ν 0 0,ζ ν 0 0]/\Bk V (g+2) 117 #[ag,pv,bv,v']/\Γ g w V:=by
 intro V;exact⟨mO h.1 (by simp),mO h.2.1 (by simp),h.2.2.1.dn (by simp) _,h.2.2.2.1.set 3 v',h.2.2.2.2.setCell (by simp) _⟩
end
def ajc{w W:Ψ}{b:ao}{pv bv tv v6 v7:υ}{B m n:Nat}{ts:List (Tape×υ)}(hB:B<=w.heap.size)(ai:bg w B b pv bv tv)(rS:∀p∈ts,Row w B 1 cH p.2 p.1.pieces)(il:ts.map Air=b.aJ)(hn:n=ts.length)
 (h6:W.ownsRow (w.heap.size+3) 3 1 v6 (dJ m n).length (lV m n))(h7:W.ownsRow (w.heap.size+3) 95 3 v7 (dJ m n).length ((fL ts m n).flatMap eG))(hb:Γ w.heap.size w W){x0 x1 x2 x3:υ}:
 let V:=(((W.setCell ⟨w.heap.size+1,0,ν⟩ x0).setCell ⟨w.heap.size+1,1,ν⟩ x1).setCell ⟨w.heap.size+1,2,ν⟩ x2).setCell ⟨w.heap.size+1,3,ν⟩ x3
 bg V V.heap.size (mM b m) pv bv v7/\cW V (λk=>k<w.heap.size) 1 cH v6 ((dJ m b.aJ.length).map Aij)/\Γ w.heap.size w V:=by
 intro V;have hl:b.aJ.length=n:=by rw[<-il,Ah4,hn]
 have xF:Γ w.heap.size w V:=(((hb.setCell (by simp) _).setCell (by simp) _).setCell (by simp) _).setCell (by simp) _
 have st:Δ B w V:=Δ.aK xF hB;have aI:B<=V.heap.size:=by have:=xF.size;omega
 have o6:V.ownsRow (w.heap.size+3) 3 1 v6 (dJ m n).length (lV m n):=mO (mO (mO (mO h6 (by simp)) (by simp)) (by simp)) (by simp)
 have o7:V.ownsRow (w.heap.size+3) 95 3 v7 (dJ m n).length ((fL ts m n).flatMap eG):=mO (mO (mO (mO h7 (by simp)) (by simp)) (by simp)) (by simp)
 refine⟨⟨(ai.pieces.still st λ_ _ h=>h).more aI,(ai.aF.still st λ_ _ h=>?_).more aI,?_⟩,?_,xF⟩
 ·obtain⟨k,e1,e2,e3⟩:=h.still st
  exact⟨k,e1,e2,e3.more aI⟩
 ·rw[<-Pc ts m n (by omega)] at o7
  have:=lu (R:=λp cs=>cs=eG p) o7 (λ_=>rfl) (λp hm=>rfl)
  have e:(mM b m).aJ=(fL ts m n).map Air:=by
   show fL b.aJ m b.aJ.length=_;rw[hl,<-il,ajE]
  rw[e];refine yY this (λp hm cs hc=>⟨p.2,hc,((rS p ?_).still st λ_ _ h=>h).more aI⟩)
  unfold fL at hm;obtain⟨k,_,hk⟩:=List.mem_filterMap.1 hm;exact Ϭ hk
 ·rw[hl]
  have e:(lV m n)=((dJ m n).map Aij).flatMap (λk=> [ξ κ k]):=by
   unfold lV;rw[Td,List.map_map];rfl
  rw[e] at o6;have hlen:(dJ m n).length=((dJ m n).map Aij).length:=by simp
  rw[hlen] at o6;exact cW.vO o6 (λ_=>rfl) (λ_ _=>rfl) (λk hk=>by omega)
def ZH:∀(m:Fin 16) (i:Fin 4),(bits BinOp.and ϛ ((m.val:Int) / 2 ^ i.val) 1==1)=m.val.testBit i.val:=by decide+kernel
def only{w:Ψ}{b:ao}{pv bv tv:υ}{B m:Nat}(hB:B<=w.heap.size)(ai:bg w B b pv bv tv)(hv:b.aJ.length<=4)(hm:m<16):
 ύ prog 138 #[η #[ξ κ b.ag,pv,bv,tv],ξ κ m] w λe w'=>∃fD iv,e=Ω (μ #[η #[ξ κ b.ag,pv,bv,fD],iv])/\bg w' w'.heap.size (mM b m) pv bv fD/\
  cW w' (λk=>k<w.heap.size) 1 cH iv ((dJ m b.aJ.length).map Aij)/\Γ w.heap.size w w':=by
 obtain⟨ts,il,pg⟩:=I1 (R':=λ(p:Tape×υ) cs=>cs=eG p/\Row w B 1 cH p.2 p.1.pieces) ai.aJ (λx cs ⟨kv,h1,h3⟩=>⟨kv,h1,h3⟩)
 have rS:∀p∈ts,Row w B 1 cH p.2 p.1.pieces:=λp hp=>by obtain⟨cs,h1,h2⟩:=pg.mem p hp;exact h2
 have qG:ts.length=b.aJ.length:=by rw[<-il,Ah4]
 have HM:=ψ (ϑ rS (ϑ il qG));have bT:=ψ ai;obtain⟨A1,n1,c1,rfl,-⟩:=ai.pieces.Φ;obtain⟨A2,n2,c2,rfl,-⟩:=ai.aF.Φ;obtain⟨A3,n3,c3,rfl,e3,h3,rD,r3⟩:=pg.Φ;have R3:=ψ r3;have lQ:n3<=4:=by omega
 have E3:=ψ e3;unfold ϕ at rD;clear ai pg rS il qG r3 e3 hv;go_enter func138,Tryz.ntmps138;go_wp2;have L0:Hid (Bk (((w.alloc (Ξ #[ξ κ b.ag,ζ A1 n1 c1,ζ A2 n2 c2,ζ A3 n3 c3] 117)).alloc (Ξ #[ξ κ 0,ζ ν 0 0,ζ ν 0 0,ζ ν 0 0] 117)).alloc (Ξ #[ξ κ b.ag,ζ A1 n1 c1,ζ A2 n2 c2,ζ ν 0 0] 117)) (w.heap.size+2) 117 #[ξ κ b.ag,ζ A1 n1 c1,ζ A2 n2 c2,ζ ν 0 0]):=ψ (Bk.cG (by simp) _ _)
 go_loopw [6,17] (λv6 u wr=>∃(i:Nat) (v7:υ),i<=n3/\u=ξ κ i/\Hid (wr.ownsRow (w.heap.size+3) 3 1 v6 (dJ m i).length (lV m i))/\Hid (wr.ownsRow (w.heap.size+3) 95 3 v7 (dJ m i).length ((fL ts m i).flatMap eG))/\
  Hid (Bk wr (w.heap.size+1) 117 #[ξ κ 0,ζ ν 0 0,ζ ν 0 0,ζ ν 0 0])/\Hid (Bk wr (w.heap.size+2) 117 #[ξ κ b.ag,ζ A1 n1 c1,ζ A2 n2 c2,v7])/\Hid (Γ w.heap.size w wr)) (λ_ u _=>n3 - (ϗ u).toNat)
 case atStart=>exact⟨0,_,ϟ _,rfl,ψ ⟨rfl,.inl ⟨rfl,rfl⟩⟩,ψ ⟨rfl,.inl ⟨rfl,rfl⟩⟩,ψ ((Bk.cG (by simp) _ _).alloc _),L0,ψ ((((ώ _ _).alloc (ϊ _) _).alloc (by simp) _).alloc (by simp<;>omega) _)⟩
 case round=>
  obtain⟨i,v7,hi,rfl,h6,h7,hr,hk,hb⟩:=hrel;obtain⟨A6,n6,c6,rfl⟩:=pw h6.e;obtain⟨A7,n7,c7,rfl⟩:=pw h7.e;by_cases al:i<n3
  ·obtain⟨ad,x,cs,kX,aC,hx,⟨rfl,Oj⟩,-,au⟩:=R3.e i al
   subst kX;have st:Δ B w wr:=Δ.aK hb.e hB;obtain⟨x,kv⟩:=x;simp only at Oj;obtain⟨m5,rN⟩:∃k,k=x.pieces.length:=⟨_,rfl⟩
   obtain⟨A5,c5,rfl,-⟩:=id Oj;rw[<-rN] at hx au;clear Oj rN;have g0:=cC au st aC rfl;have g1:=bK au st aC 0 rfl;have g2:=bK au st aC 1 rfl;have aI:=hb.e.size;have xD:(ad.add (i * 3)).block<wr.heap.size:=by rw[cq];omega
   have G9:=ZH ⟨m,hm⟩ ⟨i,by omega⟩
   simp only at G9;have HX:=ψ hx;have sR:=ψ (ϑ h6.e (ϑ h7.e (ϑ hr.e (ϑ hk.e hb.e))));clear hx au st;cases vb:m.testBit i with
   |false=>
    rw[vb] at G9;go_wp2;go_roundw;case rel=>exact⟨i+1,_,by omega,by go_num,ψ (by unfold lV;rw[Ic vb];exact h6.e.alloc _),ψ (by rw[Ic vb,Wy vb];exact h7.e.alloc _),ψ (hr.e.alloc _),ψ (hk.e.alloc _),ψ (hb.e.alloc aI _)⟩
    case measure=>simp[ϗ];omega
   |true=>
    rw[vb] at G9;go_wp2;obtain⟨i3,fZ,jB,gQ,bD⟩:=Ag7 VG;obtain⟨i9,DC,Vu,N7,oZ⟩:=Ag7 Oq;have nW:=ψ (ϑ fZ (ϑ jB (ϑ gQ bD)));have nX:=ψ (ϑ DC (ϑ Vu (ϑ N7 oZ)));clear fZ jB gQ bD DC Vu N7 oZ h6 h7 hr hk hb g0 g1 g2 xD G9;have yS:OI w (wr.alloc (Ξ #[ζ A5 m5 c5,ξ κ x.sum.lo,ξ κ x.sum.hi] 95)) w.heap.size wr.heap.size (ξ κ b.ag) (ζ A1 n1 c1) (ζ A2 n2 c2) (ζ A7 n7 c7) (ζ A6 n6 c6) (ζ A7 n7 c7) #[ζ A5 m5 c5,ξ κ x.sum.lo,ξ κ x.sum.hi] (dJ m i).length (dJ m i).length (lV m i) ((fL ts m i).flatMap eG):=
     ⟨sR.e.1.alloc _,sR.e.2.1.alloc _,sR.e.2.2.1.alloc _,sR.e.2.2.2.1.alloc _,Bk.new wr _ _,sR.e.2.2.2.2.alloc aI _⟩
    have Vv:(wr.alloc (Ξ #[ζ A5 m5 c5,ξ κ x.sum.lo,ξ κ x.sum.hi] 95)).heap.size=wr.heap.size+1:=by simp
    generalize (wr.alloc (Ξ #[ζ A5 m5 c5,ξ κ x.sum.lo,ξ κ x.sum.hi] 95))=V at yS Vv |-
    have nZ:Hid (OI w V.drew w.heap.size wr.heap.size (ξ κ b.ag) (ζ A1 n1 c1) (ζ A2 n2 c2) (ζ A7 n7 c7) (ζ A6 n6 c6) (ζ A7 n7 c7) #[ζ A5 m5 c5,ξ κ x.sum.lo,ξ κ x.sum.hi] (dJ m i).length (dJ m i).length (lV m i) ((fL ts m i).flatMap eG)):=ψ ⟨yS.o6,yS.o7,yS.kr,yS.kk,yS.ke,iY yS.hb⟩;have q7: V.cell? ⟨w.heap.size+2,3,ν⟩=φ (ζ A7 n7 c7):=yS.kk.cell 3;have e0: V.cell? ⟨wr.heap.size,0,ν⟩=φ (ζ A5 m5 c5):=yS.ke.cell 0;have e1: V.cell? ⟨wr.heap.size,1,ν⟩=φ (ξ κ x.sum.lo):=yS.ke.cell 1;have e2: V.cell? ⟨wr.heap.size,2,ν⟩=φ (ξ κ x.sum.hi):=yS.ke.cell 2;have xR:=yS.kk.lt;have aeO:w.heap.size+2<=V.heap.size:=by omega
    have aeP:w.heap.size+2<V.heap.size+1:=by omega
    have aeQ:w.heap.size+2<=V.heap.size+1:=by omega
    have Ng:wr.heap.size<V.heap.size:=by omega
    have aep:wr.heap.size<=V.heap.size:=by omega
    have aer:wr.heap.size<V.heap.size+1:=by omega
    have aes:wr.heap.size<=V.heap.size+1:=by omega
    have afZ:w.heap.size+3<=V.heap.size:=xR;have rJ:(dJ m i).length<=4:=by have:=Ek m i;omega
    obtain⟨nl,Az⟩:∃k,k=(dJ m i).length:=⟨_,rfl⟩
    rw[<-Az] at nZ rJ;have Q8:=ψ Az;clear yS sR Vv aI Az;refine Code.wp_mono (Q:=dP λa W=>∃BT n61 Nh BU Ez CJ XY XZ,a={tmps:=#[Value.agg #[Ϟ ϛ b.ag,Value.slice A1 n1 c1,Value.slice A2 n2 c2,Value.slice (φ ad) n3 c3],Ϟ ϛ (m:Int),Value.pointer (φ {block:=w.heap.size,off:=0}),ω,Value.pointer (φ {block:=w.heap.size+1,off:=0}),Value.slice ν 0 0,Value.slice BT n61 Nh,Value.pointer (φ {block:=w.heap.size+1+1,off:=0}),Ϟ ϛ (i:Int),Value.pointer (φ {block:=wr.heap.size,off:=0}),Value.agg #[Ϟ ϛ b.ag,Value.slice A1 n1 c1,Value.slice A2 n2 c2,Value.slice (φ ad) n3 c3],Value.pointer (φ {block:=w.heap.size+1+1,off:=0}),Value.pointer (φ {block:=w.heap.size+1+1,off:=3}),Value.pointer (φ {block:=w.heap.size,off:=0}),Value.pointer (φ {block:=w.heap.size,off:=3}),Value.slice (φ ad) n3 c3,Ϟ ϛ (n3:Int),Ϟ ϛ (i:Int),Value.bool θ,Ϟ ϛ (i:Int),Value.pointer (φ (ad.add (i * 3))),Value.agg #[Value.slice A5 m5 c5,Ϟ ϛ x.sum.lo,Ϟ ϛ x.sum.hi],Ϟ ϛ (m:Int),Ϟ ϛ (i:Int),Ϟ ϛ ((m:Int) / 2 ^ i),Ϟ ϛ (bits BinOp.and ϛ ((m:Int) / 2 ^ i) 1),Value.bool θ,Value.slice A6 n6 c6,Ϟ ϛ (i:Int),XY,Value.slice BT n61 Nh,Value.pointer (φ {block:=w.heap.size+1+1,off:=0}),Value.pointer (φ {block:=w.heap.size+1+1,off:=3}),Value.slice A7 n7 c7,Value.agg #[Value.slice A5 m5 c5,Ϟ ϛ x.sum.lo,Ϟ ϛ x.sum.hi],XZ,Value.slice BU Ez CJ,Value.pointer (φ {block:=w.heap.size+1+1,off:=0}),Value.pointer (φ {block:=w.heap.size+1+1,off:=3}),u39,ω,ω],defers:=[]}/\
     Hid (W.ownsRow (w.heap.size+3) 3 1 (ζ BT n61 Nh) (nl+1) (lV m i++ [ξ κ i])/\W.ownsRow (w.heap.size+3) 95 3 (ζ BU Ez CJ) (nl+1) ((fL ts m i).flatMap eG++ [ζ A5 m5 c5,ξ κ x.sum.lo,ξ κ x.sum.hi])/\
      Bk W (w.heap.size+1) 117 #[ξ κ 0,ζ ν 0 0,ζ ν 0 0,ζ ν 0 0]/\Bk W (w.heap.size+2) 117 #[ξ κ b.ag,ζ A1 n1 c1,ζ A2 n2 c2,ζ BU Ez CJ]/\Γ w.heap.size w W)) ?post ?region
    case region=>
     go_region_law (first
      | (first
              |refine ug rfl (.tmp 27) (.tmp 29) 33 rfl (w.heap.size+3) 3 i3 (ξ κ 0) 1 8 (U Tryz.underlying33) nW.e.1 nW.e.2.1 nW.e.2.2.1 nW.e.2.2.2 rfl (by decide) _ nl (lV m i) rfl (nZ.e.alloc _).o6 ⟨V.heap.size,0,ν⟩ 1 1 [ξ κ i] rfl rfl ?c1 ?c2 ?c3 ?c4 ?c5 ?_
              |refine ug rfl (.tmp 27) (.tmp 29) 33 rfl (w.heap.size+3) 3 i3 (ξ κ 0) 1 8 (U Tryz.underlying33) nW.e.1 nW.e.2.1 nW.e.2.2.1 nW.e.2.2.2 rfl (by decide) _ nl (lV m i) rfl ((nZ.e.alloc _).alloc _).o6 ⟨V.heap.size,0,ν⟩ 1 1 [ξ κ i] rfl rfl ?c1 ?c2 ?c3 ?c4 ?c5 ?_
              |refine ug rfl (.tmp 27) (.tmp 29) 33 rfl (w.heap.size+3) 3 i3 (ξ κ 0) 1 8 (U Tryz.underlying33) nW.e.1 nW.e.2.1 nW.e.2.2.1 nW.e.2.2.2 rfl (by decide) _ nl (lV m i) rfl ((nZ.e.alloc _).alloc _).o6 ⟨V.heap.size+1,0,ν⟩ 1 1 [ξ κ i] rfl rfl ?c1 ?c2 ?c3 ?c4 ?c5 ?_
         case c1=>first|exact LN (Bk.new V.drew 3 _) |exact LN ((Bk.new V.drew 3 _).alloc _) |exact LN (Bk.cG (w:=V.drew.alloc _) (by simp) 3 _)
         case c2=>simp[Value.oneCell']
         case c3=>(simp only[ϕ];omega)
         case c4=>omega
         case c5=>first| (simp;done) | (simp;omega)
         intro v6 w6 aG dS;have jM:Hid (OI w w6 w.heap.size wr.heap.size (ξ κ b.ag) (ζ A1 n1 c1) (ζ A2 n2 c2) (ζ A7 n7 c7) v6 (ζ A7 n7 c7) #[ζ A5 m5 c5,ξ κ x.sum.lo,ξ κ x.sum.hi] (nl+1) nl (lV m i++ [ξ κ i]) ((fL ts m i).flatMap eG)):=ψ (by first|exact(nZ.e.alloc _).Rv aG dS|exact((nZ.e.alloc _).alloc _).Rv aG dS)
         have q7: w6.cell? ⟨w.heap.size+2,3,ν⟩=φ (ζ A7 n7 c7):=jM.e.kk.cell 3;have e0: w6.cell? ⟨wr.heap.size,0,ν⟩=φ (ζ A5 m5 c5):=jM.e.ke.cell 0;have e1: w6.cell? ⟨wr.heap.size,1,ν⟩=φ (ξ κ x.sum.lo):=jM.e.ke.cell 1;have e2: w6.cell? ⟨wr.heap.size,2,ν⟩=φ (ξ κ x.sum.hi):=jM.e.ke.cell 2;have jV:w.heap.size+2<w6.heap.size:=jM.e.kk.lt;have he6:wr.heap.size<w6.heap.size:=jM.e.ke.lt;have aoo:w.heap.size+2<=w6.heap.size:=by omega
         have aoc:wr.heap.size<=w6.heap.size:=by omega
         try(have HZ:Hid (Bk w6 (V.heap.size+1) 95 #[ζ A5 m5 c5,ξ κ x.sum.lo,ξ κ x.sum.hi]):=ψ (afX nZ.e dS))
         try(have HY:Hid (Bk w6 V.heap.size 95 #[ζ A5 m5 c5,ξ κ x.sum.lo,ξ κ x.sum.hi]):=ψ (afT nZ.e dS))
         obtain⟨BT,n61,Nh,rfl⟩:=pw aG;clear aG dS)
      | (first
              |refine ug rfl (.tmp 33) (.tmp 35) 24 rfl (w.heap.size+3) 95 i9 (η #[ζ ν 0 0,ξ κ 0,ξ κ 0]) 3 40 (U Tryz.underlying24) nX.e.1 nX.e.2.1 nX.e.2.2.1 nX.e.2.2.2 rfl (by decide) _ nl ((fL ts m i).flatMap eG) rfl (jM.e.alloc _).o7 ⟨w6.heap.size,0,ν⟩ 1 1 [ζ A5 m5 c5,ξ κ x.sum.lo,ξ κ x.sum.hi] rfl rfl ?c1 ?c2 ?c3 ?c4 ?c5 ?_
              |refine ug rfl (.tmp 33) (.tmp 35) 24 rfl (w.heap.size+3) 95 i9 (η #[ζ ν 0 0,ξ κ 0,ξ κ 0]) 3 40 (U Tryz.underlying24) nX.e.1 nX.e.2.1 nX.e.2.2.1 nX.e.2.2.2 rfl (by decide) _ nl ((fL ts m i).flatMap eG) rfl jM.e.o7 ⟨V.heap.size+1,0,ν⟩ 1 1 [ζ A5 m5 c5,ξ κ x.sum.lo,ξ κ x.sum.hi] rfl rfl ?c1 ?c2 ?c3 ?c4 ?c5 ?_
              |refine ug rfl (.tmp 33) (.tmp 35) 24 rfl (w.heap.size+3) 95 i9 (η #[ζ ν 0 0,ξ κ 0,ξ κ 0]) 3 40 (U Tryz.underlying24) nX.e.1 nX.e.2.1 nX.e.2.2.1 nX.e.2.2.2 rfl (by decide) _ nl ((fL ts m i).flatMap eG) rfl jM.e.o7 ⟨V.heap.size,0,ν⟩ 1 1 [ζ A5 m5 c5,ξ κ x.sum.lo,ξ κ x.sum.hi] rfl rfl ?c1 ?c2 ?c3 ?c4 ?c5 ?_
         case c1=>first|exact LO (Bk.new w6 95 _) |exact LO HZ.e|exact LO HY.e
         case c2=>simp[Value.oneCell']
         case c3=>(simp only[ϕ];omega)
         case c4=>omega
         case c5=>first|omega| (simp;omega)
         intro v7 w7 aG dS;have KV:Hid (w7.ownsRow (w.heap.size+3) 3 1 _ (nl+1) (lV m i++ [ξ κ i])/\w7.ownsRow (w.heap.size+3) 95 3 v7 (nl+1) ((fL ts m i).flatMap eG++ [ζ A5 m5 c5,ξ κ x.sum.lo,ξ κ x.sum.hi])/\Bk w7 (w.heap.size+1) 117 #[ξ κ 0,ζ ν 0 0,ζ ν 0 0,ζ ν 0 0]/\Bk w7 (w.heap.size+2) 117 #[ξ κ b.ag,ζ A1 n1 c1,ζ A2 n2 c2,ζ A7 n7 c7]/\Γ w.heap.size w w7):=ψ (by first|exact(jM.e.alloc _).Rw aG dS|exact jM.e.Rw aG dS)
         have q3: w7.cell? ⟨w.heap.size+2,3,ν⟩=φ (ζ A7 n7 c7):=KV.e.2.2.2.1.cell 3;have f3: w7.frozen? ⟨w.heap.size+2,3,ν⟩=χ:=KV.e.2.2.2.1.frozen 3;obtain⟨BU,Ez,CJ,rfl⟩:=pw aG;clear aG dS))
     all_goals
      show ∃_,_
      exact⟨_,_,_,_,_,_,_,_,rfl,ψ (aja KV.e)⟩
    case post=>
     clear nZ q7 e0 e1 e2 xR aeO aeP aeQ Ng aep aer aes afZ nW nX;refine dP.imp ?_
     rintro a W ⟨BT,n61,Nh,BU,Ez,CJ,XY,XZ,rfl,hW⟩;have HW:=ψ hW;clear hW;go_wp2;go_roundw;case rel=>exact⟨i+1,_,by omega,by go_num,ψ (by unfold lV;rw[Ie vb];have:=HW.e.1;rw[Q8.e] at this;simpa [lV] using this),ψ (by rw[Ie vb,Wz vb HX.e];have:=HW.e.2.1;rw[Q8.e] at this;simpa [eG] using this),ψ HW.e.2.2.1,ψ HW.e.2.2.2.1,ψ HW.e.2.2.2.2⟩
     case measure=>simp[ϗ];omega
  ·obtain rfl:i=n3:=by omega
   have q0:=hk.e.cell 0;have q1:=hk.e.cell 1;have q2:=hk.e.cell 2;have q3:=hk.e.cell 3;have p0:=hr.e.cell 0;have p1:=hr.e.cell 1;have p2:=hr.e.cell 2;have p3:=hr.e.cell 3;have f0:=hr.e.frozen 0;have f1:=hr.e.frozen 1;have f2:=hr.e.frozen 2;have f3:=hr.e.frozen 3;have rV:w.heap.size+1<wr.heap.size:=hr.e.lt;have qz:=((((hr.e.set 0 (ξ κ b.ag)).set 1 (ζ A1 n1 c1)).set 2 (ζ A2 n2 c2)).set 3 (ζ A7 n7 c7));have y0:=qz.cell 0;have y1:=qz.cell 1;have y2:=qz.cell 2;have y3:=qz.cell 3;clear qz;go_wp2;refine bodyPost_ret (v:=μ #[η #[ξ κ b.ag,ζ A1 n1 c1,ζ A2 n2 c2,ζ A7 n7 c7],ζ A6 n6 c6]) (by simp[results,Tryz.results138,go_sem,y0,y1,y2,y3]) rfl ⟨_,_,rfl,?_⟩
   exact ajc hB bT.e HM.e.1 HM.e.2.1 (by rw[E3.e]) h6.e h7.e hb.e
end Go.Tw
namespace Go.Tw
variable [Go.Tw.aR]
open Go Go.Proofs Go.RowKit
def wW(b:ao)(m:Nat)(cur:List Int):Bool:=
 let l:=(dJ m b.aJ.length).map Aij
 (decide (l.length<cur.length) || (decide (l.length=cur.length) && decide (pY l cur<0))) && decide ((aD (mM b m)).length=0)
def ju(b:ao):Nat->List Int
 |0=>(dJ (2 ^ b.aJ.length - 1) b.aJ.length).map Aij
 |m+1=>if wW b m (ju b m) then(dJ m b.aJ.length).map Aij else ju b m
def zM(b:ao):List Int:=if(aD b).length=0 then ju b (2 ^ b.aJ.length) else []
def yK{b:ao}{m:Nat}(h:Valid b):Valid (mM b m):=by
 have mB:∀t∈(mM b m).aJ,t∈b.aJ:=λt ht=>by
  have:t∈fL b.aJ m b.aJ.length:=ht;unfold fL at this;obtain⟨k,_,hk⟩:=List.mem_filterMap.1 this;exact Ϭ hk
 refine⟨h.ag,h.np,h.piece,h.nb,h.bp,?_,λt ht=>h.tape t (mB t ht)⟩
 have:(mM b m).aJ.length=(dJ m b.aJ.length).length:=Pc b.aJ m _ (ϊ _);rw[this];exact Ϧ (Ek _ _) h.nt
def agu{K:Act->Ψ->Prop}{a:Act}{w:Ψ}(F:Ψ->Prop)(h:∀W,F W->K a W)(hw:F w):K a w:=h w hw
def Ss{b:ao}{m:Nat}(h:wW b m (ju b m)=θ):ju b (m+1)=(dJ m b.aJ.length).map Aij:=by
 show(if wW b m (ju b m) then(dJ m b.aJ.length).map Aij else ju b m)=_
 rw[if_pos h]
def GA{b:ao}{m:Nat}(h:wW b m (ju b m)=χ):ju b (m+1)=ju b m:=by
 show(if wW b m (ju b m) then(dJ m b.aJ.length).map Aij else ju b m)=_
 rw[h];rfl
def Sr(b:ao):∀m,(ju b m).length<=b.aJ.length
 |0=>by simp[ju];exact Ek _ _
 |m+1=>by
  unfold ju;split
  ·simp;exact Ek _ _
  ·exact Sr b m
def aaq{w:Ψ}{b:ao}{pv bv tv:υ}{B:Nat}(hB:B<=w.heap.size)(ai:bg w B b pv bv tv)(h0:dF b=0):
 ύ prog 56 #[η #[ξ κ b.ag,pv,bv,tv]] w λe w'=>∃v,e=Ω (μ #[v,ξ κ 0])/\Row w' w'.heap.size 1 cH v (zM b)/\Γ w.heap.size w w':=by
 have st:Δ B w (w.alloc (Ξ #[ξ κ b.ag,pv,bv,tv] 26)):=(Δ.refl w).alloc hB _;have aB:=ψ (ry (ai.still st) (by simp<;>omega) h0)
 have bT:=ψ ai;have hv:=iy h0;have HV:=ψ hv;have adV:=Ct hv;have xZ:=hv.nt;obtain⟨A1,n1,c1,rfl,-⟩:=ai.pieces.Φ;obtain⟨A2,n2,c2,rfl,-⟩:=ai.aF.Φ;obtain⟨A3,n3,c3,rfl,e3,h3,rD,-⟩:=ai.aJ.Φ;rw[e3] at xZ;have E3:=ψ e3;unfold ϕ at rD;obtain⟨na,vr⟩:∃n,n=(aD b).length:=⟨_,rfl⟩
 rw[<-vr] at adV;by_cases rP:0<na
 ·have Ot:=ψ vr
  have fY:zM b=[]:=by unfold zM;rw[if_neg (by have:=Ot.e;omega)]
  have uy:=ψ fY;clear vr fY;go_enter func56,Tryz.ntmps56;go_wp2_with (first
   | (go_at_call 68;refine aB.e.mono ?_;rintro e w1 ⟨rfl,ae⟩
      have kb:Bk w1 w.heap.size 26 #[ξ κ b.ag,ζ A1 n1 c1,ζ A2 n2 c2,ζ A3 n3 c3]:=(Bk.new w _ _).below ae (by simp)
      have k0:=kb.cell 0;have k1:=kb.cell 1;have k2:=kb.cell 2;have k3:=kb.cell 3;have aY:Hid (Γ w.heap.size w w1):=ψ ((((ώ _ _).alloc (ϊ _) _)).trans (ae.mono (by simp)))
      have KB:=ψ kb;have aN:w.heap.size<w1.heap.size:=kb.lt;have Kg:Hid (∀w',Γ w1.heap.size w1 w'->ύ prog 96 #[η #[ξ κ b.ag,ζ A1 n1 c1,ζ A2 n2 c2,ζ A3 n3 c3]] w' λe bq=>∃v,e=Ω v/\qQ bq w'.heap.size v (aD b)/\Γ w'.heap.size w' bq):=ψ λw' hw=>by
       have st:Δ B w w':=Δ.aK (aY.e.trans (hw.mono (by omega))) hB
       exact all (by have:=hw.size;omega) (bT.e.still st) HV.e
      clear kb ae)
   | (go_at_call 96
      refine(Kg.e _ ((ώ _ _).alloc (ϊ _) _)).mono ?_
      rintro e w2 ⟨sv,rfl,aG,ak⟩;obtain⟨A9,n9,c9,rfl,cY,nG,py,iN⟩:=aG.row.Φ;have e9:n9=na:=by rw[<-cY];exact Ot.e.symm
      subst e9;have dV:=ψ ak;clear ak aG cY iN))
  go_ret2
  exact⟨_,rfl,by rw[uy.e];exact Row.nil,aY.e.trans ((((ώ _ _).alloc (ϊ _) _).trans (dV.e.mono (by simp))).mono (by omega))⟩
 obtain rfl:na=0:=by omega
 have Ot:=ψ vr;clear ai st hv h0 vr e3;obtain⟨mp,rO⟩:∃mp,2 ^ n3=mp+1:=⟨2 ^ n3 - 1,by have:0<2 ^ n3:=Nat.two_pow_pos n3;omega⟩
 have hp:((2:Int) ^ n3)=(mp:Int)+1:=by
  have h1:((2:Int) ^ n3)=((2 ^ n3:Nat):Int):=by simp
  rw[h1,rO];simp
 have ae9:mp<16:=by
  have:2 ^ n3<=2 ^ 4:=Nat.pow_le_pow_right (by omega) xZ
  omega
 have yo:ϛ.wrap ((mp:Int)+1)=(mp:Int)+1:=by rw[IntWalk.i64_left];exact IntWalk.wrap64_in _ (by omega)
 have eC:ϛ.wrap (mp:Int)=(mp:Int):=by rw[IntWalk.i64_left];exact IntWalk.wrap64_in _ (by omega)
 have Sn:ϛ.wrap ((mp:Int)+1 - 1)=(mp:Int):=by rw[Int.add_sub_cancel];exact eC
 have Q7:=ψ rO;clear rO;go_enter func56,Tryz.ntmps56;go_wp2_with (first
  | (go_at_call 68;refine aB.e.mono ?_;rintro e w1 ⟨rfl,ae⟩
     have kb:Bk w1 w.heap.size 26 #[ξ κ b.ag,ζ A1 n1 c1,ζ A2 n2 c2,ζ A3 n3 c3]:=(Bk.new w _ _).below ae (by simp)
     have k0:=kb.cell 0;have k1:=kb.cell 1;have k2:=kb.cell 2;have k3:=kb.cell 3;have aY:Hid (Γ w.heap.size w w1):=ψ ((((ώ _ _).alloc (ϊ _) _)).trans (ae.mono (by simp)))
     have KB:=ψ kb;have aN:w.heap.size<w1.heap.size:=kb.lt;have Kg:Hid (∀w',Γ w1.heap.size w1 w'->ύ prog 96 #[η #[ξ κ b.ag,ζ A1 n1 c1,ζ A2 n2 c2,ζ A3 n3 c3]] w' λe bq=>∃v,e=Ω v/\qQ bq w'.heap.size v (aD b)/\Γ w'.heap.size w' bq):=ψ λw' hw=>by
      have st:Δ B w w':=Δ.aK (aY.e.trans (hw.mono (by omega))) hB
      exact all (by have:=hw.size;omega) (bT.e.still st) HV.e
     clear kb ae)
  | (go_at_call 96
     refine(Kg.e _ ((ώ _ _).alloc (ϊ _) _)).mono ?_
     rintro e w2 ⟨sv,rfl,aG,ak⟩;obtain⟨A9,n9,c9,rfl,cY,nG,py,iN⟩:=aG.row.Φ;have e9:n9=0:=by rw[<-cY,<-Ot.e]
     subst e9;have dV:=ψ ak;have mH:Bk w2 w.heap.size 26 #[ξ κ b.ag,ζ A1 n1 c1,ζ A2 n2 c2,ζ A3 n3 c3]:=(KB.e.alloc _).below ak (by simp<;>omega)
     have rY:Bk w2 w1.heap.size 117 #[ξ κ b.ag,ζ A1 n1 c1,ζ A2 n2 c2,ζ A3 n3 c3]:=(Bk.new _ _ _).below ak (by simp)
     have q3: w2.cell? ⟨w.heap.size,3,ν⟩=φ (ζ A3 n3 c3):=mH.cell 3;have k0:=rY.cell 0;have k1:=rY.cell 1;have k2:=rY.cell 2;have k3:=rY.cell 3;have wS:=ψ (ϑ mH rY);clear ak aG cY iN mH rY))
 have KS:∀w',Hid (Γ w2.heap.size w2 w')-> w'.cell? ⟨w.heap.size,3,ν⟩=φ (ζ A3 n3 c3)/\ w'.cell? ⟨w1.heap.size,0,ν⟩=φ (ξ κ b.ag)/\ w'.cell? ⟨w1.heap.size,1,ν⟩=φ (ζ A1 n1 c1)/\ w'.cell? ⟨w1.heap.size,2,ν⟩=φ (ζ A2 n2 c2)/\ w'.cell? ⟨w1.heap.size,3,ν⟩=φ (ζ A3 n3 c3)/\Hid (Γ w2.heap.size w2 w'):=λw' h=>
  ⟨(h.e.cell wS.e.1.lt).trans q3,(h.e.cell wS.e.2.lt).trans k0,(h.e.cell wS.e.2.lt).trans k1,(h.e.cell wS.e.2.lt).trans k2,(h.e.cell wS.e.2.lt).trans k3,h⟩
 have HD:Hid (Γ w2.heap.size w2 w2.drew):=ψ (iY (ώ _ _));have QG:Hid (∀(m:Nat) (w':Ψ),m<16->Γ w2.heap.size w2 w'->ύ prog 138 #[η #[ξ κ b.ag,ζ A1 n1 c1,ζ A2 n2 c2,ζ A3 n3 c3],ξ κ m] w' λe bq=>∃fD iv,e=Ω (μ #[η #[ξ κ b.ag,ζ A1 n1 c1,ζ A2 n2 c2,fD],iv])/\bg bq bq.heap.size (mM b m) (ζ A1 n1 c1) (ζ A2 n2 c2) fD/\
  cW bq (λk=>k<w'.heap.size) 1 cH iv ((dJ m b.aJ.length).map Aij)/\Γ w'.heap.size w' bq):=ψ λm w' hm hw=>by
  have st:Δ B w w':=Δ.aK ((aY.e.trans ((((ώ _ _).alloc (ϊ _) _).trans (dV.e.mono (by simp))).mono (by omega))).trans (hw.mono (by have:=wS.e.1.lt;omega))) hB
  exact only (by have:=hw.size;have:=dV.e.size;have:=aY.e.size;simp at *;omega) (bT.e.still st) HV.e.nt hm
 clear q3 k0 k1 k2 k3;go_region_held3 (λw'=> w'.cell? ⟨w.heap.size,3,ν⟩=φ (ζ A3 n3 c3)/\ w'.cell? ⟨w1.heap.size,0,ν⟩=φ (ξ κ b.ag)/\ w'.cell? ⟨w1.heap.size,1,ν⟩=φ (ζ A1 n1 c1)/\ w'.cell? ⟨w1.heap.size,2,ν⟩=φ (ζ A2 n2 c2)/\ w'.cell? ⟨w1.heap.size,3,ν⟩=φ (ζ A3 n3 c3)/\Hid (Γ w2.heap.size w2 w'))
  (first
    |exact KS _ HD|exact KS _ (ψ (HD.e.alloc (ϊ _) _)) |exact KS _ nY|exact KS _ (ψ (nY.e.alloc (nY.e.size) _))
    |exact KS _ (ψ ((((nY.e.setCell (ϊ _) _).setCell (ϊ _) _).setCell (ϊ _) _).setCell (ϊ _) _))
    |exact KS _ (ψ (((((nY.e.alloc (nY.e.size) _).setCell nY.e.size _).setCell nY.e.size _).setCell nY.e.size _).setCell nY.e.size _)))
  (first
    | (go_at_call 138
       refine(QG.e mp _ ae9 ?hx).mono ?_
       case hx=>first|exact HD.e|exact HD.e.alloc (ϊ _) _
       rintro e w3 ⟨t6v,i7v,rfl,bD,AG,Hd⟩;have nY:Hid (Γ w2.heap.size w2 w3):=ψ (by first|exact HD.e.trans Hd|exact(HD.e.alloc (ϊ _) _).trans (Hd.mono (by simp)))
       obtain⟨iW,n31,iZ,rfl,-⟩:=bD.aJ.Φ;obtain⟨QD,n32,Sg,rfl,-⟩:=id AG.row.Φ
       try(
        have rU:Bk w3 w2.heap.size 117 #[ξ κ 0,ζ ν 0 0,ζ ν 0 0,ζ ν 0 0]:=(Bk.new w2.drew _ _).below Hd (by simp)
        have z0: w3.cell? ⟨w2.heap.size,0,ν⟩=φ (ξ κ 0):=rU.cell 0;have z1: w3.cell? ⟨w2.heap.size,1,ν⟩=φ (ζ ν 0 0):=rU.cell 1;have z2: w3.cell? ⟨w2.heap.size,2,ν⟩=φ (ζ ν 0 0):=rU.cell 2;have z3: w3.cell? ⟨w2.heap.size,3,ν⟩=φ (ζ ν 0 0):=rU.cell 3;have y0:=rU.frozen 0;have y1:=rU.frozen 1;have y2:=rU.frozen 2;have y3:=rU.frozen 3;have YV:Hid (cW w3 (λk=>k=w2.heap.size) 1 cH (ζ QD n32 Sg) ((dJ mp b.aJ.length).map Aij)):=ψ (AG.weaken (λk hk=>by subst hk;simp))
        have y9:w2.heap.size<w3.heap.size:=rU.lt;clear rU)
       have YT:=ψ AG.row;clear bD AG Hd))
 all_goals
  have ic:ju b 0=(dJ mp b.aJ.length).map Aij:=by
   show(dJ (2 ^ b.aJ.length - 1) b.aJ.length).map Aij=_;rw[E3.e,Q7.e,Nat.add_sub_cancel]
  have Kt:=ψ ic;clear ic;simp only[Exit.then];refine agu (λW=>Hid (Γ w2.heap.size w2 W)/\Hid (Row W W.heap.size 1 cH (ζ QD n32 Sg) (ju b 0))) ?_ ?_
  rotate_left 1
  ·rw[Kt.e]
   first
    |exact⟨ψ (nY.e.alloc nY.e.size _),ψ ((YT.e.still (Δ.aK ((ώ w3.heap.size w3).alloc (ϊ _) _) (ϊ _)) λ_ _ h=>h).more (by simp))⟩
    |exact⟨ψ ((((nY.e.setCell (ϊ _) _).setCell (ϊ _) _).setCell (ϊ _) _).setCell (ϊ _) _),
       ψ ((((YV.e.grown (uV _ _ _) (λk e=>by injection e with e;exact e.symm)).grown (uV _ _ _) (λk e=>by injection e with e;exact e.symm)).grown (uV _ _ _) (λk e=>by injection e with e;exact e.symm)).grown (uV _ _ _) (λk e=>by injection e with e;exact e.symm)).row⟩
  rintro W ⟨HW,HR⟩;have⟨s3,s0,s1,s2,s4,_⟩:=KS W HW;go_wp2;go_loopw [7,36] (λv7 u wr=>∃m:Nat,m<=mp+1/\u=ξ κ m/\Hid (Γ w2.heap.size w2 wr)/\Hid (Row wr wr.heap.size 1 cH v7 (ju b m))) (λ_ u _=>mp+1 - (ϗ u).toNat)
  case atStart=>exact⟨0,ϟ _,rfl,HW,HR⟩
  case round=>
   clear s3 s0 s1 s2 s4;obtain⟨m,hm,rfl,iX,oa⟩:=hrel;obtain⟨wq,rfl⟩:∃wq:Ψ,wq=wr:=⟨_,rfl⟩
   have⟨s3,s0,s1,s2,s4,_⟩:=KS wq iX;obtain⟨A7,n7,c7,rfl,e7,h7,Fl,-⟩:=oa.e.Φ;unfold ϕ at Fl;by_cases al:m<mp+1
   ·have wG:=ψ (QG.e m wq (by omega) iX.e)
    obtain⟨L,hL⟩:∃L,L=(dJ m b.aJ.length).map Aij:=⟨_,rfl⟩
    rw[<-hL] at wG;obtain⟨cur,tB⟩:∃l,l=ju b m:=⟨_,rfl⟩
    rw[<-tB] at oa e7;obtain⟨l,hl⟩:∃l,l=L.length:=⟨_,rfl⟩
    have hl4:l<=4:=by rw[hl,hL,Ah4];have:=Ek m b.aJ.length;have:=E3.e;omega
    have hc4:n7<=4:=by rw[<-e7,tB];have:=Sr b m;have:=E3.e;omega
    obtain⟨cm,kZ⟩:∃c,c=pY L cur:=⟨_,rfl⟩
    obtain⟨nb,gy⟩:∃n,n=(aD (mM b m)).length:=⟨_,rfl⟩
    have aoA:nb<=27:=by rw[gy];exact Ct (yK HV.e)
    have TY:wW b m cur=((decide (l<n7) || (decide (l=n7) && decide (cm<0))) && decide (nb=0)):=by
     unfold wW;rw[<-hL];simp only[<-hl,<-kZ,<-gy,e7]
    have HE:=ψ (ϑ hL (ϑ tB (ϑ hl (ϑ kZ (ϑ gy (ϑ e7 TY))))));clear hL tB hl kZ gy e7 TY;have hwm:m+1<=mp+1:=al;by_cases h1:l<n7
    ·by_cases hE:nb=0
     ·have uY:((nb:Int)==0)=θ:=by simp;omega
      go_wp2_with (first
       | (go_at_call 138
          refine wG.e.mono ?_
          rintro e w4 ⟨qU,qJ,rfl,cO,cV,eB⟩;have pK:Hid (∀w',Γ w4.heap.size w4 w'->ύ prog 96 #[η #[ξ κ b.ag,ζ A1 n1 c1,ζ A2 n2 c2,qU]] w' λe bq=>∃v,e=Ω v/\qQ bq w'.heap.size v (aD (mM b m))/\Γ w'.heap.size w' bq):=ψ λw' hw=>all hw.size (cO.still (Δ.aK hw (ϊ _))) (yK HV.e)
          have pJ:Hid (∀w',Γ w4.heap.size w4 w'->ύ prog 139 #[qJ,ζ A7 n7 c7] w' λe bq=>e=Ω (ξ κ cm)/\w'=bq):=ψ λw' hw=>by
             have st:Δ wq.heap.size wq w':=Δ.aK (eB.trans (hw.mono eB.size)) (ϊ _);rw[HE.e.2.2.2.1];exact zN ((cV.row.still (Δ.aK hw (ϊ _)) λ_ _ h=>h)) ((oa.e.still st λ_ _ h=>h).more eB.size) hw.size
          obtain⟨uu,n41,uM,rfl,-⟩:=cO.aJ.Φ;obtain⟨J2,n42,CG,rfl,kW,-⟩:=cV.row.Φ;have pZ:n42=l:=by rw[<-kW,<-HE.e.2.2.1]
          subst pZ;have wT:=ψ cV.row;have fx:Hid (Γ wq.heap.size wq w4):=ψ eB;clear cO cV eB kW)
       | (go_at_call 139
          refine(pJ.e _ ((ώ _ _).alloc (ϊ _) _)).mono ?_
          rintro e w5 ⟨rfl,rfl⟩)
       | (go_at_call 96
          refine(pK.e _ ((ώ _ _).alloc (ϊ _) _)).mono ?_
          rintro e w6 ⟨sv,rfl,aG,fI⟩;obtain⟨A9,n9,c9,rfl,cY,nG,py,-⟩:=aG.row.Φ;have e9:n9=nb:=by rw[<-cY];exact HE.e.2.2.2.2.1.symm
          subst e9;have gU:=ψ fI;clear fI aG cY))
      go_roundw;case rel=>exact⟨m+1,by omega,by go_num,ψ ((iX.e.trans (fx.e.mono iX.e.size)).trans ((((ώ w4.heap.size w4).alloc (ϊ _) _).trans (gU.e.mono (by simp))).mono (by have:=fx.e.size;have:=iX.e.size;omega))),ψ (by
       rw[Ss (by rw[<-HE.e.2.1,HE.e.2.2.2.2.2.2];simp;omega),<-HE.e.1]
       exact((wT.e.still (Δ.aK (((ώ w4.heap.size w4).alloc (ϊ _) _).trans (gU.e.mono (by simp))) (ϊ _)) λ_ _ h=>h).more (by have:=gU.e.size;simp at this;omega)))⟩
      case measure=>simp[ϗ];omega
     ·have uY:((nb:Int)==0)=χ:=by simp;omega
      go_wp2_with (first
       | (go_at_call 138
          refine wG.e.mono ?_
          rintro e w4 ⟨qU,qJ,rfl,cO,cV,eB⟩;have pK:Hid (∀w',Γ w4.heap.size w4 w'->ύ prog 96 #[η #[ξ κ b.ag,ζ A1 n1 c1,ζ A2 n2 c2,qU]] w' λe bq=>∃v,e=Ω v/\qQ bq w'.heap.size v (aD (mM b m))/\Γ w'.heap.size w' bq):=ψ λw' hw=>all hw.size (cO.still (Δ.aK hw (ϊ _))) (yK HV.e)
          have pJ:Hid (∀w',Γ w4.heap.size w4 w'->ύ prog 139 #[qJ,ζ A7 n7 c7] w' λe bq=>e=Ω (ξ κ cm)/\w'=bq):=ψ λw' hw=>by
             have st:Δ wq.heap.size wq w':=Δ.aK (eB.trans (hw.mono eB.size)) (ϊ _);rw[HE.e.2.2.2.1];exact zN ((cV.row.still (Δ.aK hw (ϊ _)) λ_ _ h=>h)) ((oa.e.still st λ_ _ h=>h).more eB.size) hw.size
          obtain⟨uu,n41,uM,rfl,-⟩:=cO.aJ.Φ;obtain⟨J2,n42,CG,rfl,kW,-⟩:=cV.row.Φ;have pZ:n42=l:=by rw[<-kW,<-HE.e.2.2.1]
          subst pZ;have wT:=ψ cV.row;have fx:Hid (Γ wq.heap.size wq w4):=ψ eB;clear cO cV eB kW)
       | (go_at_call 139
          refine(pJ.e _ ((ώ _ _).alloc (ϊ _) _)).mono ?_
          rintro e w5 ⟨rfl,rfl⟩)
       | (go_at_call 96
          refine(pK.e _ ((ώ _ _).alloc (ϊ _) _)).mono ?_
          rintro e w6 ⟨sv,rfl,aG,fI⟩;obtain⟨A9,n9,c9,rfl,cY,nG,py,-⟩:=aG.row.Φ;have e9:n9=nb:=by rw[<-cY];exact HE.e.2.2.2.2.1.symm
          subst e9;have gU:=ψ fI;clear fI aG cY))
      go_roundw;case rel=>exact⟨m+1,by omega,by go_num,ψ ((iX.e.trans (fx.e.mono iX.e.size)).trans ((((ώ w4.heap.size w4).alloc (ϊ _) _).trans (gU.e.mono (by simp))).mono (by have:=fx.e.size;have:=iX.e.size;omega))),ψ (by
       rw[GA (by rw[<-HE.e.2.1,HE.e.2.2.2.2.2.2];simp;omega),<-HE.e.2.1]
       exact((oa.e.still (Δ.aK (fx.e.trans ((((ώ w4.heap.size w4).alloc (ϊ _) _).trans (gU.e.mono (by simp))).mono fx.e.size)) (ϊ _)) λ_ _ h=>h).more (by have:=gU.e.size;have:=fx.e.size;simp at *;omega)))⟩
      case measure=>simp[ϗ];omega
    ·by_cases h2:l=n7
     ·have dW:((l:Int)==(n7:Int))=θ:=by simp;omega
      by_cases h3:cm<0
      ·by_cases hE:nb=0
       ·have uY:((nb:Int)==0)=θ:=by simp;omega
        go_wp2_with (first
            | (go_at_call 138
               refine wG.e.mono ?_
               rintro e w4 ⟨qU,qJ,rfl,cO,cV,eB⟩;have pK:Hid (∀w',Γ w4.heap.size w4 w'->ύ prog 96 #[η #[ξ κ b.ag,ζ A1 n1 c1,ζ A2 n2 c2,qU]] w' λe bq=>∃v,e=Ω v/\qQ bq w'.heap.size v (aD (mM b m))/\Γ w'.heap.size w' bq):=ψ λw' hw=>all hw.size (cO.still (Δ.aK hw (ϊ _))) (yK HV.e)
               have pJ:Hid (∀w',Γ w4.heap.size w4 w'->ύ prog 139 #[qJ,ζ A7 n7 c7] w' λe bq=>e=Ω (ξ κ cm)/\w'=bq):=ψ λw' hw=>by
                have st:Δ wq.heap.size wq w':=Δ.aK (eB.trans (hw.mono eB.size)) (ϊ _);rw[HE.e.2.2.2.1];exact zN ((cV.row.still (Δ.aK hw (ϊ _)) λ_ _ h=>h)) ((oa.e.still st λ_ _ h=>h).more eB.size) hw.size
               obtain⟨uu,n41,uM,rfl,-⟩:=cO.aJ.Φ;obtain⟨J2,n42,CG,rfl,kW,-⟩:=cV.row.Φ;have pZ:n42=l:=by rw[<-kW,<-HE.e.2.2.1]
               subst pZ;have wT:=ψ cV.row;have fx:Hid (Γ wq.heap.size wq w4):=ψ eB;clear cO cV eB kW)
            | (go_at_call 139
               have py:=pJ.e (w4.alloc (Obj.cells #[Ϟ ϛ b.ag,Value.slice A1 n1 c1,Value.slice A2 n2 c2,Value.slice uu n41 uM] 117)) ((ώ _ _).alloc (ϊ _) _);rw[h2] at py;refine py.mono ?_
               clear py;rintro e w5 ⟨rfl,rfl⟩)
            | (go_at_call 96
               refine(pK.e _ ((ώ _ _).alloc (ϊ _) _)).mono ?_
               rintro e w6 ⟨sv,rfl,aG,fI⟩;obtain⟨A9,n9,c9,rfl,cY,nG,py,-⟩:=aG.row.Φ;have e9:n9=nb:=by rw[<-cY];exact HE.e.2.2.2.2.1.symm
               subst e9;have gU:=ψ fI;clear fI aG cY))
        go_roundw;case rel=>exact⟨m+1,by omega,by go_num,ψ ((iX.e.trans (fx.e.mono iX.e.size)).trans ((((ώ w4.heap.size w4).alloc (ϊ _) _).trans (gU.e.mono (by simp))).mono (by have:=fx.e.size;have:=iX.e.size;omega))),ψ (by
            rw[Ss (by rw[<-HE.e.2.1,HE.e.2.2.2.2.2.2];simp;omega),<-HE.e.1]
            have Ro:=wT.e;rw[h2] at Ro;exact((Ro.still (Δ.aK (((ώ w4.heap.size w4).alloc (ϊ _) _).trans (gU.e.mono (by simp))) (ϊ _)) λ_ _ h=>h).more (by have:=gU.e.size;simp at this;omega)))⟩
        case measure=>simp[ϗ];omega
       ·have uY:((nb:Int)==0)=χ:=by simp;omega
        go_wp2_with (first
            | (go_at_call 138
               refine wG.e.mono ?_
               rintro e w4 ⟨qU,qJ,rfl,cO,cV,eB⟩;have pK:Hid (∀w',Γ w4.heap.size w4 w'->ύ prog 96 #[η #[ξ κ b.ag,ζ A1 n1 c1,ζ A2 n2 c2,qU]] w' λe bq=>∃v,e=Ω v/\qQ bq w'.heap.size v (aD (mM b m))/\Γ w'.heap.size w' bq):=ψ λw' hw=>all hw.size (cO.still (Δ.aK hw (ϊ _))) (yK HV.e)
               have pJ:Hid (∀w',Γ w4.heap.size w4 w'->ύ prog 139 #[qJ,ζ A7 n7 c7] w' λe bq=>e=Ω (ξ κ cm)/\w'=bq):=ψ λw' hw=>by
                have st:Δ wq.heap.size wq w':=Δ.aK (eB.trans (hw.mono eB.size)) (ϊ _);rw[HE.e.2.2.2.1];exact zN ((cV.row.still (Δ.aK hw (ϊ _)) λ_ _ h=>h)) ((oa.e.still st λ_ _ h=>h).more eB.size) hw.size
               obtain⟨uu,n41,uM,rfl,-⟩:=cO.aJ.Φ;obtain⟨J2,n42,CG,rfl,kW,-⟩:=cV.row.Φ;have pZ:n42=l:=by rw[<-kW,<-HE.e.2.2.1]
               subst pZ;have wT:=ψ cV.row;have fx:Hid (Γ wq.heap.size wq w4):=ψ eB;clear cO cV eB kW)
            | (go_at_call 139
               have py:=pJ.e (w4.alloc (Obj.cells #[Ϟ ϛ b.ag,Value.slice A1 n1 c1,Value.slice A2 n2 c2,Value.slice uu n41 uM] 117)) ((ώ _ _).alloc (ϊ _) _);rw[h2] at py;refine py.mono ?_
               clear py;rintro e w5 ⟨rfl,rfl⟩)
            | (go_at_call 96
               refine(pK.e _ ((ώ _ _).alloc (ϊ _) _)).mono ?_
               rintro e w6 ⟨sv,rfl,aG,fI⟩;obtain⟨A9,n9,c9,rfl,cY,nG,py,-⟩:=aG.row.Φ;have e9:n9=nb:=by rw[<-cY];exact HE.e.2.2.2.2.1.symm
               subst e9;have gU:=ψ fI;clear fI aG cY))
        go_roundw;case rel=>exact⟨m+1,by omega,by go_num,ψ ((iX.e.trans (fx.e.mono iX.e.size)).trans ((((ώ w4.heap.size w4).alloc (ϊ _) _).trans (gU.e.mono (by simp))).mono (by have:=fx.e.size;have:=iX.e.size;omega))),ψ (by
            rw[GA (by rw[<-HE.e.2.1,HE.e.2.2.2.2.2.2];simp;omega),<-HE.e.2.1]
            exact((oa.e.still (Δ.aK (fx.e.trans ((((ώ w4.heap.size w4).alloc (ϊ _) _).trans (gU.e.mono (by simp))).mono fx.e.size)) (ϊ _)) λ_ _ h=>h).more (by have:=gU.e.size;have:=fx.e.size;simp at *;omega)))⟩
        case measure=>simp[ϗ];omega
      ·go_wp2_with (first
        | (go_at_call 138
           refine wG.e.mono ?_
           rintro e w4 ⟨qU,qJ,rfl,cO,cV,eB⟩;have pK:Hid (∀w',Γ w4.heap.size w4 w'->ύ prog 96 #[η #[ξ κ b.ag,ζ A1 n1 c1,ζ A2 n2 c2,qU]] w' λe bq=>∃v,e=Ω v/\qQ bq w'.heap.size v (aD (mM b m))/\Γ w'.heap.size w' bq):=ψ λw' hw=>all hw.size (cO.still (Δ.aK hw (ϊ _))) (yK HV.e)
           have pJ:Hid (∀w',Γ w4.heap.size w4 w'->ύ prog 139 #[qJ,ζ A7 n7 c7] w' λe bq=>e=Ω (ξ κ cm)/\w'=bq):=ψ λw' hw=>by
             have st:Δ wq.heap.size wq w':=Δ.aK (eB.trans (hw.mono eB.size)) (ϊ _);rw[HE.e.2.2.2.1];exact zN ((cV.row.still (Δ.aK hw (ϊ _)) λ_ _ h=>h)) ((oa.e.still st λ_ _ h=>h).more eB.size) hw.size
           obtain⟨uu,n41,uM,rfl,-⟩:=cO.aJ.Φ;obtain⟨J2,n42,CG,rfl,kW,-⟩:=cV.row.Φ;have pZ:n42=l:=by rw[<-kW,<-HE.e.2.2.1]
           subst pZ;have wT:=ψ cV.row;have fx:Hid (Γ wq.heap.size wq w4):=ψ eB;clear cO cV eB kW)
        | (go_at_call 139
           have py:=pJ.e (w4.alloc (Obj.cells #[Ϟ ϛ b.ag,Value.slice A1 n1 c1,Value.slice A2 n2 c2,Value.slice uu n41 uM] 117)) ((ώ _ _).alloc (ϊ _) _);rw[h2] at py;refine py.mono ?_
           clear py;rintro e w5 ⟨rfl,rfl⟩)
        | (go_at_call 96
           refine(pK.e _ ((ώ _ _).alloc (ϊ _) _)).mono ?_
           rintro e w6 ⟨sv,rfl,aG,fI⟩;obtain⟨A9,n9,c9,rfl,cY,nG,py,-⟩:=aG.row.Φ;have e9:n9=nb:=by rw[<-cY];exact HE.e.2.2.2.2.1.symm
           subst e9;have gU:=ψ fI;clear fI aG cY))
       go_roundw;case rel=>exact⟨m+1,by omega,by go_num,ψ ((iX.e.trans (fx.e.mono iX.e.size)).trans (((ώ w4.heap.size w4).alloc (ϊ _) _).mono (by have:=fx.e.size;have:=iX.e.size;omega))),ψ (by
        rw[GA (by rw[<-HE.e.2.1,HE.e.2.2.2.2.2.2];simp;omega),<-HE.e.2.1]
        exact((oa.e.still (Δ.aK (fx.e.trans (((ώ w4.heap.size w4).alloc (ϊ _) _).mono fx.e.size)) (ϊ _)) λ_ _ h=>h).more (by have:=fx.e.size;simp;omega)))⟩
       case measure=>simp[ϗ];omega
     ·have dW:((l:Int)==(n7:Int))=χ:=by simp;omega
      go_wp2_with (first
       | (go_at_call 138
          refine wG.e.mono ?_
          rintro e w4 ⟨qU,qJ,rfl,cO,cV,eB⟩;have pK:Hid (∀w',Γ w4.heap.size w4 w'->ύ prog 96 #[η #[ξ κ b.ag,ζ A1 n1 c1,ζ A2 n2 c2,qU]] w' λe bq=>∃v,e=Ω v/\qQ bq w'.heap.size v (aD (mM b m))/\Γ w'.heap.size w' bq):=ψ λw' hw=>all hw.size (cO.still (Δ.aK hw (ϊ _))) (yK HV.e)
          have pJ:Hid (∀w',Γ w4.heap.size w4 w'->ύ prog 139 #[qJ,ζ A7 n7 c7] w' λe bq=>e=Ω (ξ κ cm)/\w'=bq):=ψ λw' hw=>by
             have st:Δ wq.heap.size wq w':=Δ.aK (eB.trans (hw.mono eB.size)) (ϊ _);rw[HE.e.2.2.2.1];exact zN ((cV.row.still (Δ.aK hw (ϊ _)) λ_ _ h=>h)) ((oa.e.still st λ_ _ h=>h).more eB.size) hw.size
          obtain⟨uu,n41,uM,rfl,-⟩:=cO.aJ.Φ;obtain⟨J2,n42,CG,rfl,kW,-⟩:=cV.row.Φ;have pZ:n42=l:=by rw[<-kW,<-HE.e.2.2.1]
          subst pZ;have wT:=ψ cV.row;have fx:Hid (Γ wq.heap.size wq w4):=ψ eB;clear cO cV eB kW)
       | (go_at_call 139
          refine(pJ.e _ ((ώ _ _).alloc (ϊ _) _)).mono ?_
          rintro e w5 ⟨rfl,rfl⟩)
       | (go_at_call 96
          refine(pK.e _ ((ώ _ _).alloc (ϊ _) _)).mono ?_
          rintro e w6 ⟨sv,rfl,aG,fI⟩;obtain⟨A9,n9,c9,rfl,cY,nG,py,-⟩:=aG.row.Φ;have e9:n9=nb:=by rw[<-cY];exact HE.e.2.2.2.2.1.symm
          subst e9;have gU:=ψ fI;clear fI aG cY))
      go_roundw;case rel=>exact⟨m+1,by omega,by go_num,ψ ((iX.e.trans (fx.e.mono iX.e.size)).trans (((ώ w4.heap.size w4).alloc (ϊ _) _).mono (by have:=fx.e.size;have:=iX.e.size;omega))),ψ (by
       rw[GA (by rw[<-HE.e.2.1,HE.e.2.2.2.2.2.2];simp;omega),<-HE.e.2.1]
       exact((oa.e.still (Δ.aK (fx.e.trans (((ώ w4.heap.size w4).alloc (ϊ _) _).mono fx.e.size)) (ϊ _)) λ_ _ h=>h).more (by have:=fx.e.size;simp;omega)))⟩
      case measure=>simp[ϗ];omega
   ·obtain rfl:m=mp+1:=by omega
    have fY:zM b=ju b (mp+1):=by unfold zM;rw[if_pos Ot.e.symm,E3.e,Q7.e]
    have uy:=ψ fY;clear fY;have jS:Γ w.heap.size w wq:=(aY.e.trans ((((ώ _ _).alloc (ϊ _) _).trans (dV.e.mono (by simp))).mono (by omega))).trans (iX.e.mono (by have:=wS.e.1.lt;omega))
    have wO:=ψ jS;clear jS;go_wp2
    go_ret2
    exact⟨_,rfl,by rw[uy.e];exact oa.e,wO.e⟩
def uS:List Cut:=[⟨1,0⟩,⟨0,0⟩,⟨0,6⟩]
def te:bR:=⟨EA,8,[⟨3,3⟩]⟩
def xh:dF aW=0:=by decide+kernel
def PH:cj aW 0=0:=by decide+kernel
def abZ:GB te=[⟨0,2⟩,⟨4,7⟩]:=by decide+kernel
def ab7:Im te 0=4:=by decide+kernel
def ab8:Im te 1=8:=by decide+kernel
def acd:scan (λ_ s=>s) [] [qL aW [4,3,3],ez aW dQ]=0:=by decide+kernel
def ace:scan (λ_ s=>s) [] [qL aW [4,3,3],ez aW uS]=0:=by decide+kernel
def ab4:fp aW (fK [4,3,3]) dQ=θ:=by decide+kernel
def ab5:fp aW (fK [4,3,3]) uS=χ:=by decide+kernel
def abX:Gt aW=2:=by decide+kernel
def ack:oK (aD aW)=⟨10,10⟩:=by decide+kernel
def aca:cj aW (Bh aW 0)=0:=by decide+kernel
def ab0:(aD aW).map (·.at 0)=[4,5]:=by decide+kernel
def aeR:cj aW (ez aW dQ)=0:=by decide+kernel
def S3:cj aW (ez aW uS)=0:=by decide+kernel
def ab1:za (iI (λL=>fp aW L dQ) (aD aW)) (aD aW).length=1:=by decide+kernel
def ab2:za (iI (λL=>fp aW L uS) (aD aW)) (aD aW).length=0:=by decide+kernel
def ach:FJ aW (aD aW) dQ=θ:=by decide+kernel
def aci:FJ aW (aD aW) uS=χ:=by decide+kernel
def acg:BB aW dQ=[1,1]:=by decide+kernel
def Fy{xs ys:List Int}(hp:xs.Perm ys)(hs:ys.Pairwise (λx y=>decide (x<=y)=θ)):ga xs=ys:=by
 have h1:(ga xs).Perm ys:=(List.mergeSort_perm _ _).trans hp;refine h1.eq_of_pairwise (le:=λx y=>decide (x<=y)=θ) (λa c _ _ h k=>by simp only[decide_eq_true_eq] at h k;omega) ?_ hs
 exact List.pairwise_mergeSort (λa b c h k=>by simp only[decide_eq_true_eq] at *;omega) (λa b=>by simp;omega) _
def adY(mI:List Cut->Int):fA aW mI=φ (dQ,mI dQ):=by
 have s0:search aW (cz (aD aW)) (jf 0) aW.pieces.length []=ν:=by decide+kernel
 have s1:search aW (cz (aD aW)) (jf 1) aW.pieces.length []=ν:=by decide+kernel
 have s2:search aW (cz (aD aW)) (jf 2) aW.pieces.length []=ν:=by decide+kernel
 have s3:search aW (cz (aD aW)) (jf 3) aW.pieces.length []=φ dQ:=by decide+kernel
 unfold fA;rw[if_pos PH];show iG aW (cz (aD aW)) mI 4=_;rw[tn,tn,tn,tn];simp only[iG,List.range_zero,List.foldl_nil,sY,s0,s1,s2,s3,nw]
def adD:ga (dQ.map (·.bp))=[0,0,1]:=Fy (by decide) (by decide)
def ab3:fA aW j6=φ (dQ,2):=by
 rw[adY];unfold j6 jG;rw[adD];rfl
def acf:fA aW (qM aW)=φ (dQ,14):=by
 rw[adY];unfold qM jG;rw[adD]
 have:lY aW (Lib.compact [0,0,1])=14:=by decide+kernel
 rw[this]
def abW:Cu aW=(0,1):=by decide+kernel
def O1:ByteArray:={data:=#[97,115,104]}
def gh:bR:=⟨O1,13,[]⟩
def abU:dF (fj aW gh)=0:=by decide+kernel
def mr:List Cut:=[⟨2,0⟩,⟨2,6⟩,⟨2,10⟩]
def abV:fA (fj aW gh) j6=φ (mr,1):=by
 have s0:search (fj aW gh) (cz (aD (fj aW gh))) (jf 0) 3 []=ν:=by decide+kernel
 have s1:search (fj aW gh) (cz (aD (fj aW gh))) (jf 1) 3 []=ν:=by decide+kernel
 have s2:search (fj aW gh) (cz (aD (fj aW gh))) (jf 2) 3 []=ν:=by decide+kernel
 have s3:search (fj aW gh) (cz (aD (fj aW gh))) (jf 3) 3 []=φ dQ:=by decide+kernel
 have s4:search (fj aW gh) (cz (aD (fj aW gh))) (jf 4) 3 []=φ mr:=by decide+kernel
 have s5:search (fj aW gh) (cz (aD (fj aW gh))) (jf 5) 3 []=φ [⟨2,0⟩,⟨0,0⟩,⟨0,4⟩]:=by decide+kernel
 have s6:search (fj aW gh) (cz (aD (fj aW gh))) (jf 6) 3 []=φ [⟨1,0⟩,⟨2,0⟩,⟨2,4⟩]:=by decide+kernel
 have s7:search (fj aW gh) (cz (aD (fj aW gh))) (jf 7) 3 []=φ dQ:=by decide+kernel
 have m3:j6 dQ=2:=by unfold j6 jG;rw[adD];rfl
 have m4:j6 mr=1:=by unfold j6 jG;rw[Fy (ys:=[2,2,2]) (by decide) (by decide)];rfl
 have m5:j6 [⟨2,0⟩,⟨0,0⟩,⟨0,4⟩]=2:=by unfold j6 jG;rw[Fy (ys:=[0,0,2]) (by decide) (by decide)];rfl
 have m6:j6 [⟨1,0⟩,⟨2,0⟩,⟨2,4⟩]=2:=by unfold j6 jG;rw[Fy (ys:=[1,2,2]) (by decide) (by decide)];rfl
 have ho:cj (fj aW gh) 0=0:=by decide+kernel
 unfold fA;rw[if_pos ho];show iG (fj aW gh) (cz (aD (fj aW gh))) j6 8=_;have hl:(fj aW gh).pieces.length=3:=rfl;rw[tn,tn,tn,tn,tn,tn,tn,tn];simp only[iG,List.range_zero,List.foldl_nil,sY,hl,s0,s1,s2,s3,s4,s5,s6,s7,nw,m3,m4,m5,m6]
 decide
def ab6:Il aW 0=[4,5]:=by
 unfold Il;rw[ab0,Fy (ys:=[4,5]) (by decide) (by decide)];rfl
def zS:ao:={aW with aJ:=aW.aJ++ [⟨[0],⟨4,4⟩⟩,⟨[2],⟨2,2⟩⟩]}
def acj:dF zS=0:=by decide+kernel
end Go.Tw
namespace Go.Tw
variable [Go.Tw.aR]
open Go Go.Proofs Go.RowKit
end Go.Tw
namespace Go.Tw
variable [Go.Tw.aR]
open Go Go.Proofs Go.RowKit
end Go.Tw
namespace Go.Tw
variable [Go.Tw.aR]
open Go Go.Proofs Go.RowKit
end Go.Tw
namespace Go.Tw
variable [Go.Tw.aR]
open Go Go.Proofs Go.RowKit
end Go.Tw
namespace Go.Tw
variable [Go.Tw.aR]
open Go Go.Proofs Go.RowKit
end Go.Tw
namespace Go.Tw
variable [Go.Tw.aR]
open Go Go.Proofs Go.RowKit
end Go.Tw
namespace Go.Tw
variable [Go.Tw.aR]
open Go Go.Proofs Go.RowKit
def tb(c:Int):Bool:=decide (48<=c) && decide (c<=57)
def digit(c:Int)(w:Ψ):ύ prog 207 #[.int .u8 c] w λe w'=>e=Ω (.bool (tb c))/\w=w':=by
 go_enter func207,Tryz.ntmps207;go_wp2;all_goals go_ret
 all_goals (refine⟨b9 ?_,rfl⟩;unfold tb;first| (simp;done) | (simp[*];done) | (simp;omega))
def IY{s:ByteArray}(hs:s.size<=ϕ)(w:Ψ):
 ύ prog 186 #[.string s] w λe w'=>e=Ω (.bool (mK s.data.toList))/\w=w':=by
 unfold ϕ at hs;by_cases h1:s.size<1
 ·go_enter func186,Tryz.ntmps186
  go_wp2;go_ret;refine⟨b9 ?_,rfl⟩
  have e:bX s.data.toList.length 1 10=χ:=by unfold bX;simp;omega
  unfold mK;rw[e,Bool.and_false]
 by_cases h2:10<s.size
 ·go_enter func186,Tryz.ntmps186
  go_wp2;go_ret;refine⟨b9 ?_,rfl⟩
  have e:bX s.data.toList.length 1 10=χ:=by unfold bX;simp;omega
  unfold mK;rw[e,Bool.and_false]
 have hlen:bX s.data.toList.length 1 10=θ:=by unfold bX;simp;omega
 have UF:bX (s.size:Int) 1 10=θ:=by simpa using hlen
 have HL:=ψ UF;clear UF;have h0:0<s.size:=by omega
 cases hd:tb s[0].toNat with
 |true=>
  go_enter func186,Tryz.ntmps186;go_wp2_with (first
   | (go_at_call 207;refine(digit _ _).mono ?_;rintro e w' ⟨rfl,rfl⟩;try rw[hd]))
  go_ret;refine⟨b9 (Eq.symm (O2 (CF h0) ?_)),rfl⟩
  simp only[tb,Aa3,decide_eq_true_eq] at hd;simp only[jr,Aib,Aic,decide_eq_false_iff_not];omega
 |false=>
  go_enter func186,Tryz.ntmps186;go_wp2_with (first
   | (go_at_call 207;refine(digit _ _).mono ?_;rintro e w' ⟨rfl,rfl⟩;try rw[hd]))
  go_loop [3] (λk=>∃n:Nat,n<=s.size/\k=ξ κ n/\∀j c,j<n->s.data.toList[j]?=φ c->jr j c.toNat=θ) (λk=>s.size - (ϗ k).toNat)
  case atStart=>exact⟨0,ϟ _,rfl,λj _ hj=>by omega⟩
  case round=>
   obtain⟨n,hn,rfl,bt⟩:=hrel;have HA:=ψ bt;clear bt;by_cases al:n<s.size
   ·have bad:jr n s[n].toNat=χ->Ending.returned (.bool χ)=Ω (.bool (mK s.data.toList)):=λh=>b9 (Eq.symm (O2 (CF al) h))
    have fG:=ψ bad;have hz:n=0->tb s[n].toNat=χ:=λe=>by subst e;exact hd
    have HZ:=ψ hz;clear bad hz;have C8:jr n s[n].toNat=θ->∀j c,j<n+1->s.data.toList[j]?=φ c->jr j c.toNat=θ:=λh j c hj o8=>by
     rcases Agv.1 hj with h'|rfl
     ·exact HA.e j c h' o8
     ·have e:c=s[j]:=by simpa using((CF al).symm.trans o8).symm
      subst e;exact h
    have QV:=ψ C8;clear C8;cases ve:tb s[n].toNat with
    |true=>
     have hc:jr n s[n].toNat=θ:=by
      have jX:n≠0:=λe=>by have:=HZ.e e;rw[ve] at this;cases this
      simp only[tb,Aa3,decide_eq_true_eq] at ve;simp only[jr,Bool.or_eq_true,Aa3,decide_eq_true_eq];omega
     have HC:=ψ hc;clear hc;go_wp2_with (first
      | (go_at_call 207;refine(digit _ _).mono ?_;rintro e w' ⟨rfl,rfl⟩;try rw[ve]))
     go_round
     case rel=>exact⟨n+1,by omega,by go_num,QV.e HC.e⟩
     case measure=>simp[ϗ];omega
    |false=>
     have nH:¬ (48<=s[n].toNat/\s[n].toNat<=57):=by
      intro h;have:tb s[n].toNat=θ:=by simp only[tb,Aa3,decide_eq_true_eq];omega
      rw[this] at ve;cases ve
     by_cases ha:s[n].toNat<97
     ·have hc:jr n s[n].toNat=χ:=by
       simp only[jr,Aib,Aic,decide_eq_false_iff_not];omega
      have R:=ψ (fG.e hc);clear hc;go_wp2_with (first
       | (go_at_call 207;refine(digit _ _).mono ?_;rintro e w' ⟨rfl,rfl⟩;try rw[ve]))
      go_ret;exact⟨R.e,rfl⟩
     by_cases hb:122<s[n].toNat
     ·have hc:jr n s[n].toNat=χ:=by
       simp only[jr,Aib,Aic,decide_eq_false_iff_not];omega
      have R:=ψ (fG.e hc);clear hc;go_wp2_with (first
       | (go_at_call 207;refine(digit _ _).mono ?_;rintro e w' ⟨rfl,rfl⟩;try rw[ve]))
      go_ret;exact⟨R.e,rfl⟩
     have hc:jr n s[n].toNat=θ:=by
      simp only[jr,Bool.or_eq_true,Aa3,decide_eq_true_eq];omega
     have HC:=ψ hc;clear hc;go_wp2_with (first
      | (go_at_call 207;refine(digit _ _).mono ?_;rintro e w' ⟨rfl,rfl⟩;try rw[ve]))
     go_round
     case rel=>exact⟨n+1,by omega,by go_num,QV.e HC.e⟩
     case measure=>simp[ϗ];omega
   ·obtain rfl:n=s.size:=by omega
    go_wp2;go_ret;refine⟨b9 ?_,rfl⟩
    simp[mK,HL.e,LR s.data.toList 0 (λk c hk=>by
     have:=HA.e k c (by have:=(ϸ.1 hk).1;simpa using this) hk;simpa using this)]
def rising{np:Nat}{l:List Int}{v:υ}{w:Ψ}{B:Nat}(hv:Row w B 1 cH v l)(hB:B<=w.heap.size)(kH:np<=ϕ):
 ύ prog 57 #[v,ξ κ np] w λe w'=>e=Ω (ξ κ (eE np ν l))/\Γ w.heap.size w w':=by
 obtain⟨A,n,c,rfl,hl,dX,hc,hr⟩:=hv.Φ;unfold ϕ at hc kH;have KR:=ψ hr;have KL:=ψ hl;clear hv hr hl;go_enter func57,Tryz.ntmps57;go_wp2;go_loopw [4,5] (λr k wr=>∃j:Nat,j<=n/\k=ξ κ j/\r=ξ κ 0/\eE np ν l=eE np (l8 l j) (l.drop j)/\Γ w.heap.size w wr) (λ_ k _=>n - (ϗ k).toNat)
 case atStart=>exact⟨0,ϟ _,rfl,rfl,rfl,ώ _ _⟩
 case round=>
  obtain⟨j,hj,rfl,rfl,vx,hb⟩:=hrel;have RE:=ψ vx;have HB:=ψ hb;clear vx;by_cases nE:j<n
  ·obtain⟨kd,y,cs,rfl,qt,hy,rfl,-,au⟩:=KR.e j nE
   have st:Δ B w wr:=Δ.aK hb hB;have ST:=ψ st;have q0:kd.block<wr.heap.size:=by have:=hb.size;omega
   have g1:=cC au st qt rfl;rw[Agx] at g1;have HY:=ψ hy;clear hy au st hb;cases dL:bX y 0 (np - 1) with
   |false=>
    go_wp2_with (first
     | (go_at_call 62;refine(lg _ _ _ _).mono ?_;rintro e w' ⟨rfl,rfl⟩))
    go_ret;refine⟨aX ?_,HB.e⟩
    rw[RE.e,drop_cons HY.e];cases l8 l j<;>simp[eE,dL]
   |true=>
    rcases Nat.eq_zero_or_pos j with uW|uW
    ·subst uW
     rw[show kd.add 0=kd from rfl] at g1
     go_wp2_with (first
      | (go_at_call 62;refine(lg _ _ _ _).mono ?_;rintro e w' ⟨rfl,rfl⟩))
     go_quiet (fail);go_wp2;have hrel:eE np ν l=eE np (l8 l 1) (l.drop 1):=by rw[RE.e,drop_cons HY.e];simp[l8,eE,dL,HY.e]
     go_roundw;case rel=>exact⟨1,nE,by go_num,rfl,hrel,by first|exact HB.e|exact jq HB.e _⟩
     case measure=>simp[ϗ];omega
    ·obtain⟨q,rfl⟩:∃q,j=q+1:=⟨j - 1,by omega⟩
     obtain⟨eT,z,SF,CQ,Uv,hz,rfl,-,vd⟩:=KR.e q (by omega)
     cases CQ;rw[show kd.add (q+1)=⟨kd.block,kd.off+(q+1),ν⟩ from rfl] at g1
     have g3:=cC vd ST.e qt rfl;rw[Agx] at g3;have HZ:=ψ hz;clear hz vd;have gx:decide ((0:Int)<((q+1:Nat):Int))=θ:=by simp<;>omega
     by_cases qI:y<=z
     ·have hd:decide (y<=z)=θ:=by simpa using qI
      go_wp2_with (first
          | (go_at_call 62;refine(lg _ _ _ _).mono ?_;rintro e w' ⟨rfl,rfl⟩))
      go_quiet (fail);go_wp2;go_ret;refine⟨aX ?_,by first|exact HB.e|exact jq HB.e _⟩
      rw[RE.e,drop_cons HY.e];simp[l8,HZ.e,eE,dL,qI]
     ·have hd:decide (y<=z)=χ:=by simpa using qI
      have hrel:eE np ν l=eE np (l8 l (q+2)) (l.drop (q+2)):=by rw[RE.e,drop_cons HY.e];simp[l8,HZ.e,HY.e,eE,dL];omega
      have HR:=ψ hrel;clear hrel;go_wp2_with (first
          | (go_at_call 62;refine(lg _ _ _ _).mono ?_;rintro e w' ⟨rfl,rfl⟩))
      go_quiet (fail);go_wp2;go_roundw;case rel=>exact⟨q+2,by omega,by go_num,rfl,HR.e,by first|exact HB.e|exact jq HB.e _⟩
      case measure=>simp[ϗ];omega
  ·obtain rfl:j=n:=by omega
   go_wp2;go_ret;refine⟨aX ?_,HB.e⟩
   rw[RE.e,Ain (by rw[KL.e];exact ϊ _)]
   cases l8 l j<;>rfl
def Fz{a b lo hi m:Int}:th a b lo hi m=(mV a b lo hi && decide (b - a<m)):=by
 unfold th mV;cases decide (lo<=a)<;>cases decide (a<=b)<;>cases decide (b<=hi)<;>rfl
def ajZ{pv:υ}{w:Ψ}{B:Nat}{l:List Piece}(hv:Row w B 4 Piece.R pv l)(hB:B<=w.heap.size):
 ύ prog 145 #[pv] w λe w'=>e=Ω (ξ κ (iw l))/\Γ w.heap.size w w':=by
 obtain⟨A,m,c,rfl,hl,dX,hc,hr⟩:=hv.Φ;have dC:=ψ hl;unfold ϕ at hc;have H2:=ψ hr;clear hl hr hv;cases hlen:bX m 1 3 with
 |false=>
  go_enter func145,Tryz.ntmps145;go_wp2_with (first
   | (go_at_call 62;refine(lg _ _ _ _).mono ?_;rintro e w' ⟨rfl,rfl⟩))
  go_ret;exact⟨aX (by unfold iw;rw[dC.e,hlen];rfl),ώ _ _⟩
 |true=>
  have RL:m<=3:=by have:=nJ hlen;omega
  go_enter func145,Tryz.ntmps145;go_wp2_with (first
   | (go_at_call 62;refine(lg _ _ _ _).mono ?_;rintro e w' ⟨rfl,rfl⟩))
  go_loopw [2,3,4,5] (λr k u v wr=>∃i:Nat,i<=m/\k=ξ κ i/\(∀(j:Nat) (x:Piece),j<i->l[j]?=φ x->kJ (l.take j) x=0)/\Γ w.heap.size w wr) (λ_ k _ _ _=>m - (ϗ k).toNat)
  case atStart=>exact⟨0,ϟ _,rfl,λj _ hj=>by omega,ώ _ _⟩
  case round=>
   obtain⟨i,hi,rfl,bt,hb⟩:=hrel;have HH:=ψ (ϑ bt hb);have tL:w.heap.size<=wr.heap.size:=hb.size;by_cases al:i<m
   ·obtain⟨ad,x,cs,rfl,aC,hx,⟨rfl,dH⟩,-,au⟩:=H2.e i al
    have st:Δ B w wr:=Δ.aK hb hB;have ST:=ψ st;have h0:=cC au st aC rfl;have h1:=bK au st aC 0 rfl;have h2:=bK au st aC 1 rfl;have h3:=bK au st aC 2 rfl;have qb:(ad.add (i * 4)).block<wr.heap.size:=by rw[cq];omega
    have HX:=ψ hx;have uy:=ψ au;clear bt hb hx au st;have bad:∀s:Int,kJ (l.take i) x=s->s≠0->s=iw l:=λs hs h0=>by
     unfold iw;rw[dC.e,hlen,if_pos rfl,sf HX.e HH.e.1 (by rw[hs];exact h0),hs]
    have fG:=ψ bad;clear bad;cases ea:mK x.name.data.toList with
    |false=>
     go_wp2_with (first
      | (go_at_call 186;refine(IY dH _).mono ?_;rintro e w1 ⟨rfl,rfl⟩;try rw[ea]))
     go_ret;exact⟨aX (fG.e 4 (by unfold kJ;rw[ea];rfl) (by omega)),HH.e.2⟩
    |true=>
     go_wp2_with (first
      | (go_at_call 186;refine(IY dH _).mono ?_;rintro e w1 ⟨rfl,rfl⟩;try rw[ea]))
     clear h0;have HN:=ψ dH;go_loopw [4] (λk wq=>∃j:Nat,j<=i/\k=ξ κ j/\(∀(q:Nat) (y:Piece),q<j->l[q]?=φ y->jF y.name x.name=χ)/\Γ w.heap.size w wq) (λk _=>i - (ϗ k).toNat)
     case atStart=>exact⟨0,ϟ _,rfl,λq _ hq=>by omega,HH.e.2⟩
     case round=>
      obtain⟨j,hj,rfl,bj,Hc⟩:=hrel;have HO:=ψ (ϑ bj Hc);have D2:w.heap.size<=wr.heap.size:=Hc.size;have BC:Δ B w wr:=Δ.aK Hc hB;have Ze:=ψ BC;have h0:=cC uy.e BC aC rfl;have h1:=bK uy.e BC aC 0 rfl;have h2:=bK uy.e BC aC 1 rfl;have h3:=bK uy.e BC aC 2 rfl;have qb':(ad.add (i * 4)).block<wr.heap.size:=by rw[cq];omega
      clear bj Hc BC;by_cases pa:j<i
      ·obtain⟨Cs,y,bh,e',adT,hy,⟨rfl,NK⟩,-,Ak⟩:=H2.e j (by omega)
       cases e';have g0:=cC Ak Ze.e aC rfl;have qc:(ad.add (j * 4)).block<wr.heap.size:=by rw[cq];omega
       have HY:=ψ hy;clear hy Ak NK;cases hs:jF y.name x.name with
       |true=>
        have cD:(y.name.toList==x.name.toList)=θ:=hs;go_wp2;go_quiet (fail);go_wp2;go_ret;refine⟨aX (fG.e 5 ?_ (by omega)),by first|exact HO.e.2|exact jq HO.e.2 _⟩
        unfold kJ;rw[ea,if_pos rfl,if_pos];rw[Aio];exact⟨y,Ϭ (i:=j) (by rw[List.getElem?_take,if_pos pa];exact HY.e),hs⟩
       |false=>
        have cD:(y.name.toList==x.name.toList)=χ:=hs;go_wp2;go_quiet (fail);go_wp2;go_roundw;case rel=>exact⟨j+1,by omega,by go_num,λq z hq hz=>by
            rcases Agv.1 hq with h|rfl
            ·exact HO.e.1 q z h hz
            ·rw[HY.e] at hz;cases hz;exact hs,by first|exact HO.e.2|exact jq HO.e.2 _⟩
        case measure=>simp[ϗ];omega
      ·obtain rfl:j=i:=by omega
       have Dl:(l.take j).any (λq=>jF q.name x.name)=χ:=by
           rw[Aip];intro z hz;obtain⟨q,hq⟩:=Aht hz
           rw[List.getElem?_take] at hq
           split at hq
           ·rename_i yd;simpa using HO.e.1 q z yd hq
           ·cases hq
       have uw:=ψ Dl;clear Dl;cases hw:mV x.len.lo x.len.hi 1 40 with
       |false=>
        go_wp2_with (first
            | (go_at_call 49;refine(within _).mono ?_;rintro e w2 ⟨rfl,ak⟩;try rw[hw]))
        go_ret;refine⟨aX (fG.e 1 (by unfold kJ;rw[ea,uw.e,Fz,hw];rfl) (by omega)),cU HO.e.2 ak D2⟩
       |true=>
        have AN:1<=x.len.lo/\x.len.lo<=x.len.hi/\x.len.hi<=40:=by
            simp only[mV,Aa3,decide_eq_true_eq] at hw;exact hw
        obtain⟨b1,b2,b3⟩:=AN;by_cases Ao:3<=x.len.hi - x.len.lo
        ·go_wp2_with (first
             | (go_at_call 49;refine(within _).mono ?_;rintro e w2 ⟨rfl,ak⟩;obtain⟨ef,nD⟩:=fy ak rfl;have ba:wr.heap.size<w2.heap.size:=oE ak;have cy:=ψ (cU HO.e.2 ak D2);clear ak;try rw[hw]))
         go_ret;refine⟨aX (fG.e 1 (by unfold kJ;rw[ea,uw.e,Fz,hw];simp;omega) (by omega)),cy.e⟩
        ·have rR:th x.len.lo x.len.hi 1 40 3=θ:=by rw[Fz,hw];simp;omega
         have Re:=ψ rR;clear rR;cases yb:bX x.bears 0 2 with
         |false=>
          go_wp2_with (first
             | (go_at_call 49;refine(within _).mono ?_;rintro e w2 ⟨rfl,ak⟩;obtain⟨ef,nD⟩:=fy ak rfl;have ba:wr.heap.size<w2.heap.size:=oE ak;have cy:=ψ (cU HO.e.2 ak D2);clear ak;try rw[hw])
             | (go_at_call 62;refine(lg _ _ _ _).mono ?_;rintro e w' ⟨rfl,rfl⟩;try rw[yb]))
          go_ret;refine⟨aX (fG.e 1 (by unfold kJ;rw[ea,uw.e,Re.e,yb];rfl) (by omega)),cy.e⟩
         |true=>
          go_wp2_with (first
             | (go_at_call 49;refine(within _).mono ?_;rintro e w2 ⟨rfl,ak⟩;obtain⟨ef,nD⟩:=fy ak rfl;have ba:wr.heap.size<w2.heap.size:=oE ak;have cy:=ψ (cU HO.e.2 ak D2);clear ak;try rw[hw])
             | (go_at_call 62;refine(lg _ _ _ _).mono ?_;rintro e w' ⟨rfl,rfl⟩;try rw[yb]))
          go_roundw;case rel=>exact⟨j+1,by omega,by go_num,λq y hq hy=>by
             rcases Agv.1 hq with h|rfl
             ·exact HH.e.1 q y h hy
             ·rw[HX.e] at hy;cases hy;unfold kJ;rw[ea,uw.e,Re.e,yb];rfl,cy.e⟩
          case measure=>simp[ϗ];omega
   ·obtain rfl:i=m:=by omega
    go_wp2;go_ret;refine⟨aX ?_,HH.e.2⟩
    unfold iw;rw[dC.e,hlen,if_pos rfl,se (λj x hj=>HH.e.1 j x (by have:=(ϸ.1 hj).1;have:=dC.e;omega) hj)]
def tQ(l:List Span)(i:Nat):Int:=if i=0 then -1 else match l[i - 1]? with
 |some k=>k.hi
 |none=>0
def Ij{aH last:Int}{k:Span}{l:List Span}:lX aH last (k::l)=if th k.lo k.hi 0 (aH - 1) aH then if k.lo<=last then 7 else lX aH k.hi l else 1:=rfl
def Ik{a b aH:Int}:th a b 0 (aH - 1) aH=mV a b 0 (aH - 1):=by
 rw[Fz];by_cases h:mV a b 0 (aH - 1)=θ
 ·rw[h]
  simp only[mV,Aa3,decide_eq_true_eq] at h;simp;omega
 ·simp only[Bool.not_eq_true] at h;rw[h];rfl
def ajX{x:bR}{kv v:υ}{w:Ψ}{B:Nat}{l:List bR}(dH:x.name.size<=ϕ)(hk:Row w B 2 Span.R kv x.cM)(hv:Row w B 3 (bR.R w B) v l)(hB:B<=w.heap.size):
 ύ prog 146 #[v,η #[.string x.name,ξ κ x.aH,kv]] w λe w'=>e=Ω (ξ κ (gJ l x))/\Γ w.heap.size w w':=by
 obtain⟨A0,m0,c0,rfl,Uz,aoC,ic,U8⟩:=hv.Φ;obtain⟨A,m,c,rfl,hl,dX,hc,hr⟩:=hk.Φ;have dC:=ψ hl;have YK:=ψ Uz;have H0:=ψ U8;unfold ϕ at hc ic;have H2:=ψ hr;clear hl hr hk hv Uz U8;have kb:Bk (w.alloc (Ξ #[.string x.name,ξ κ x.aH,ζ A m c] 59)) w.heap.size 59 #[.string x.name,ξ κ x.aH,ζ A m c]:=Bk.new _ _ _;have KB:=ψ kb;have qh:Γ w.heap.size w (w.alloc (Ξ #[.string x.name,ξ κ x.aH,ζ A m c] 59)):=(ώ _ _).alloc (ϊ _) _;have sn:=ψ qh;clear kb qh;cases ea:mK x.name.data.toList with
 |false=>
  go_enter func146,Tryz.ntmps146;go_wp2_with (first
   | (go_at_call 186;refine(IY dH _).mono ?_;rintro e w1 ⟨rfl,rfl⟩;try rw[ea]))
  go_ret;exact⟨aX (by unfold gJ;rw[ea];rfl),sn.e⟩
 |true=>
  go_enter func146,Tryz.ntmps146;go_wp2_with (first
   | (go_at_call 186;refine(IY dH _).mono ?_;rintro e w1 ⟨rfl,rfl⟩;try rw[ea]))
  go_loopw [5] (λk wr=>∃i:Nat,i<=m0/\k=ξ κ i/\(∀(q:Nat) (y:bR),q<i->l[q]?=φ y->jF y.name x.name=χ)/\Γ (w.heap.size+1) (w.alloc (Ξ #[.string x.name,ξ κ x.aH,ζ A m c] 59)) wr) (λk _=>m0 - (ϗ k).toNat)
  case atStart=>exact⟨0,ϟ _,rfl,λq _ hq=>by omega,ώ _ _⟩
  case round=>
   obtain⟨i,hi,rfl,bj,hb⟩:=hrel;have HO:=ψ (ϑ bj hb);have fN:Γ w.heap.size w wr:=sn.e.trans (hb.mono (by omega))
   have BW:=ψ fN;have aI:w.heap.size<wr.heap.size:=by have:=hb.size;simp at this;omega
   have kr:=KB.e.below hb (by omega)
   have r0:=kr.cell 0;have r1:=kr.cell 1;have r2:=kr.cell 2;have st:Δ B w wr:=Δ.aK fN hB;have ST:=ψ st;have KR:=ψ kr;clear bj hb fN kr;by_cases al:i<m0
   ·obtain⟨ad,y,cs,rfl,aC,hy,⟨jC,rfl,NK,-⟩,-,au⟩:=H0.e i al
    have g0:=cC au st aC rfl;have qc:(ad.add (i * 3)).block<wr.heap.size:=by rw[cq];omega
    have HY:=ψ hy;clear hy au st NK;cases hs:jF y.name x.name with
    |true=>
     have cD:(y.name.toList==x.name.toList)=θ:=hs;go_wp2;go_quiet (fail);go_wp2;go_ret;refine⟨aX ?_,by first|exact BW.e|exact jq BW.e _⟩
     unfold gJ;rw[ea,if_pos rfl,if_pos];rw[Aio];exact⟨y,Ϭ HY.e,hs⟩
    |false=>
     have cD:(y.name.toList==x.name.toList)=χ:=hs;go_wp2;go_quiet (fail);go_wp2;go_roundw;case rel=>exact⟨i+1,by omega,by go_num,λq z hq hz=>by
      rcases Agv.1 hq with h|rfl
      ·exact HO.e.1 q z h hz
      ·rw[HY.e] at hz;cases hz;exact hs,by first|exact HO.e.2|exact jq HO.e.2 _⟩
     case measure=>simp[ϗ];omega
   ·obtain rfl:i=m0:=by omega
    have Dl:l.any (λq=>jF q.name x.name)=χ:=by
     rw[Aip];intro z hz;obtain⟨q,hq⟩:=Aht hz
     simpa using HO.e.1 q z (by have:=(ϸ.1 hq).1;have:=YK.e;omega) hq
    have uw:=ψ Dl;clear Dl st;cases ij:bX x.aH 1 40 with
    |false=>
     go_wp2_with (first
      | (go_at_call 62;refine(lg _ _ _ _).mono ?_;rintro e w' ⟨rfl,rfl⟩;try rw[ij]))
     go_ret;exact⟨aX (by unfold gJ;rw[ea,uw.e,ij];rfl),BW.e⟩
    |true=>
     obtain⟨pb,Un⟩:=nJ ij;by_cases h3:3<m
     ·go_wp2_with (first
       | (go_at_call 62;refine(lg _ _ _ _).mono ?_;rintro e w' ⟨rfl,rfl⟩;try rw[ij]))
      go_ret;exact⟨aX (by unfold gJ;rw[ea,uw.e,ij,dC.e];simp[h3]),BW.e⟩
     ·go_wp2_with (first
       | (go_at_call 62;refine(lg _ _ _ _).mono ?_;rintro e w' ⟨rfl,rfl⟩;try rw[ij]))
      have fe:gJ l x=lX x.aH (-1) x.cM:=by unfold gJ;rw[ea,uw.e,ij,dC.e];simp[h3]
      have MA:=ψ fe;clear fe;clear r0 r1 r2;go_loopw [6] (λk wq=>∃j:Nat,j<=m/\k=ξ κ j/\lX x.aH (-1) x.cM=lX x.aH (tQ x.cM j) (x.cM.drop j)/\Γ (w.heap.size+1) (w.alloc (Ξ #[.string x.name,ξ κ x.aH,ζ A m c] 59)) wq) (λk _=>m - (ϗ k).toNat)
      case atStart=>exact⟨0,ϟ _,rfl,rfl,HO.e.2⟩
      case round=>
       obtain⟨j,hj,rfl,vx,hb⟩:=hrel;have RE:=ψ vx;have HQ:=ψ hb;have fN:Γ w.heap.size w wr:=sn.e.trans (hb.mono (by omega))
       have BQ:=ψ fN;have aI:w.heap.size<wr.heap.size:=by have:=hb.size;simp at this;omega
       have hle:w.heap.size+1<=wr.heap.size:=by omega
       have kr:=KB.e.below hb (by omega)
       have r0:=kr.cell 0;have r1:=kr.cell 1;have r2:=kr.cell 2;have KQ:=ψ kr;have st:Δ B w wr:=Δ.aK fN hB;have ST:=ψ st;clear vx hb fN kr;by_cases nE:j<m
       ·obtain⟨ad,y,cs,rfl,aC,hy,rfl,-,au⟩:=H2.e j nE
        have h0:=cC au st aC rfl;have h1:=bK au st aC 0 rfl;have qc:(ad.add (j * 2)).block<wr.heap.size:=by rw[cq];omega
        have HY:=ψ hy;have HC:=ψ au;clear hy au st;go_wp2;refine ua 8 (by kernel_rfl) (by kernel_rfl) ?_
        simp only[Agi,Agj,Agk,Agl];repeat still_step
        refine Aha ?_
        cases hw:mV y.lo y.hi 0 (x.aH - 1) with
        |false=>
         go_wp2_with (first
             | (go_at_call 49;refine(within _).mono ?_;rintro e w2 ⟨rfl,ak⟩;try rw[hw]))
         go_ret;refine⟨aX ?_,chain BQ.e (iU ak) (by omega)⟩
         rw[MA.e,RE.e,drop_cons HY.e];rw[Ij,Ik,hw];rfl
        |true=>
         rcases Nat.eq_zero_or_pos j with uW|uW
         ·subst uW
          have hrel:lX x.aH (-1) x.cM=lX x.aH (tQ x.cM 1) (x.cM.drop 1):=by
             rw[RE.e,drop_cons HY.e];have pb:0<=y.lo:=by simp only[mV,Aa3,decide_eq_true_eq] at hw;exact hw.1
             have hn:¬ (y.lo<=tQ x.cM 0):=by simp[tQ];omega
             rw[Ij,Ik,hw,if_pos rfl,if_neg hn];simp[tQ,HY.e]
          have HR:=ψ hrel;clear hrel;go_wp2
          go_at_call 49
          refine(within _).mono ?_
          rintro e w2 ⟨rfl,ak⟩;have b2:Γ wr.heap.size wr w2:=iU ak;have k2:=KQ.e.below b2 aI;have s0:=k2.cell 0;have s1:=k2.cell 1;have s2:=k2.cell 2;have ba:w.heap.size<w2.heap.size:=by have:=b2.size;omega
          have mT:Δ B w w2:=ST.e.trans (Δ.aK b2 (by omega))
          have t0:=cC HC.e mT aC rfl;have t1:=bK HC.e mT aC 0 rfl;have q2:(ad.add (0 * 2)).block<w2.heap.size:=by rw[cq];omega
          have cy:=ψ (HQ.e.trans (b2.mono hle));have FX:=ψ (BQ.e.trans (b2.mono (by omega)))
          clear ak b2 k2 mT
          try rw[hw]
          go_wp2;go_quiet (fail);go_wp2;go_roundw;case rel=>exact⟨1,nE,by go_num,HR.e,by first|exact cy.e|exact jq cy.e _⟩
          case measure=>simp[ϗ];omega
         ·obtain⟨q,rfl⟩:∃q,j=q+1:=⟨j - 1,by omega⟩
          obtain⟨Cs,z,SF,CQ,Uv,hz,rfl,-,vd⟩:=H2.e q (by omega)
          cases CQ;have HZ:=ψ hz;have QX:=ψ vd;clear hz vd;have UD:tQ x.cM (q+1)=z.hi:=by simp[tQ,HZ.e]
          have Q2:=ψ UD;clear UD;have gx:decide ((0:Int)<((q+1:Nat):Int))=θ:=by simp<;>omega
          by_cases qI:y.lo<=z.hi
          ·have hd:decide (y.lo<=z.hi)=θ:=by simpa using qI
           go_wp2
           go_at_call 49
           refine(within _).mono ?_
           rintro e w2 ⟨rfl,ak⟩;have b2:Γ wr.heap.size wr w2:=iU ak;have k2:=KQ.e.below b2 aI;have s0:=k2.cell 0;have s1:=k2.cell 1;have s2:=k2.cell 2;have ba:w.heap.size<w2.heap.size:=by have:=b2.size;omega
           have mT:Δ B w w2:=ST.e.trans (Δ.aK b2 (by omega))
           have t0:=cC HC.e mT aC rfl;have t1:=bK HC.e mT aC 0 rfl;have q2:(ad.add ((q+1) * 2)).block<w2.heap.size:=by rw[cq];omega
           have cy:=ψ (HQ.e.trans (b2.mono hle));have FX:=ψ (BQ.e.trans (b2.mono (by omega)))
           have t3:=bK QX.e mT aC 0 rfl;have q3:(ad.add (q * 2)).block<w2.heap.size:=by rw[cq];omega
           clear ak b2 k2 mT
           try rw[hw]
           go_wp2;go_quiet (fail);go_wp2;go_ret;refine⟨aX ?_,by first|exact FX.e|exact jq FX.e _⟩
           rw[MA.e,RE.e,drop_cons HY.e,Q2.e];rw[Ij,Ik,hw,if_pos rfl,if_pos qI]
          ·have hd:decide (y.lo<=z.hi)=χ:=by simpa using qI
           have hrel:lX x.aH (-1) x.cM=lX x.aH (tQ x.cM (q+2)) (x.cM.drop (q+2)):=by
               rw[RE.e,drop_cons HY.e,Q2.e];rw[Ij,Ik,hw,if_pos rfl,if_neg qI];simp[tQ,HY.e]
           have HR:=ψ hrel;clear hrel;go_wp2
           go_at_call 49
           refine(within _).mono ?_
           rintro e w2 ⟨rfl,ak⟩;have b2:Γ wr.heap.size wr w2:=iU ak;have k2:=KQ.e.below b2 aI;have s0:=k2.cell 0;have s1:=k2.cell 1;have s2:=k2.cell 2;have ba:w.heap.size<w2.heap.size:=by have:=b2.size;omega
           have mT:Δ B w w2:=ST.e.trans (Δ.aK b2 (by omega))
           have t0:=cC HC.e mT aC rfl;have t1:=bK HC.e mT aC 0 rfl;have q2:(ad.add ((q+1) * 2)).block<w2.heap.size:=by rw[cq];omega
           have cy:=ψ (HQ.e.trans (b2.mono hle));have FX:=ψ (BQ.e.trans (b2.mono (by omega)))
           have t3:=bK QX.e mT aC 0 rfl;have q3:(ad.add (q * 2)).block<w2.heap.size:=by rw[cq];omega
           clear ak b2 k2 mT
           try rw[hw]
           go_wp2;go_quiet (fail);go_wp2;go_roundw;case rel=>exact⟨q+2,by omega,by go_num,HR.e,by first|exact cy.e|exact jq cy.e _⟩
           case measure=>simp[ϗ];omega
       ·obtain rfl:j=m:=by omega
        go_wp2;go_ret;refine⟨aX ?_,BQ.e⟩
        rw[MA.e,RE.e,Ain (by rw[dC.e];exact ϊ _)]
        rfl
def XG{a b:Int}:th a b 0 120 121=mV a b 0 120:=by
 rw[Fz];by_cases h:mV a b 0 120=θ
 ·rw[h]
  simp only[mV,Aa3,decide_eq_true_eq] at h;simp;omega
 ·simp only[Bool.not_eq_true] at h;rw[h];rfl
def aj0{n:Int}{pv bv tv:υ}{w:Ψ}{B:Nat}{lp:List Piece}{l:List Tape}(hp:Row w B 4 Piece.R pv lp)(Dr:∃A n c,bv=ζ A n c)(hv:Row w B 3 (Tape.R w B) tv l)(hB:B<=w.heap.size):
 ύ prog 147 #[η #[ξ κ n,pv,bv,tv]] w λe w'=>e=Ω (ξ κ (kK lp.length l))/\Γ w.heap.size w w':=by
 obtain⟨PA,np,pc,rfl,kH,Hv,vw,-⟩:=hp.Φ;obtain⟨A,m,c,rfl,hl,dX,hc,hr⟩:=hv.Φ;obtain⟨BA,bn,bc,rfl⟩:=Dr;have dC:=ψ hl;have DQ:=ψ kH;have KU:=ψ (Ϧ Hv vw);unfold ϕ at hc vw;have H2:=ψ hr;have kb:Bk (w.alloc (Ξ #[ξ κ n,ζ PA np pc,ζ BA bn bc,ζ A m c] 26)) w.heap.size 26 #[ξ κ n,ζ PA np pc,ζ BA bn bc,ζ A m c]:=Bk.new _ _ _;have KB:=ψ kb;have sn:Hid (Γ w.heap.size w (w.alloc (Ξ #[ξ κ n,ζ PA np pc,ζ BA bn bc,ζ A m c] 26))):=ψ ((ώ _ _).alloc (ϊ _) _);clear hl hr hv kH hp kb;by_cases hlen:4<m
 ·go_enter func147,Tryz.ntmps147
  go_wp2;go_ret;exact⟨aX (by unfold kK;rw[dC.e,if_pos hlen]),sn.e⟩
 ·go_enter func147,Tryz.ntmps147
  go_wp2;go_loopw [2,3,4,5] (λr k u v wr=>∃i:Nat,i<=m/\k=ξ κ i/\(∀(j:Nat) (x:Tape),j<i->l[j]?=φ x->kh np x=0)/\Γ (w.heap.size+1) (w.alloc (Ξ #[ξ κ n,ζ PA np pc,ζ BA bn bc,ζ A m c] 26)) wr) (λ_ k _ _ _=>m - (ϗ k).toNat)
  case atStart=>exact⟨0,ϟ _,rfl,λj _ hj=>by omega,ώ _ _⟩
  case round=>
   obtain⟨i,hi,rfl,bt,hb⟩:=hrel;have HH:=ψ (ϑ bt hb);have fN:Γ w.heap.size w wr:=sn.e.trans (hb.mono (by omega))
   have BW:=ψ fN;have aI:w.heap.size<wr.heap.size:=by have:=hb.size;simp at this;omega
   have hle:w.heap.size+1<=wr.heap.size:=by omega
   have kr:=KB.e.below hb (by omega)
   have r0:=kr.cell 0;have r1:=kr.cell 1;have r2:=kr.cell 2;have r3:=kr.cell 3;have KR:=ψ kr;have st:Δ B w wr:=Δ.aK fN hB;have ST:=ψ st;clear bt hb fN kr;by_cases al:i<m
   ·obtain⟨ad,x,cs,rfl,aC,hx,⟨kv,rfl,dj⟩,-,au⟩:=H2.e i al
    obtain⟨KA,kn,kc,rfl,da,Uu,DJ,xS⟩:=id dj.Φ;have YH:=ψ dj;unfold ϕ at DJ;have KL:=ψ da;have h0:=cC au st aC rfl;have h1:=bK au st aC 0 rfl;have h2:=bK au st aC 1 rfl;have qc:(ad.add (i * 3)).block<wr.heap.size:=by rw[cq];omega
    have HX:=ψ hx;clear hx au st dj da xS;have bad:∀s:Int,kh np x=s->s≠0->s=kK lp.length l:=λs hs h0=>by
     unfold kK;rw[dC.e,if_neg hlen,DQ.e,sf (f:=λ_ t=>kh np t) HX.e HH.e.1 (by rw[hs];exact h0),hs]
    have fG:=ψ bad;clear bad;have HO:Hid (Γ (w.heap.size+1) (w.alloc (Ξ #[ξ κ n,ζ PA np pc,ζ BA bn bc,ζ (φ ad) m c] 26)) (wr.alloc (Ξ #[ζ KA kn kc,ξ κ x.sum.lo,ξ κ x.sum.hi] 95))):=ψ (HH.e.2.alloc hle _);have Cb:Hid (Γ w.heap.size w (wr.alloc (Ξ #[ζ KA kn kc,ξ κ x.sum.lo,ξ κ x.sum.hi] 95))):=ψ (BW.e.alloc (by omega) _)
    by_cases iM:kn=0
    ·subst iM
     go_wp2;go_ret;exact⟨aX (fG.e 2 (by unfold kh;rw[KL.e];rfl) (by omega)),Cb.e⟩
    ·have ig:((kn:Int)==0)=χ:=by simp;omega
     have KG:Hid (Row (wr.alloc (Ξ #[ζ KA kn kc,ξ κ x.sum.lo,ξ κ x.sum.hi] 95)) B 1 cH (ζ KA kn kc) x.pieces):=ψ (YH.e.still (Δ.aK Cb.e hB) λ_ _ h=>h)
     by_cases dY:eE np ν x.pieces=0
     ·cases hw:mV x.sum.lo x.sum.hi 0 120 with
      |false=>
       go_wp2
       go_at_call 57
       refine(rising KG.e (by simp;omega) KU.e).mono ?_
       rintro e w2 ⟨rfl,ak⟩;rw[dY];have mG:(wr.alloc (Ξ #[ζ KA kn kc,ξ κ x.sum.lo,ξ κ x.sum.hi] 95)).heap.size=wr.heap.size+1:=by simp
       have k2:Bk w2 wr.heap.size 95 #[ζ KA kn kc,ξ κ x.sum.lo,ξ κ x.sum.hi]:=(Bk.new wr 95 _).below ak (by omega)
       have s0:=k2.cell 0;have s1:=k2.cell 1;have s2:=k2.cell 2;have ba:wr.heap.size<w2.heap.size:=k2.lt;have BX:Hid (Γ (w.heap.size+1) (w.alloc (Ξ #[ξ κ n,ζ PA np pc,ζ BA bn bc,ζ (φ ad) m c] 26)) w2):=ψ (HO.e.trans (ak.mono (by omega)))
       have J3:Hid (Γ w.heap.size w w2):=ψ (Cb.e.trans (ak.mono (by omega)))
       clear ak k2 mG;go_wp2
       go_at_call 49
       refine(within _).mono ?_
       rintro e w3 ⟨rfl,bD⟩;have BY:Hid (Γ (w.heap.size+1) (w.alloc (Ξ #[ξ κ n,ζ PA np pc,ζ BA bn bc,ζ (φ ad) m c] 26)) w3):=ψ (BX.e.trans (bD.mono (by omega)))
       have QE:Hid (Γ w.heap.size w w3):=ψ (J3.e.trans (bD.mono (by omega)))
       clear bD;rw[hw];go_wp2;go_ret;exact⟨aX (fG.e 1 (by unfold kh;rw[KL.e,if_neg iM,dY,XG,hw];rfl) (by omega)),QE.e⟩
      |true=>
       go_wp2
       go_at_call 57
       refine(rising KG.e (by simp;omega) KU.e).mono ?_
       rintro e w2 ⟨rfl,ak⟩;rw[dY];have mG:(wr.alloc (Ξ #[ζ KA kn kc,ξ κ x.sum.lo,ξ κ x.sum.hi] 95)).heap.size=wr.heap.size+1:=by simp
       have k2:Bk w2 wr.heap.size 95 #[ζ KA kn kc,ξ κ x.sum.lo,ξ κ x.sum.hi]:=(Bk.new wr 95 _).below ak (by omega)
       have s0:=k2.cell 0;have s1:=k2.cell 1;have s2:=k2.cell 2;have ba:wr.heap.size<w2.heap.size:=k2.lt;have BX:Hid (Γ (w.heap.size+1) (w.alloc (Ξ #[ξ κ n,ζ PA np pc,ζ BA bn bc,ζ (φ ad) m c] 26)) w2):=ψ (HO.e.trans (ak.mono (by omega)))
       have J3:Hid (Γ w.heap.size w w2):=ψ (Cb.e.trans (ak.mono (by omega)))
       clear ak k2 mG;go_wp2
       go_at_call 49
       refine(within _).mono ?_
       rintro e w3 ⟨rfl,bD⟩;have BY:Hid (Γ (w.heap.size+1) (w.alloc (Ξ #[ξ κ n,ζ PA np pc,ζ BA bn bc,ζ (φ ad) m c] 26)) w3):=ψ (BX.e.trans (bD.mono (by omega)))
       have QE:Hid (Γ w.heap.size w w3):=ψ (J3.e.trans (bD.mono (by omega)))
       clear bD;rw[hw];go_wp2;go_roundw;case rel=>exact⟨i+1,by omega,by go_num,λj y hj hy=>by
           rcases Agv.1 hj with h|rfl
           ·exact HH.e.1 j y h hy
           ·rw[HX.e] at hy;cases hy;unfold kh;rw[KL.e,if_neg iM,dY,XG,hw];rfl,BY.e⟩
       case measure=>simp[ϗ];omega
     ·have N9:(eE np ν x.pieces !=0)=θ:=by simpa using dY
      obtain⟨s,hs⟩:∃s,s=eE np ν x.pieces:=⟨_,rfl⟩
      rw[<-hs] at dY N9;have HS:=ψ hs;go_wp2
      go_at_call 57
      refine(rising KG.e (by simp;omega) KU.e).mono ?_
      rintro e w2 ⟨rfl,ak⟩;rw[<-HS.e];have BX:=ψ (Cb.e.trans (ak.mono (by simp;omega)))
      clear ak hs;go_wp2;go_ret;exact⟨aX (fG.e s (by unfold kh;rw[KL.e,if_neg iM,<-HS.e,if_pos dY]) dY),BX.e⟩
   ·obtain rfl:i=m:=by omega
    go_wp2;go_ret;refine⟨aX ?_,BW.e⟩
    unfold kK;rw[dC.e,if_neg hlen,DQ.e,se (f:=λ_ t=>kh np t) (λj x hj=>HH.e.1 j x (by have:=(ϸ.1 hj).1;have:=dC.e;omega) hj)]
def aac{b:ao}(h:bX b.ag 0 3=χ):dF b=1:=by
 unfold dF jP;rw[h];rfl
def aab{b:ao}(h:bX b.ag 0 3=θ)(h1:iw b.pieces≠0):dF b=iw b.pieces:=by
 unfold dF jP;rw[h];simp[scan,h1]
def Sp{b:ao}(h:bX b.ag 0 3=θ)(h1:iw b.pieces=0)(h2:kC b.aF≠0):dF b=kC b.aF:=by
 unfold dF jP;rw[h];simp[scan,h1,h2]
def aad{b:ao}(h:bX b.ag 0 3=θ)(h1:iw b.pieces=0)(h2:kC b.aF=0):dF b=kK b.pieces.length b.aJ:=by
 unfold dF jP;rw[h]
 by_cases h3:kK b.pieces.length b.aJ=0
 ·simp[scan,h1,h2,h3]
 ·simp[scan,h1,h2,h3]
def ajY{b:ao}{pv bv tv:υ}{w:Ψ}{B:Nat}(ai:bg w B b pv bv tv)(hB:B<=w.heap.size):
 ύ prog 69 #[η #[ξ κ b.ag,pv,bv,tv]] w λe w'=>e=Ω (ξ κ (dF b))/\Γ w.heap.size w w':=by
 have bT:=ψ ai;obtain⟨PA,np,pc,rfl,kH,Hv,vw,-⟩:=ai.pieces.Φ;obtain⟨TA,nt,tc,rfl,xZ,htc,Ob,-⟩:=ai.aJ.Φ;obtain⟨A,m,c,rfl,hl,dX,hc,hr⟩:=ai.aF.Φ;have dC:=ψ hl;unfold ϕ at hc vw Ob;have H2:=ψ hr;have kb:Bk (w.alloc (Ξ #[ξ κ b.ag,ζ PA np pc,ζ A m c,ζ TA nt tc] 26)) w.heap.size 26 #[ξ κ b.ag,ζ PA np pc,ζ A m c,ζ TA nt tc]:=Bk.new _ _ _;have KB:=ψ kb;have sn:Hid (Γ w.heap.size w (w.alloc (Ξ #[ξ κ b.ag,ζ PA np pc,ζ A m c,ζ TA nt tc] 26))):=ψ ((ώ _ _).alloc (ϊ _) _);have mG:(w.alloc (Ξ #[ξ κ b.ag,ζ PA np pc,ζ A m c,ζ TA nt tc] 26)).heap.size=w.heap.size+1:=by simp
 have E4:=ψ mG;have Kc:Hid (ύ prog 145 #[ζ PA np pc] (w.alloc (Ξ #[ξ κ b.ag,ζ PA np pc,ζ A m c,ζ TA nt tc] 26)) λe w'=>e=Ω (ξ κ (iw b.pieces))/\Γ (w.heap.size+1) (w.alloc (Ξ #[ξ κ b.ag,ζ PA np pc,ζ A m c,ζ TA nt tc] 26)) w'):=ψ (by
  have:=ajZ (bT.e.pieces.still (Δ.aK sn.e hB) λ_ _ h=>h) (by rw[mG];omega)
  rw[mG] at this;exact this)
 clear hl hr ai kH xZ kb mG;cases h1:bX b.ag 0 3 with
 |false=>
  go_enter func69,Tryz.ntmps69;go_wp2_with (first
   | (go_at_call 62;refine(lg _ _ _ _).mono ?_;rintro e w' ⟨rfl,rfl⟩;try rw[h1]))
  go_ret;exact⟨aX (aac h1).symm,sn.e⟩
 |true=>
  by_cases h2:iw b.pieces=0
  ·go_enter func69,Tryz.ntmps69
   go_wp2_with (first
    | (go_at_call 62;refine(lg _ _ _ _).mono ?_;rintro e w' ⟨rfl,rfl⟩;try rw[h1]))
   go_at_call 145
   refine Kc.e.mono ?_
   rintro e w1 ⟨rfl,ae⟩;rw[h2];have k1:=KB.e.below ae (by omega)
   have r0:=k1.cell 0;have r1:=k1.cell 1;have r2:=k1.cell 2;have r3:=k1.cell 3;have aN:w.heap.size<w1.heap.size:=k1.lt;have dO:Hid (Γ w.heap.size w w1):=ψ (sn.e.trans (ae.mono (by omega)))
   have Yl:=ψ ae;clear k1 ae;by_cases h3:3<m
   ·go_wp2
    go_ret;exact⟨aX (by rw[Sp h1 h2 (by unfold kC;rw[dC.e,if_pos h3];omega)];unfold kC;rw[dC.e,if_pos h3]),dO.e⟩
   ·go_wp2
    clear r0 r1 r2 r3;go_loopw [2,4,5] (λr k u wr=>∃i:Nat,i<=m/\k=ξ κ i/\(∀(j:Nat) (x:bR),j<i->b.aF[j]?=φ x->gJ (b.aF.take j) x=0)/\Γ (w.heap.size+1) (w.alloc (Ξ #[ξ κ b.ag,ζ PA np pc,ζ A m c,ζ TA nt tc] 26)) wr) (λ_ k _ _=>m - (ϗ k).toNat)
    case atStart=>exact⟨0,ϟ _,rfl,λj _ hj=>by omega,Yl.e⟩
    case round=>
     obtain⟨i,hi,rfl,bt,hb⟩:=hrel;have HH:=ψ (ϑ bt hb);have fN:Γ w.heap.size w wr:=sn.e.trans (hb.mono (by omega))
     have BW:=ψ fN;have aI:w.heap.size<wr.heap.size:=by have:=hb.size;have:=E4.e;omega
     have hle:w.heap.size+1<=wr.heap.size:=by omega
     have kr:=KB.e.below hb (by omega)
     have r0:=kr.cell 0;have r1:=kr.cell 1;have r2:=kr.cell 2;have r3:=kr.cell 3;have st:Δ B w wr:=Δ.aK fN hB;have ST:=ψ st;clear bt hb fN kr;by_cases al:i<m
     ·obtain⟨ad,x,cs,rfl,aC,hx,⟨kv,rfl,dH,dj⟩,-,au⟩:=H2.e i al
      obtain⟨A2,c2,rfl,-⟩:=id dj;obtain⟨n2,dM⟩:∃n2,n2=x.cM.length:=⟨_,rfl⟩
      rw[<-dM] at dj au;clear dM;have yV:=ψ dj;have g0:=cC au st aC rfl;have g1:=bK au st aC 0 rfl;have g2:=bK au st aC 1 rfl;have HX:=ψ hx;clear hx au st dj;have DD:i<=c:=by omega
      go_wp2;refine ua 9 (by kernel_rfl) (by kernel_rfl) ?_
      simp only[Agi,Agj,Agk,Agl];repeat still_step
      refine Aha ?_
      have HR:=ψ ((bT.e.aF.take hi).still ST.e λ_ _ h=>h.still ST.e)
      have F7:=ψ (yV.e.still ST.e λ_ _ h=>h)
      have Kd:Hid (ύ prog 146 #[ζ (φ ad) i c,η #[.string x.name,ξ κ x.aH,ζ A2 n2 c2]] wr.drew λe w'=>e=Ω (ξ κ (gJ (b.aF.take i) x))/\Γ wr.heap.size wr w'):=ψ (by
       have:=ajX (w:=wr.drew) dH F7.e HR.e (by show B<=wr.heap.size;omega)
       exact this.mono λe w' ⟨h1,h2⟩=>⟨h1,iU h2⟩)
      by_cases hz:gJ (b.aF.take i) x=0
      ·go_wp2
       go_at_call 146
       refine Kd.e.mono ?_
       rintro e w2 ⟨rfl,ak⟩;rw[hz];have BX:=ψ (HH.e.2.trans (ak.mono hle));clear ak;go_wp2;go_roundw;case rel=>exact⟨i+1,by omega,by go_num,λj y hj hy=>by
        rcases Agv.1 hj with h|rfl
        ·exact HH.e.1 j y h hy
        ·rw[HX.e] at hy;cases hy;exact hz,BX.e⟩
       case measure=>simp[ϗ];omega
      ·obtain⟨s,hs⟩:∃s,s=gJ (b.aF.take i) x:=⟨_,rfl⟩
       rw[<-hs] at hz Kd;have N9:(s !=0)=θ:=by simpa using hz
       have HS:=ψ hs;clear hs;go_wp2
       go_at_call 146
       refine Kd.e.mono ?_
       rintro e w2 ⟨rfl,ak⟩;have BX:=ψ (BW.e.trans (ak.mono (by omega)))
       clear ak;go_wp2;go_ret;have fe:kC b.aF=s:=by
        unfold kC;rw[dC.e,if_neg h3,sf HX.e HH.e.1 (by rw[<-HS.e];exact hz),<-HS.e]
       exact⟨aX (by rw[Sp h1 h2 (by rw[fe];exact hz),fe]),BX.e⟩
     ·obtain rfl:i=m:=by omega
      have fe:kC b.aF=0:=by
       unfold kC;rw[dC.e,if_neg h3,se (λj x hj=>HH.e.1 j x (by have:=(ϸ.1 hj).1;have:=dC.e;omega) hj)]
      have MA:=ψ fe;have Yn:Hid (ύ prog 147 #[η #[ξ κ b.ag,ζ PA np pc,ζ A i c,ζ TA nt tc]] wr λe w'=>e=Ω (ξ κ (kK b.pieces.length b.aJ))/\Γ wr.heap.size wr w'):=ψ
       (aj0 (bT.e.pieces.still ST.e λ_ _ h=>h) ⟨_,_,_,rfl⟩ (bT.e.aJ.still ST.e λ_ _ h=>h.still ST.e) (by omega))
      clear fe st;go_wp2
      go_at_call 147
      refine Yn.e.mono ?_
      rintro e w2 ⟨rfl,ak⟩;have BX:=ψ (BW.e.trans (ak.mono (by omega)))
      clear ak;go_wp2;go_ret;exact⟨aX (aad h1 h2 MA.e).symm,BX.e⟩
  ·obtain⟨s,hs⟩:∃s,s=iw b.pieces:=⟨_,rfl⟩
   have o4:=aab h1 h2;rw[<-hs] at h2 Kc o4;have N9:(s !=0)=θ:=by simpa using h2
   have YB:=ψ o4;clear hs o4;go_enter func69,Tryz.ntmps69;go_wp2_with (first
    | (go_at_call 62;refine(lg _ _ _ _).mono ?_;rintro e w' ⟨rfl,rfl⟩;try rw[h1]))
   go_at_call 145
   refine Kc.e.mono ?_
   rintro e w1 ⟨rfl,ae⟩;have dO:Hid (Γ w.heap.size w w1):=ψ (sn.e.trans (ae.mono (by omega)))
   clear ae;go_wp2;go_ret;exact⟨aX YB.e.symm,dO.e⟩
def rq(x:bR):Bool:=decide (100<x.name.size) ||decide (20<x.cM.length)
def zH(x:Piece):Bool:=decide (100<x.name.size)
def zI(x:Tape):Bool:=decide (20<x.pieces.length)
def uU(b:ao):Bool:=(decide (20<b.pieces.length) || (decide (20<b.aF.length) ||decide (20<b.aJ.length))) || (b.pieces.any zH|| (b.aF.any rq||b.aJ.any zI))
def Zz{x:bR}{kv:υ}{w:Ψ}{B:Nat}(dH:x.name.size<=ϕ)(hk:Row w B 2 Span.R kv x.cM):
 ύ prog 51 #[η #[.string x.name,ξ κ x.aH,kv]] w λe w'=>e=Ω (.bool (rq x))/\Γ w.heap.size w w':=by
 obtain⟨A,m,c,rfl,hl,dX,hc,-⟩:=hk.Φ;unfold ϕ at hc dH;have HL:=ψ hl;clear hl hk;by_cases h1:100<x.name.size
 ·go_enter func51,Tryz.ntmps51
  go_wp2;go_ret;exact⟨b9 (by unfold rq;simp[h1]),(ώ _ _).alloc (ϊ _) _⟩
 ·by_cases h2:20<m
  ·go_enter func51,Tryz.ntmps51
   go_wp2;go_ret;exact⟨b9 (by unfold rq;rw[HL.e];simp[h2];omega),(ώ _ _).alloc (ϊ _) _⟩
  ·go_enter func51,Tryz.ntmps51
   go_wp2;go_ret;exact⟨b9 (by unfold rq;rw[HL.e];simp[h1,h2];omega),(ώ _ _).alloc (ϊ _) _⟩
def Lp{α:Type}{p:α->Bool}{l:List α}{i:Nat}{x:α}(h:l[i]?=φ x)(hp:p x=θ):l.any p=θ:=Aio.2 ⟨x,Ϭ h,hp⟩
def Lo{α:Type}{p:α->Bool}{l:List α}{n:Nat}(hn:l.length=n)(h:∀(j:Nat) (x:α),j<n->l[j]?=φ x->p x=χ):l.any p=χ:=by
 rw[Aip];intro z hz;obtain⟨q,hq⟩:=Aht hz
 simpa using h q z (by have:=(ϸ.1 hq).1;omega) hq
def adh{b:ao}{pv bv tv:υ}{w:Ψ}{B:Nat}(ai:bg w B b pv bv tv)(hB:B<=w.heap.size):
 ύ prog 20 #[η #[ξ κ b.ag,pv,bv,tv]] w λe w'=>e=Ω (.bool (uU b))/\Γ w.heap.size w w':=by
 obtain⟨PA,np,pc,rfl,kH,Hv,vw,U6⟩:=ai.pieces.Φ;obtain⟨TA,nt,tc,rfl,xZ,htc,Ob,pg⟩:=ai.aJ.Φ;obtain⟨A,m,c,rfl,hl,dX,hc,hr⟩:=ai.aF.Φ;have KJ:=ψ kH;have KI:=ψ hl;have ER:=ψ xZ;have HP:=ψ U6;have HT:=ψ pg;have H2:=ψ hr;unfold ϕ at hc vw Ob;have kb:Bk (w.alloc (Ξ #[ξ κ b.ag,ζ PA np pc,ζ A m c,ζ TA nt tc] 26)) w.heap.size 26 #[ξ κ b.ag,ζ PA np pc,ζ A m c,ζ TA nt tc]:=Bk.new _ _ _;have KB:=ψ kb;have sn:Hid (Γ w.heap.size w (w.alloc (Ξ #[ξ κ b.ag,ζ PA np pc,ζ A m c,ζ TA nt tc] 26))):=ψ ((ώ _ _).alloc (ϊ _) _);have E4:Hid ((w.alloc (Ξ #[ξ κ b.ag,ζ PA np pc,ζ A m c,ζ TA nt tc] 26)).heap.size=w.heap.size+1):=ψ (by simp)
 have Vr:∀q:Bool,q=θ->(decide (20<b.pieces.length) || (decide (20<b.aF.length) ||decide (20<b.aJ.length)))=q->θ=uU b:=λq h1 h2=>by unfold uU;rw[h2,h1];rfl
 have K1:=ψ Vr;clear hl hr ai kH xZ kb U6 pg Vr;by_cases h1:20<np
 ·go_enter func20,Tryz.ntmps20
  go_wp2;go_ret;exact⟨b9 (K1.e θ rfl (by rw[KJ.e];simp[h1])),sn.e⟩
 by_cases h2:20<m
 ·go_enter func20,Tryz.ntmps20
  go_wp2;go_ret;exact⟨b9 (K1.e θ rfl (by rw[KI.e];simp[h2])),sn.e⟩
 by_cases h3:20<nt
 ·go_enter func20,Tryz.ntmps20
  go_wp2;go_ret;exact⟨b9 (K1.e θ rfl (by rw[ER.e];simp[h3])),sn.e⟩
 have bj:uU b=(b.pieces.any zH|| (b.aF.any rq||b.aJ.any zI)):=by
  unfold uU;rw[KJ.e,KI.e,ER.e];simp[h1,h2,h3]
 have sT:=ψ bj;clear bj;go_enter func20,Tryz.ntmps20;go_wp2;go_loopw [2,3] (λr k wr=>∃i:Nat,i<=np/\k=ξ κ i/\(∀(j:Nat) (x:Piece),j<i->b.pieces[j]?=φ x->zH x=χ)/\Γ (w.heap.size+1) (w.alloc (Ξ #[ξ κ b.ag,ζ PA np pc,ζ A m c,ζ TA nt tc] 26)) wr) (λ_ k _=>np - (ϗ k).toNat)
 case atStart=>exact⟨0,ϟ _,rfl,λj _ hj=>by omega,by rw[<-E4.e];exact ώ _ _⟩
 case round=>
  obtain⟨i,hi,rfl,bt,hb⟩:=hrel;have HH:=ψ (ϑ bt hb);have fN:Γ w.heap.size w wr:=sn.e.trans (hb.mono (by omega))
  have BW:=ψ fN;have kr:=KB.e.below hb (by omega)
  have aI:w.heap.size<wr.heap.size:=kr.lt;have r0:=kr.cell 0;have r1:=kr.cell 1;have r2:=kr.cell 2;have r3:=kr.cell 3;have st:Δ B w wr:=Δ.aK fN hB;clear bt hb fN kr;by_cases al:i<np
  ·obtain⟨ad,x,cs,rfl,aC,hx,⟨rfl,dH⟩,-,au⟩:=HP.e i al
   have g0:=cC au st aC rfl;have qc:(ad.add (i * 4)).block<wr.heap.size:=by rw[cq];omega
   have HX:=ψ hx;unfold ϕ at dH;clear hx au st;by_cases hg:100<x.name.size
   ·go_wp2
    go_ret;exact⟨b9 (by rw[sT.e,Lp HX.e (by unfold zH;simpa using hg)];rfl),BW.e⟩
   ·go_wp2
    go_roundw;case rel=>exact⟨i+1,by omega,by go_num,λj y hj hy=>by
     rcases Agv.1 hj with h|rfl
     ·exact HH.e.1 j y h hy
     ·rw[HX.e] at hy;cases hy;unfold zH;simpa using hg,HH.e.2⟩
    case measure=>simp[ϗ];omega
  ·obtain rfl:i=np:=by omega
   have qx:b.pieces.any zH=χ:=Lo KJ.e HH.e.1;have kQ:=ψ qx;have F3:=ψ HH.e.2;clear qx st;go_wp2;clear r0 r1 r2 r3;go_loopw [2,4] (λr k wr=>∃j:Nat,j<=m/\k=ξ κ j/\(∀(q:Nat) (x:bR),q<j->b.aF[q]?=φ x->rq x=χ)/\Γ (w.heap.size+1) (w.alloc (Ξ #[ξ κ b.ag,ζ PA i pc,ζ A m c,ζ TA nt tc] 26)) wr) (λ_ k _=>m - (ϗ k).toNat)
   case atStart=>exact⟨0,ϟ _,rfl,λj _ hj=>by omega,F3.e⟩
   case round=>
    obtain⟨j,hj,rfl,bt,hb⟩:=hrel;have HG:=ψ (ϑ bt hb);have fN:Γ w.heap.size w wr:=sn.e.trans (hb.mono (by omega))
    have BV:=ψ fN;have kr:=KB.e.below hb (by omega)
    have oD:w.heap.size<wr.heap.size:=kr.lt;have hle:w.heap.size+1<=wr.heap.size:=oD;have r0:=kr.cell 0;have r1:=kr.cell 1;have r2:=kr.cell 2;have r3:=kr.cell 3;have st:Δ B w wr:=Δ.aK fN hB;have ST:=ψ st;clear bt hb fN kr;by_cases al:j<m
    ·obtain⟨ad,x,cs,rfl,aC,hx,⟨kv,rfl,dH,dj⟩,-,au⟩:=H2.e j al
     obtain⟨A2,c2,rfl,-⟩:=id dj;obtain⟨n2,dM⟩:∃n2,n2=x.cM.length:=⟨_,rfl⟩
     rw[<-dM] at dj au;clear dM;have QO:Hid (ύ prog 51 #[η #[.string x.name,ξ κ x.aH,ζ A2 n2 c2]] wr λe w'=>e=Ω (.bool (rq x))/\Γ wr.heap.size wr w'):=ψ (Zz dH (dj.still st λ_ _ h=>h))
     have g0:=cC au st aC rfl;have g1:=bK au st aC 0 rfl;have g2:=bK au st aC 1 rfl;have qc:(ad.add (j * 3)).block<wr.heap.size:=by rw[cq];omega
     have HX:=ψ hx;clear hx au st dj;cases hg:rq x with
     |true=>
      go_wp2
      go_at_call 51
      refine QO.e.mono ?_
      rintro e w2 ⟨rfl,ak⟩;rw[hg];have BX:=ψ (BV.e.trans (ak.mono (by omega)))
      clear ak;go_wp2;go_ret;exact⟨b9 (by rw[sT.e,Lp HX.e hg];simp),BX.e⟩
     |false=>
      go_wp2
      go_at_call 51
      refine QO.e.mono ?_
      rintro e w2 ⟨rfl,ak⟩;rw[hg];have BX:=ψ (HG.e.2.trans (ak.mono hle));clear ak;go_wp2;go_roundw;case rel=>exact⟨j+1,by omega,by go_num,λq y hq hy=>by
       rcases Agv.1 hq with h|rfl
       ·exact HG.e.1 q y h hy
       ·rw[HX.e] at hy;cases hy;exact hg,BX.e⟩
      case measure=>simp[ϗ];omega
    ·obtain rfl:j=m:=by omega
     have dM:b.aF.any rq=χ:=Lo KI.e HG.e.1;have YO:=ψ dM;have Yz:=ψ HG.e.2;clear dM st;go_wp2;clear r0 r1 r2 r3;go_loopw [2,5] (λr k wr=>∃q:Nat,q<=nt/\k=ξ κ q/\(∀(z:Nat) (x:Tape),z<q->b.aJ[z]?=φ x->zI x=χ)/\Γ (w.heap.size+1) (w.alloc (Ξ #[ξ κ b.ag,ζ PA i pc,ζ A j c,ζ TA nt tc] 26)) wr) (λ_ k _=>nt - (ϗ k).toNat)
     case atStart=>exact⟨0,ϟ _,rfl,λj _ hj=>by omega,Yz.e⟩
     case round=>
      obtain⟨q,hq,rfl,bt,hb⟩:=hrel;have HK:=ψ (ϑ bt hb);have fN:Γ w.heap.size w wr:=sn.e.trans (hb.mono (by omega))
      have BZ:=ψ fN;have kr:=KB.e.below hb (by omega)
      have D2:w.heap.size<wr.heap.size:=kr.lt;have r0:=kr.cell 0;have r1:=kr.cell 1;have r2:=kr.cell 2;have r3:=kr.cell 3;have st:Δ B w wr:=Δ.aK fN hB;clear bt hb fN kr;by_cases al:q<nt
      ·obtain⟨ad,x,cs,rfl,aC,hx,⟨kv,rfl,dj⟩,-,au⟩:=HT.e q al
       obtain⟨KA,kn,kc,rfl,da,Uu,DJ,-⟩:=dj.Φ;unfold ϕ at DJ;have KL:=ψ da;have g0:=cC au st aC rfl;have qc:(ad.add (q * 3)).block<wr.heap.size:=by rw[cq];omega
       have HX:=ψ hx;clear hx au st dj da;by_cases hg:20<kn
       ·go_wp2
        go_ret;exact⟨b9 (by rw[sT.e,Lp HX.e (by unfold zI;rw[KL.e];simpa using hg)];simp),BZ.e⟩
       ·go_wp2
        go_roundw;case rel=>exact⟨q+1,by omega,by go_num,λz y hz hy=>by
             rcases Agv.1 hz with h|rfl
             ·exact HK.e.1 z y h hy
             ·rw[HX.e] at hy;cases hy;unfold zI;rw[KL.e];simpa using hg,HK.e.2⟩
        case measure=>simp[ϗ];omega
      ·obtain rfl:q=nt:=by omega
       have lQ:b.aJ.any zI=χ:=Lo ER.e HK.e.1;have YP:=ψ lQ;clear lQ st;go_wp2;go_ret;exact⟨b9 (by rw[sT.e,kQ.e,YO.e,YP.e];rfl),BZ.e⟩
end Go.Tw
namespace Go.Tw
variable [Go.Tw.aR]
open Go Go.Proofs Go.RowKit
end Go.Tw
namespace Go.Tw
variable [Go.Tw.aR]
open Go Go.Proofs Go.RowKit
end Go.Tw
namespace Go.Tw
variable [Go.Tw.aR]
open Go Go.Proofs Go.RowKit
end Go.Tw
namespace Go.Tw
variable [Go.Tw.aR]
open Go Go.Proofs Go.RowKit
end Go.Tw
namespace Go.Tw
variable [Go.Tw.aR]
open Go Go.Proofs Go.RowKit
end Go.Tw
namespace Go.Tw
variable [Go.Tw.aR]
open Go Go.Proofs Go.RowKit
def sx(n:Nat)(L:an):List Int:=(Agm n).map L.at
def E0{n k:Nat}(L:an)(h:k<n):(sx n L)[k]?=φ (L.at k):=by
 unfold sx;rw[List.getElem?_map,List.getElem?_range h];rfl
def Bp(n:Nat)(L:an):(sx n L).length=n:=by simp[sx]
def af5{L:an}{n:Nat}{ps:List Int}{lv pv:υ}{w:Ψ}{B:Nat}(hl:Row w B 1 cH lv (sx n L))(hp:Row w B 1 cH pv ps)(hk:∀k∈ps,0<=k/\k<n)(h3:ps.length<=1000)(hL:L.Ok):
 ύ prog 77 #[lv,pv] w λe w'=>e=Ω (ξ κ (sg L ps))/\w=w':=by
 obtain⟨A,m,c,rfl,e1,h1,eA,r1⟩:=hl.Φ;obtain⟨D,q,d,rfl,e2,h2,dW,r2⟩:=hp.Φ;rw[Bp] at e1;obtain rfl:=e1;unfold ϕ at eA dW;have hq:q<=1000:=by omega
 have R1:=ψ r1;have R2:=ψ r2;have E2:=ψ e2;have HK:=ψ hk;have HL:=ψ hL;clear hl hp e2 r1 r2 hk hL;go_enter func77,Tryz.ntmps77;go_wp2
 go_loop [5,6] (λs k=>∃i:Nat,i<=q/\k=ξ κ i/\s=ξ κ (sg L (ps.take i))) (λ_ k=>q - (ϗ k).toNat)
 case atStart=>exact⟨0,ϟ _,rfl,rfl⟩
 case round=>
  obtain⟨i,hi,rfl,rfl⟩:=hrel;have vA:=(P5 L HL.e (ps.take i)).1;have vz:sg L (ps.take i)<=1000000:=by
   have:=(P5 L HL.e (ps.take i)).2;have:(ps.take i).length<=i:=List.length_take_le _ _;omega
  by_cases al:i<q
  ·obtain⟨ad,x,cs,rfl,aC,hx,rfl,-,au⟩:=R2.e i al
   have Vp:=HK.e x (Ϭ hx);obtain⟨j,rfl⟩:=Int.eq_ofNat_of_zero_le Vp.1;have DE:j<n:=by omega
   have Us:(j:Int)<n:=by omega
   have h0:=cC au (Δ.refl (B:=B) w) aC rfl;rw[Agx] at h0;obtain⟨Cs,y,bh,rfl,adT,hy,rfl,-,Ak⟩:=R1.e j DE;have PY:=cC Ak (Δ.refl (B:=B) w) adT rfl;rw[Agx] at PY;rw[E0 L DE] at hy;cases hy;have HX:=ψ hx;have UI:=HL.e j;obtain⟨UI,aot⟩:=UI;clear hx au Ak Vp;go_wp2
   go_round
   case rel=>exact⟨i+1,by omega,by go_num,by rw[oJ HX.e,al1];rfl⟩
   case measure=>simp[ϗ];omega
  ·obtain rfl:i=q:=by omega
   go_wp2;go_ret;exact⟨aX (by rw[List.take_of_length_le (Agw E2.e)]),rfl⟩
def EL(b:ao)(L:an)(i:Nat):Bool:=match b.pieces[i]? with
 |some p=>bX (L.at i) p.len.lo p.len.hi
 |none=>θ
def yW(b:ao)(n:Nat)(L:an):Bool:=(Agm n).all (EL b L) && Pw L b.aJ
def ahU{b:ao}{L:an}{pv bv tv lv:υ}{w:Ψ}{B:Nat}(hb:bg w B b pv bv tv)(hB:B<=w.heap.size)(hl:Row w B 1 cH lv (sx b.pieces.length L))(hv:Valid b)(hL:L.Ok):
 ύ prog 152 #[η #[ξ κ b.ag,pv,bv,tv],lv] w λe w'=>e=Ω (.bool (yW b b.pieces.length L))/\Γ w.heap.size w w':=by
 obtain⟨A1,n1,c1,rfl,e1,h1,eA,r1⟩:=hb.pieces.Φ;obtain⟨A2,n2,c2,rfl,-⟩:=hb.aF.Φ;obtain⟨A3,n3,c3,rfl,e3,h3,rD,r3⟩:=hb.aJ.Φ;have Uz:=hl;obtain⟨A,m,c,rfl,e2,h2,dW,r2⟩:=hl.Φ;rw[Bp,e1] at e2;obtain rfl:=e2;unfold ϕ at eA dW rD;have lQ:n1<=3:=by have:=hv.np;omega
 have htp:Hid (∀t∈b.aJ,(∀k∈t.pieces,0<=k/\k<n1)/\t.pieces.length<=3):=ψ λt ht=>⟨λk hk=>by have:=(hv.tape t ht).1 k hk;omega,by have:=(hv.tape t ht).2;omega⟩
 have E1:=ψ e1;have E3:=ψ e3;have R1:=ψ r1;have R2:=ψ r2;have R3:=ψ r3;have HL:=ψ hL;have HR:=ψ Uz;clear hb hl Uz e1 e3 r1 r2 r3 hL hv;go_enter func152,Tryz.ntmps152;go_wp2;have KB:Hid (Bk (w.alloc (Ξ #[ξ κ b.ag,ζ A1 n1 c1,ζ A2 n2 c2,ζ A3 n3 c3] 26)) w.heap.size 26 #[ξ κ b.ag,ζ A1 n1 c1,ζ A2 n2 c2,ζ A3 n3 c3]):=ψ (Bk.new _ _ _);go_loopw [5] (λk wr=>∃i:Nat,i<=n1/\k=ξ κ i/\(∀j,j<i->EL b L j=θ)/\Γ (w.heap.size+1) (w.alloc (Ξ #[ξ κ b.ag,ζ A1 n1 c1,ζ A2 n2 c2,ζ A3 n3 c3] 26)) wr) (λk _=>n1 - (ϗ k).toNat)
 case atStart=>exact⟨0,ϟ _,rfl,λj hj=>by omega,by have:=ώ (w.heap.size+1) (w.alloc (Ξ #[ξ κ b.ag,ζ A1 n1 c1,ζ A2 n2 c2,ζ A3 n3 c3] 26));exact this⟩
 case round=>
  obtain⟨i,hi,rfl,bt,cF⟩:=hrel;have HA:=ψ bt;have HB:=ψ cF;have kb:=KB.e.below cF (by simp)
  have f1: wr.cell? ⟨w.heap.size,1,ν⟩=φ (ζ A1 n1 c1):=kb.cell 1;have f3: wr.cell? ⟨w.heap.size,3,ν⟩=φ (ζ A3 n3 c3):=kb.cell 3;have aI:w.heap.size+1<=wr.heap.size:=by have:=cF.size;simpa using this
  have st:Δ B w wr:=((Δ.refl w).alloc hB _).trans (Δ.aK cF (by omega))
  by_cases al:i<n1
  ·obtain⟨ad,p,cs,rfl,aC,hp,⟨rfl,-⟩,-,au⟩:=R1.e i al
   obtain⟨Cs,x,bh,rfl,adT,hx,rfl,-,Ak⟩:=R2.e i al;rw[E0 L (by rw[E1.e];exact al)] at hx
   cases hx;have g1:=bK au st aC 0 rfl;have g2:=bK au st aC 1 rfl;have g0:=cC Ak st adT rfl;rw[Agx] at g0;have NA:(i:Int)<n1:=by omega
   have rR:EL b L i=bX (L.at i) p.len.lo p.len.hi:=by unfold EL;rw[hp]
   have Re:=ψ rR;have ST:=ψ st;clear au Ak hp bt cF kb rR st;cases dL:bX (L.at i) p.len.lo p.len.hi with
   |false=>
    have HF:Hid (yW b b.pieces.length L=χ):=ψ (by
     unfold yW;rw[Aic];refine Or.inl (List.all_eq_false.2 ⟨i,by rw[E1.e];exact Ahv.2 al,by rw[Re.e,dL];simp⟩))
    go_wp2;go_quiet (first| (go_at_call 62;exact Aif ((lg _ _ _ _).mono λe w' h=>⟨h.1,h.2.symm⟩)))
    go_wp2;go_ret;exact⟨b9 HF.e.symm,jq (iH HB.e) _⟩
   |true=>
    go_wp2;go_quiet (first| (go_at_call 62;exact Aif ((lg _ _ _ _).mono λe w' h=>⟨h.1,h.2.symm⟩)))
    go_wp2;go_roundw;case rel=>exact⟨i+1,by omega,by go_num,λj hj=>by
     rcases Agv.1 hj with h|rfl
     ·exact HA.e j h
     ·rw[Re.e,dL],jq HB.e _⟩
    case measure=>simp[ϗ];omega
  ·obtain rfl:i=n1:=by omega
   rename Ψ=>w1
   have HS:Hid ((Agm b.pieces.length).all (EL b L)=θ):=ψ (List.all_eq_true.2 λj hj=>HA.e j (by rw[E1.e] at hj;exact Ahv.1 hj))
   clear bt cF kb st;go_wp2;go_loopw [6] (λk wr=>∃i:Nat,i<=n3/\k=ξ κ i/\(∀(j:Nat) (t:Tape),j<i->b.aJ[j]?=φ t->FO L t=χ)/\Γ (w.heap.size+1) w1 wr) (λk _=>n3 - (ϗ k).toNat)
   case atStart=>exact⟨0,ϟ _,rfl,λj t hj=>by omega,ώ _ _⟩
   case round=>
    obtain⟨k,hk,rfl,bt,Hc⟩:=hrel;have L2:=ψ bt;have F4:=ψ (HB.e.trans Hc);have HQ:=ψ Hc;have kb:=KB.e.below F4.e (by simp)
    have f3: wr.cell? ⟨w.heap.size,3,ν⟩=φ (ζ A3 n3 c3):=kb.cell 3;have D2:w.heap.size+1<=wr.heap.size:=by have:=Hc.size;omega
    have BC:Δ B w wr:=((Δ.refl w).alloc hB _).trans (Δ.aK F4.e (by omega))
    by_cases al:k<n3
    ·obtain⟨ad,t,cs,rfl,aC,ht,⟨pv,rfl,pd⟩,-,au⟩:=R3.e k al
     have RO:=htp.e t (Ϭ ht);have U6:=pd.still BC (R':=cH) λ_ _ h=>h
     obtain⟨A5,n5,c5,rfl,e5,-⟩:=pd.Φ;have g0:=cC au BC aC rfl;have g1:=bK au BC aC 0 rfl;have g2:=bK au BC aC 1 rfl;have NA:(k:Int)<n3:=by omega
     have HT:=ψ ht;have M9:=ψ RO;have HPR:=ψ U6;have Ze:=ψ BC;have CS:Hid (∀n:Nat,ύ prog 77 #[ζ A i c,ζ A5 n5 c5] ((wr.alloc (Ξ #[ζ A5 n5 c5,ξ κ t.sum.lo,ξ κ t.sum.hi] 95)).drewN n) λe w'=>e=Ω (ξ κ (sg L t.pieces))/\w'=(wr.alloc (Ξ #[ζ A5 n5 c5,ξ κ t.sum.lo,ξ κ t.sum.hi] 95)).drewN n):=ψ λn=>by
      have q:Δ B w ((wr.alloc (Ξ #[ζ A5 n5 c5,ξ κ t.sum.lo,ξ κ t.sum.hi] 95)).drewN n):=(Ze.e.alloc (by omega) _).trans (Δ.aK (jq (ώ B _) n) (ϊ _))
      exact(af5 (n:=b.pieces.length) (HR.e.still q λ_ _ h=>h) ((HPR.e.still (Δ.refl _) λ_ _ h=>h).still (((Δ.refl wr).alloc (by omega) _).trans (Δ.aK (jq (ώ B _) n) (ϊ _))) λ_ _ h=>h) (by rw[E1.e];exact M9.e.1) (by have:=M9.e.2;omega) HL.e).mono λe w' h=>⟨h.1,h.2.symm⟩
     clear au ht RO pd U6 BC bt Hc kb e5;cases hw:bX (sg L t.pieces) t.sum.lo t.sum.hi with
     |false=>
      have HF:Hid (yW b b.pieces.length L=χ):=ψ (by
       unfold yW Pw;rw[Lp HT.e (show FO L t=θ by unfold FO;rw[hw];rfl)];simp)
      go_wp2;go_quiet (first| (go_at_call 62;exact Aif ((lg _ _ _ _).mono λe w' h=>⟨h.1,h.2.symm⟩)) | (go_at_call 77;exact Aif (CS.e _)))
      go_wp2;go_ret;exact⟨b9 HF.e.symm,jq ((iH F4.e).alloc (by omega) _) _⟩
     |true=>
      go_wp2;go_quiet (first| (go_at_call 62;exact Aif ((lg _ _ _ _).mono λe w' h=>⟨h.1,h.2.symm⟩)) | (go_at_call 77;exact Aif (CS.e _)))
      go_wp2;go_roundw;case rel=>exact⟨k+1,by omega,by go_num,λj u hj hu=>by
       rcases Agv.1 hj with h|rfl
       ·exact L2.e j u h hu
       ·rw[HT.e] at hu;cases hu;unfold FO;rw[hw];rfl,jq (HQ.e.alloc (by omega) _) _⟩
      case measure=>simp[ϗ];omega
    ·obtain rfl:k=n3:=by omega
     have HW:Hid (yW b b.pieces.length L=θ):=ψ (by
      unfold yW Pw;rw[HS.e,Lo E3.e (λj t hj ht=>L2.e j t hj ht)];rfl)
     clear bt Hc kb BC;go_wp2;go_ret;exact⟨b9 HW.e.symm,iH F4.e⟩
def EP(b:ao)(i:Nat)(ls:List an):List an:=match b.pieces[i]? with
 |some p=>ls.flatMap λL=>(mR p.len).map λk=>L.set i k
 |none=> []
def sd(b:ao):Nat->List an
 |0=> [⟨0,0,0⟩]
 |i+1=>EP b i (sd b i)
def aiy{α β γ:Type}(l:List α)(f:α->List β)(g:β->List γ):(l.flatMap f).flatMap g=l.flatMap λx=>(f x).flatMap g:=by
 induction l with
 |nil=>rfl
 |cons a l ih=>simp[Agt,ih]
def ait{α:Type}(p:α->Bool)(l:List α):l.filter p=l.flatMap λx=>if p x then [x] else []:=by
 induction l with
 |nil=>rfl
 |cons a l ih=>by_cases h:p a<;>simp[List.filter_cons,h,ih]
def adO{b:ao}:∀(f i:Nat),i+f=b.pieces.length->(sd b (i+f)).filter (λL=>Pw L b.aJ)=(sd b i).flatMap (eu b f i)
 |0,i,_=>by rw[ait];rfl
 |f+1,i,h=>by
  have e:i+(f+1)=(i+1)+f:=by omega
  have hi:i<b.pieces.length:=by omega
  obtain⟨p,hp⟩:∃p,b.pieces[i]?=φ p:=⟨_,Af9 hi⟩
  rw[e,adO f (i+1) (by omega)]
  show(EP b i (sd b i)).flatMap _=_;unfold EP;rw[hp];simp only;rw[aiy];congr 1;funext L;rw[R7 hp,List.flatMap_map]
def adN(b:ao):(sd b b.pieces.length).filter (λL=>Pw L b.aJ)=aD b:=by
 have:=adO (b:=b) b.pieces.length 0 (by omega)
 rw[Aiq] at this;rw[this];simp[sd,aD]
def Lw{L:an}{i j:Nat}{k:Int}(hi:i<3):(L.set i k).at j=if j=i\/(i=2/\2<=j) then k else L.at j:=by
 unfold an.set an.at;rcases(by omega:i=0\/i=1\/i=2) with rfl|rfl|rfl
 ·rcases(by omega:j=0\/j=1\/2<=j) with rfl|rfl|h
  ·simp
  ·simp
  ·simp[show j≠0 by omega,show j≠1 by omega]
 ·rcases(by omega:j=0\/j=1\/2<=j) with rfl|rfl|h
  ·simp
  ·simp
  ·simp[show j≠0 by omega,show j≠1 by omega]
 ·rcases(by omega:j=0\/j=1\/2<=j) with rfl|rfl|h
  ·simp
  ·simp
  ·simp[show j≠0 by omega,show j≠1 by omega,h]
def ap1{s:Span}{k:Int}(h:k∈mR s):s.lo<=k/\k<=s.hi:=by
 unfold mR at h;obtain⟨j,hj,rfl⟩:=Ahu.1 h;have:=Ahv.1 hj;omega
def Yo{b:ao}(hv:Valid b):∀i,i<=b.pieces.length->∀L∈sd b i,L.Ok/\∀j,j<i->EL b L j=θ
 |0,_,L,hL=>by
  simp[sd] at hL;subst hL;exact⟨λq=>by unfold an.at;simp,λj hj=>by omega⟩
 |i+1,hi,L,hL=>by
  obtain⟨p,hp⟩:∃p,b.pieces[i]?=φ p:=⟨_,Af9 (by omega)⟩
  have fZ:i<3:=by have:=hv.np;omega
  simp only[sd,EP,hp] at hL;obtain⟨M,hM,hL⟩:=Aik.1 hL;obtain⟨k,hk,rfl⟩:=Ahu.1 hL;obtain⟨h1,h2⟩:=Yo hv i (by omega) M hM
  have rH:=ap1 hk;have AD:=hv.piece p (Ϭ hp);have l0:=AD.lo;have l1:=AD.hi;refine⟨λq=>?_,λj hj=>?_⟩
  ·rw[Lw fZ]
   split
   ·omega
   ·exact h1 q
  ·rcases Agv.1 hj with h|rfl
   ·have:=h2 j h
    unfold EL at this |-
    rw[Lw fZ,if_neg (by omega)]
    exact this
   ·unfold EL
    rw[hp,Lw fZ,if_pos (Or.inl rfl)];simp[bX,rH.1,rH.2]
end Go.Tw
namespace Go.Tw
variable [Go.Tw.aR]
open Go Go.Proofs Go.RowKit
end Go.Tw
namespace Go.Tw
variable [Go.Tw.aR]
open Go Go.Proofs Go.RowKit
end Go.Tw
namespace Go.Tw
variable [Go.Tw.aR]
open Go Go.Proofs Go.RowKit
def ahT(s:Int)(c d:Cut)(n m:Int):nv s d c m n=nv s c d n m:=by
 unfold nv;by_cases h:c.bp=d.bp
 ·rw[Aid]
  simp[h,or_comm]
 ·have h':d.bp≠c.bp:=λe=>h e.symm
  rw[Aid];simp[h,h']
def aix{b:ao}{L:an}{l:List Cut}{pv bv tv sv lv:υ}{w:Ψ}{B:Nat}(hb:bg w B b pv bv tv)(hs:Row w B 1 cH sv (sx b.pieces.length L))(hl:Row w B 2 Cut.R lv l)(hB:B<=w.heap.size)
 (hlen:l.length=b.pieces.length)(ij:b.pieces.length<=3)(dh:∀(i:Nat) (c:Cut),l[i]?=φ c->oO b c)(hL:L.Ok)(vy:0<=b.ag/\b.ag<=1000):
 ύ prog 111 #[η #[ξ κ b.ag,pv,bv,tv],sv,lv] w λe w'=>e=Ω (.bool (fp b L l))/\Γ w.heap.size w w':=by
 have bT:=ψ hb;obtain⟨A1,n1,c1,rfl,e1,h1,eA,-⟩:=hb.pieces.Φ;obtain⟨A2,nb,c2,rfl,eb,h2,dW,-⟩:=hb.aF.Φ;obtain⟨A3,n3,c3,rfl,-⟩:=hb.aJ.Φ;obtain⟨A,m,c,rfl,e2,h3,rD,hr⟩:=hl.Φ;obtain⟨A5,n5,c5,rfl,e5,h5,GW,U9⟩:=hs.Φ;rw[Bp,<-hlen,e2] at e5;obtain rfl:=e5;unfold ϕ at eA dW rD;have RL:m<=3:=by omega
 have E2:=ψ e2;have EN:=ψ hlen;have H2:=ψ hr;have H5:=ψ U9;have OK:=ψ dh;have HL:=ψ hL;have YX:=ψ vy;obtain⟨W0,z8⟩:∃W0,W0=w.alloc (Ξ #[ξ κ b.ag,ζ A1 n1 c1,ζ A2 nb c2,ζ A3 n3 c3] 26):=⟨_,rfl⟩
 have Z0:W0.heap.size=w.heap.size+1:=by rw[z8];simp
 have BW:Hid (Γ w.heap.size w W0):=ψ (by rw[z8];exact(ώ _ _).alloc (ϊ _) _)
 have KB:Hid (Bk W0 w.heap.size 26 #[ξ κ b.ag,ζ A1 n1 c1,ζ A2 nb c2,ζ A3 n3 c3]):=ψ (by rw[z8];exact Bk.new _ _ _)
 have S0:Hid (Δ B w W0):=ψ (by rw[z8];exact(Δ.refl w).alloc hB _)
 clear hb hl e1 eb e2 hr dh hL vy hlen ij hs U9;go_enter func111,Tryz.ntmps111;go_wp2;rw[<-z8];clear z8;go_loopw [7] (λk wr=>∃i:Nat,i<=m/\k=ξ κ i/\(∀j:Nat,j<i->td b L l j=θ)/\Γ (w.heap.size+1) W0 wr) (λk _=>m - (ϗ k).toNat)
 case atStart=>exact⟨0,ϟ _,rfl,λj hj=>by omega,ώ _ _⟩
 case round=>
  rename Ψ=>wo
  obtain⟨i,hi,rfl,bt,hb⟩:=hrel;have M8:=ψ bt;have HB:=ψ hb;have aI:=hb.size;have kb:=KB.e.below hb (by omega)
  have f0:=kb.cell 0;have f1:=kb.cell 1;have f2:=kb.cell 2;have f3:=kb.cell 3;have st:Δ B w wo:=S0.e.trans (Δ.aK hb (by omega))
  have ST:=ψ st;by_cases al:i<m
  ·obtain⟨ad,x,cs,rfl,aC,hx,rfl,-,au⟩:=H2.e i al
   obtain⟨ad5,y,O7,rfl,abe,hy,rfl,-,QK⟩:=H5.e i al;rw[E0 L (by rw[<-EN.e,E2.e];exact al)] at hy
   cases hy;have g0:=cC QK st abe rfl;rw[Agx] at g0;have ok:=OK.e i x hx;obtain⟨bd,fr⟩:=x;obtain⟨k,hk,da⟩:=ok.bp;obtain rfl:bd=(k:Int):=hk;have b7:0<=fr/\fr<=40:=ok.from_;have h0:=cC au st aC rfl;have h1:=bK au st aC 0 rfl;have HX:=ψ hx;obtain⟨p,hp⟩:∃p,b.pieces[i]?=φ p:=⟨_,Af9 (by have:=E2.e;have:=EN.e;omega)⟩
   obtain⟨bx,rE⟩:∃bx,b.aF[k]?=φ bx:=⟨_,Af9 da⟩
   have Nz:AW b i (L.at i) ⟨k,fr⟩=tR bx p.bears (L.at i) ⟨k,fr⟩:=by unfold AW;simp[hp,rE]
   have KN:=ψ Nz;have call:ύ prog 167 #[η #[ξ κ b.ag,ζ A1 n1 c1,ζ A2 nb c2,ζ A3 n3 c3],ξ κ i,ξ κ (L.at i),η #[ξ κ k,ξ κ fr]] wo.drew
    λe w'=>e=Ω (.bool (tR bx p.bears (L.at i) ⟨k,fr⟩))/\Γ wo.drew.heap.size wo.drew w':=
    aoi (B:=B) (bT.e.still λq hq=>st q hq) (by simp;omega) hp rE ⟨b7.1,by omega⟩ (HL.e i)
   have aB:=ψ call;have NA:(i:Int)<m:=by omega
   clear call hp rE Nz st bt hb hx au QK ok kb;obtain⟨q1,tH⟩:∃q,q=tR bx p.bears (L.at i) ⟨k,fr⟩:=⟨_,rfl⟩
   rw[<-tH] at aB KN;clear tH;go_wp2;refine ua 10 (by kernel_rfl) (by kernel_rfl) ?_
   simp only[Agi,Agj,Agk,Agl];repeat still_step
   refine Aha ?_
   cases q1 with
   |false=>
    go_wp2_with (first
     | (go_at_call 167;refine aB.e.mono ?_;rintro e w1 ⟨rfl,ae⟩;have dO:=ψ (HB.e.trans ((iU ae).mono (show w.heap.size+1<=wo.heap.size by omega)));clear ae))
    go_ret;refine⟨b9 ?_,BW.e.trans (dO.e.mono (by omega))⟩
    unfold fp;rw[E2.e]
    exact(Gn al (by unfold td;rw[HX.e];simp[KN.e])).symm
   |true=>
    go_wp2_with (first
     | (go_at_call 167;refine aB.e.mono ?_;rintro e w1 ⟨rfl,ae⟩;have dO:=ψ (HB.e.trans ((iU ae).mono (show w.heap.size+1<=wo.heap.size by omega)));clear ae))
    go_loopw [8] (λz W=>∃j:Nat,j<=i/\z=ξ κ j/\(∀q:Nat,q<j->rm b L l i ⟨k,fr⟩ q=θ)/\Γ (w.heap.size+1) W0 W) (λz _=>i - (ϗ z).toNat)
    case atStart=>exact⟨0,ϟ _,rfl,λj hj=>by omega,dO.e⟩
    case round=>
     rename Ψ=>wq
     obtain⟨j,hj,rfl,TU,xG⟩:=hrel;have L2:=ψ TU;have dV:=ψ xG;have afE:=xG.size;have kb:=KB.e.below xG (by omega)
     have f0:=kb.cell 0;have f1:=kb.cell 1;have f2:=kb.cell 2;have f3:=kb.cell 3;have st:Δ B w wq:=S0.e.trans (Δ.aK xG (by omega))
     by_cases nE:j<i
     ·obtain⟨Cs,x,bh,kX,adT,hx,rfl,-,au⟩:=H2.e i al
      cases kX;rw[HX.e] at hx;cases hx;obtain⟨Cs,y,bh,kX,adT,hy,rfl,-,Ak⟩:=H2.e j (by omega)
      cases kX;obtain⟨PG,z,O7,kX,abk,hz,rfl,-,QK⟩:=H5.e i al;cases kX;rw[E0 L (by rw[<-EN.e,E2.e];exact al)] at hz
      cases hz;obtain⟨PG,z,O7,kX,abk,hz,rfl,-,Dd⟩:=H5.e j (by omega)
      cases kX;rw[E0 L (by rw[<-EN.e,E2.e];omega)] at hz
      cases hz;have Wp:=OK.e j y hy;obtain⟨mn,iJ⟩:=y;have my:0<=iJ/\iJ<=40:=Wp.from_;have h0:=cC au st aC rfl;have h1:=bK au st aC 0 rfl;have PY:=cC Ak st aC rfl;have eA:=bK Ak st aC 0 rfl;have g5:=cC QK st abe rfl;have g6:=cC Dd st abe rfl;rw[Agx] at g5 g6;have HY:=ψ hy;have aq2:(j:Int)<i:=by omega
      have U2:j<m:=by omega
      have abT:(j:Int)<m:=by omega
      clear xG hy au Ak QK Dd Wp st TU kb;have Ae:rm b L l i ⟨k,fr⟩ j=nv b.ag ⟨mn,iJ⟩ ⟨k,fr⟩ (L.at j) (L.at i):=by unfold rm;rw[HY.e,ahT]
      have Bj:=ψ Ae;clear Ae;have call:∀W:Ψ,ύ prog 168 #[η #[ξ κ b.ag,ζ A1 n1 c1,ζ A2 nb c2,ζ A3 n3 c3],η #[ξ κ mn,ξ κ iJ],η #[ξ κ k,ξ κ fr],ξ κ (L.at j),ξ κ (L.at i)] W
           λe w'=>e=Ω (.bool (nv b.ag ⟨mn,iJ⟩ ⟨k,fr⟩ (L.at j) (L.at i)))/\Γ W.heap.size W w':=λW=>
          ahS (c:=⟨mn,iJ⟩) (d:=⟨k,fr⟩) YX.e.1 YX.e.2 (HL.e j).1 (HL.e j).2 (HL.e i).1 (HL.e i).2 my.1 (by have:=my.2;show iJ<=1000;omega) b7.1 (by have:=b7.2;show fr<=1000;omega)
      have uv:=ψ call;clear call;obtain⟨q2,tI⟩:∃q,q=nv b.ag ⟨mn,iJ⟩ ⟨k,fr⟩ (L.at j) (L.at i):=⟨_,rfl⟩
      rw[<-tI] at uv Bj;clear tI;go_wp2;refine ua 17 (by kernel_rfl) (by kernel_rfl) ?_
      simp only[Agi,Agj,Agk,Agl];repeat still_step
      refine Aha ?_
      cases q2 with
      |false=>
       go_wp2_with (first
           | (go_at_call 168;refine(uv.e _).mono ?_;rintro e w2 ⟨rfl,ak⟩;have cy:=ψ (dV.e.trans ((iU ak).mono (show w.heap.size+1<=wq.heap.size by omega)));clear ak))
       go_ret;refine⟨b9 ?_,BW.e.trans (cy.e.mono (by omega))⟩
       unfold fp;rw[E2.e]
       refine(Gn al ?_).symm
       unfold td;rw[HX.e]
       simp only[KN.e,Bool.true_and];exact Gn nE Bj.e
      |true=>
       go_wp2_with (first
           | (go_at_call 168;refine(uv.e _).mono ?_;rintro e w2 ⟨rfl,ak⟩;have cy:=ψ (dV.e.trans ((iU ak).mono (show w.heap.size+1<=wq.heap.size by omega)));clear ak))
       go_roundw;case rel=>exact⟨j+1,by omega,by go_num,λq hq=>by
           rcases Agv.1 hq with h|rfl
           ·exact L2.e q h
           ·exact Bj.e,cy.e⟩
       case measure=>simp[ϗ];omega
     ·obtain rfl:j=i:=by omega
      clear xG;go_wp2;go_roundw;case rel=>exact⟨j+1,by omega,by go_num,λq hq=>by
          rcases Agv.1 hq with h|rfl
          ·exact M8.e q h
          ·unfold td;rw[HX.e];simp only[KN.e,Bool.true_and];exact oi.2 L2.e,dV.e⟩
      case measure=>simp[ϗ];omega
  ·obtain rfl:i=m:=by omega
   clear hb;go_wp2;go_ret;refine⟨b9 ?_,BW.e.trans (HB.e.mono (by omega))⟩
   unfold fp;rw[E2.e];exact(oi.2 M8.e).symm
end Go.Tw
namespace Go.Tw
variable [Go.Tw.aR]
open Go Go.Proofs Go.RowKit
end Go.Tw
namespace Go.Tw
variable [Go.Tw.aR]
open Go Go.Proofs Go.RowKit
end Go.Tw
namespace Go.Tw
variable [Go.Tw.aR]
open Go Go.Proofs Go.RowKit
end Go.Tw
namespace Go.Tw
variable [Go.Tw.aR]
open Go Go.Proofs Go.RowKit
end Go.Tw
namespace Go.Tw
variable [Go.Tw.aR]
open Go Go.Proofs Go.RowKit
end Go.Tw
namespace Go.Tw
variable [Go.Tw.aR]
open Go Go.Proofs Go.RowKit
end Go.Tw
namespace Go.Tw
variable [Go.Tw.aR]
open Go Go.Proofs Go.RowKit
def SA{L M:an}(h:∀j,j<3->L.at j=M.at j):L=M:=by
 have h0:L.a=M.a:=h 0 (by omega)
 have h1:L.b=M.b:=h 1 (by omega)
 have h2:L.c=M.c:=h 2 (by omega)
 cases L;cases M
 simp_all
def anQ{s:Span}{k:Int}(h1:s.lo<=k)(h2:k<=s.hi):k∈mR s:=by
 unfold mR;exact Ahu.2 ⟨(k - s.lo).toNat,Ahv.2 (by omega),by omega⟩
def O3{b:ao}(hv:Valid b):∀i,i<=b.pieces.length->∀L:an,(∀j,j<i->EL b L j=θ)->(∀j,i<=j->j<3->L.at j=0)->L∈sd b i
 |0,_,L,_,h0=>by
  simp only[sd,List.mem_singleton];exact SA λj hj=>by
   rw[h0 j (by omega) hj]
   unfold an.at;simp
 |i+1,hi,L,h1,h0=>by
  obtain⟨p,hp⟩:∃p,b.pieces[i]?=φ p:=⟨_,Af9 (by omega)⟩
  have fZ:i<3:=by have:=hv.np;omega
  have hM:=O3 hv i (by omega) (L.set i 0) (λj hj=>by
   have:=h1 j (by omega)
   unfold EL at this |-
   rw[Lw fZ,if_neg (by omega)]
   exact this) (λj hj DE=>by
   rw[Lw fZ];split
   ·rfl
   ·exact h0 j (by omega) DE)
  have hk:=h1 i (by omega)
  unfold EL at hk;rw[hp] at hk;have hk:=nJ hk;simp only[sd,EP,hp];refine Aik.2 ⟨_,hM,Ahu.2 ⟨L.at i,anQ hk.1 hk.2,?_⟩⟩
  refine SA λj hj=>?_
  rw[Lw fZ];split
  ·rename_i h
   rcases h with rfl| ⟨rfl,h⟩
   ·rfl
   ·rw[show j=2 by omega]
  ·rw[Lw fZ,if_neg (by assumption)]
def Sc(l:List Int){k:Nat}(hk:k<3):(fK l).at k=l[k]?.getD 0:=by
 have:k=0\/k=1\/k=2:=by omega
 rcases this with rfl|rfl|rfl<;>rfl
def RZ{l:List Int}{n:Nat}(hl:l.length=n)(hn:n<=3):sx n (fK l)=l:=by
 apply List.ext_getElem?;intro k;by_cases hk:k<n
 ·rw[E0 _ hk,Sc _ (by omega),Af9 (by omega)];rfl
 ·rw[Ahz (by rw[Bp];omega),Ahz (by omega)]
def abS{b:ao}(hv:Valid b){l:List Int}(hl:l.length=b.pieces.length):fK l∈aD b↔yW b b.pieces.length (fK l)=θ:=by
 rw[<-adN];unfold yW;have hn:=hv.np;rw[List.mem_filter,Aa3,List.all_eq_true];refine and_congr_left λ_=>⟨λh j hj=>(Yo hv _ (ϊ _) _ h).2 j (Ahv.1 hj),λh=>O3 hv _ (ϊ _) _ (λj hj=>h j (Ahv.2 hj)) λj hj DE=>?_⟩
 rw[Sc _ DE,Ahz (by omega)];rfl
def zq(x:bR)(N:Nat)(s:List Span×Int)(i:Nat):List Span×Int:=
 if i<N/\lh x.cM (i:Int) i=0 then s else(if s.2<i then s.1++ [⟨s.2,(i:Int) - 1⟩] else s.1,(i:Int)+1)
def oL(x:bR)(N:Nat):Nat->List Span×Int
 |0=>([],0)
 |n+1=>zq x N (oL x N n) n
def ahJ(l:List Span)(x:Span):fq (l++ [x])=j5 (fq l) x:=by
 unfold fq;rw[List.foldl_append];rfl
def Bn(x:bR)(n:Nat)(s:List Span×Int):Prop:=0<=s.2/\s.2<=n/\(∀y∈s.1,y.hi+1<s.2)/\fq (jv x n)=s.1++(if s.2<n then [⟨s.2,(n:Int) - 1⟩] else [])
def adu{x:bR}{N n:Nat}{s:List Span×Int}(h:Bn x n s)(hn:n<N):Bn x (n+1) (zq x N s n):=by
 obtain⟨h0,h1,h2,h3⟩:=h;obtain⟨out,fr⟩:=s;simp only at h0 h1 h2 h3;unfold Bn;rw[ac0];unfold zq;by_cases hm:lh x.cM (n:Int) n=0
 ·rw[if_pos hm,ahJ,h3,if_pos ⟨hn,hm⟩]
  refine⟨h0,by simp only;omega,h2,?_⟩
  simp only;by_cases al:fr<n
  ·rw[if_pos al,if_pos (by omega)]
   unfold j5;simp only[List.getLast?_append,List.getLast?_singleton,Option.some_or]
   rw[if_pos (by omega)]
   simp
  ·have e:fr=n:=by omega
   rw[if_neg al,List.append_nil,if_pos (by omega)]
   unfold j5;cases hl: out.getLast? with
   |none=>simp[e]
   |some y=>
    have hy:=h2 y (List.mem_of_getLast? hl);simp only;rw[if_neg (by omega)]
    simp[e]
 ·rw[if_neg hm,List.append_nil,if_neg (λh=>hm h.2),h3]
  simp only;refine⟨by omega,by omega,λy hy=>?_,?_⟩
  ·by_cases al:fr<n
   ·rw[if_pos al] at hy
    rcases List.mem_append.1 hy with hy|hy
    ·have:=h2 y hy;omega
    ·rw[List.mem_singleton.1 hy];simp only;omega
   ·rw[if_neg al] at hy
    have:=h2 y hy;omega
  ·by_cases al:fr<n
   ·rw[if_pos al,if_pos al,if_neg (by omega)];simp
   ·rw[if_neg al,if_neg al,if_neg (by omega)]
def F2(x:bR)(N:Nat):∀n,n<=N->Bn x n (oL x N n)
 |0,_=>by simp[Bn,oL,jv,fq]
 |n+1,hn=>adu (F2 x N n (by omega)) (by omega)
def ads(x:bR):(oL x x.aH.toNat (x.aH.toNat+1)).1=GB x:=by
 obtain⟨h0,h1,h2,h3⟩:=F2 x x.aH.toNat x.aH.toNat (ϊ _);show(zq x _ (oL x _ _) _).1=_;unfold GB;rw[h3];unfold zq;rw[if_neg (by omega)]
 simp only;split<;>simp
def Bl(x:bR)(bears:Int)(fr:Nat)(m:Int)(k:Nat):Int:=if lh x.cM fr ((fr:Int)+(k+1:Nat) - 1)<=bears then max m ((k:Int)+1) else m
def ey(x:bR)(bears:Int)(fr:Nat)(m:Int):Nat->Int
 |0=>m
 |k+1=>Bl x bears fr (ey x bears fr m k) k
def Am(x:bR)(bears:Int)(N:Nat):Nat->Int
 |0=>0
 |fr+1=>ey x bears fr (Am x bears N fr) (N - fr)
def aiz(ks:List Span){a b c:Int}(h:b<=c):lh ks a b<=lh ks a c:=by
 unfold lh;have:(ks.filter (Ex a b)).length<=(ks.filter (Ex a c)).length:=by
  induction ks with
  |nil=>simp
  |cons k l ih=>
   simp only[List.filter_cons];by_cases h1:Ex a b k=θ
   ·have h2:Ex a c k=θ:=by
       unfold Ex at h1 |-
       simp at h1 |-
       omega
    rw[if_pos h1,if_pos h2];simp only[Af5];omega
   ·rw[if_neg h1]
    split
    ·simp only[Af5];omega
    ·exact ih
 omega
def SP(x:bR)(bears:Int)(fr:Nat)(m:Int){k:Nat}(hk:bears<lh x.cM fr ((fr:Int)+(k+1:Nat) - 1)):∀d,ey x bears fr m (k+d)=ey x bears fr m k
 |0=>rfl
 |d+1=>by
  show Bl x bears fr (ey x bears fr m (k+d)) (k+d)=_;unfold Bl;rw[if_neg,SP x bears fr m hk d];have:=aiz x.cM (a:=fr) (b:=(fr:Int)+(k+1:Nat) - 1) (c:=(fr:Int)+(k+d+1:Nat) - 1) (by omega)
  omega
def SI(x:bR)(bears:Int)(N fr:Nat)(hf:fr<=N)(m:Int):∀s,s<=N - fr->vI x bears N fr s (ey x bears fr m (N - fr - s))=ey x bears fr m (N - fr)
 |0,_=>by unfold vI;rw[Nat.sub_zero]
 |s+1,hs=>by
  have ih:=SI x bears N fr hf m s (by omega)
  have e:N - fr - s=(N - fr - (s+1))+1:=by omega
  obtain⟨k,hk⟩:∃k,k=N - fr - (s+1):=⟨_,rfl⟩
  rw[<-hk] at e;have eq1:(N:Int) - (s+1:Nat)=(fr:Int)+(k+1:Nat) - 1:=by omega
  unfold vI;rw[eq1,<-hk];split
  ·rename_i h
   have:=SP x bears fr m (k:=k) (by omega) (s+1)
   rw[show N - fr=k+(s+1) by omega,this]
  ·rename_i h
   rw[e] at ih;have e2:ey x bears fr m (k+1)=max (ey x bears fr m k) ((fr:Int)+(k+1:Nat) - 1 - fr+1):=by
    show Bl x bears fr (ey x bears fr m k) k=_;unfold Bl;rw[if_pos (by omega)]
    congr 1;omega
   rw[<-e2];exact ih
def KT(x:bR)(bears:Int)(N:Nat):∀fr,fr<=N->Am x bears N fr=vJ x bears N fr
 |0,_=>rfl
 |fr+1,h=>by
  have ih:=KT x bears N fr (by omega)
  have:=SI x bears N fr (by omega) (Am x bears N fr) (N - fr) (ϊ _)
  rw[Nat.sub_self] at this;show ey x bears fr (Am x bears N fr) (N - fr)=vI x bears N fr (N - fr) (vJ x bears N fr);rw[<-this,ih];rfl
def sS(b:ao)(k:Int):List Span:=if et b k=0 then(match b.aF[k.toNat]? with|some x=>GB x|none=> []) else []
def EM{b:ao}{k:Int}(h:eo b k=0):∃(i:Nat) (x:bR),k=i/\b.aF[i]?=φ x:=by
 unfold eo at h;split at h
 ·rename_i h2
  have h3:=nJ h2;exact⟨k.toNat,_,by omega,Af9 (by omega)⟩
 ·cases h
def adn{b:ao}{k:Int}(h:et b k=0):dF b=0/\eo b k=0:=by
 unfold et at h;split at h
 ·contradiction
 ·rename_i h1
  exact⟨by simpa using h1,h⟩
def adi{w:Ψ}{b:ao}{k:Int}{pv bv tv:υ}{B:Nat}(hB:B<=w.heap.size)(ai:bg w B b pv bv tv):
 ύ prog 47 #[η #[ξ κ b.ag,pv,bv,tv],ξ κ k] w λe w'=>∃v,e=Ω (μ #[v,ξ κ (et b k)])/\w'.ownsRow w.heap.size 37 2 v (sS b k).length ((sS b k).flatMap Span.vs)/\Γ w.heap.size w w':=by
 by_cases h:et b k=0
 ·obtain⟨hc,hb⟩:=adn h
  obtain⟨i,x,rfl,hx⟩:=EM hb;have e:sS b (i:Int)=GB x:=by unfold sS;rw[if_pos h];simp[hx]
  rw[h,e];exact aaz hB ai hc hx
 ·have e:sS b k=[]:=by unfold sS;rw[if_neg h]
  rw[e];exact(ado hB ai h).mono λe w' ⟨h1,h2⟩=>⟨_,h1,⟨rfl,.inl ⟨rfl,rfl⟩⟩,h2⟩
def adk{w:Ψ}{b:ao}{k:Int}{pv bv tv:υ}{B:Nat}(hB:B<=w.heap.size)(ai:bg w B b pv bv tv):
 ύ prog 70 #[η #[ξ κ b.ag,pv,bv,tv],ξ κ k] w λe w'=>∃v,e=Ω (μ #[v,ξ κ (et b k)])/\w'.ownsRow w.heap.size 37 2 v (sS b k).length ((sS b k).flatMap Span.vs)/\Γ w.heap.size w w':=by
 have bT:=ψ ai;obtain⟨A1,n1,c1,rfl,-⟩:=ai.pieces.Φ;obtain⟨A2,n2,c2,rfl,e2,h2,dW,r2⟩:=ai.aF.Φ;obtain⟨A3,n3,c3,rfl,-⟩:=ai.aJ.Φ;unfold ϕ at dW;have aB:=ψ (ajY (bT.e.still ((Δ.refl w).alloc hB (Ξ #[ξ κ b.ag,ζ A1 n1 c1,ζ A2 n2 c2,ζ A3 n3 c3] 26))) (by simp;omega))
 have CB:Hid (∀w',ύ prog 129 #[η #[ξ κ b.ag,ζ A1 n1 c1,ζ A2 n2 c2,ζ A3 n3 c3],ξ κ k] w' λe bq=>e=Ω (.bool (bX k 0 ((n2:Int) - 1)))/\Γ w'.heap.size w' bq):=ψ λw'=>adt (by omega) w'
 by_cases hc:dF b=0
 ·rw[hc] at aB
  have hv:=iy hc;cases hi:bX k 0 ((n2:Int) - 1) with
  |false=>
   rw[hi] at CB;have tZ:eo b k=6:=by unfold eo;rw[e2,hi];rfl
   have fg:et b k=6:=by unfold et;rw[if_neg (by simpa using hc),tZ]
   have HK:Hid (et b k=6/\sS b k=[]):=ψ ⟨fg,by unfold sS;rw[if_neg (by rw[fg];decide)]⟩
   clear ai r2 hc hv tZ fg e2 hi;go_enter func70,Tryz.ntmps70;go_wp2_with (first
     | (go_at_call 69;refine aB.e.mono ?_;rintro e w1 ⟨rfl,ae⟩
        have kb:Bk w1 w.heap.size 26 #[ξ κ b.ag,ζ A1 n1 c1,ζ A2 n2 c2,ζ A3 n3 c3]:=(Bk.new w _ _).below ae (by simp)
        have b0:=kb.cell 0;have b1:=kb.cell 1;have b2:=kb.cell 2;have b3:=kb.cell 3;have aY:=ψ (cU (ώ _ _) ae (ϊ _));clear kb ae)
     | (go_at_call 129;refine(CB.e _).mono ?_;rintro e w2 ⟨rfl,ak⟩
        have dV:=ψ (aY.e.trans (ak.mono aY.e.size));clear ak))
   go_ret2
   exact⟨_,CH rfl HK.e.1.symm,by rw[HK.e.2];exact⟨rfl,.inl ⟨rfl,rfl⟩⟩,dV.e⟩
  |true=>
   rw[hi] at CB;have tZ:eo b k=0:=by unfold eo;rw[e2,hi];rfl
   have fg:et b k=0:=by unfold et;rw[if_neg (by simpa using hc),tZ]
   obtain⟨kn,x,rfl,hx⟩:=EM tZ;have hk:kn<n2:=by have:=(ϸ.1 hx).1;omega
   have rH:(kn:Int)<n2:=by omega
   have HK:Hid (et b (kn:Int)=0/\sS b (kn:Int)=GB x):=ψ ⟨fg,by unfold sS;rw[if_pos fg];simp[hx]⟩
   have va:=hv.bp x (Ϭ hx);obtain⟨cI,x',jQ,rfl,bI,jz,⟨kv,rfl,UY,dj⟩,-,ef⟩:=r2 kn hk;obtain rfl:x'=x:=by rw[jz] at hx;exact Option.some.inj hx
   obtain⟨A4,n4,c4,rfl,-⟩:=dj.Φ;have st:=Δ.refl (B:=B) w;have b0:=cC ef st bI rfl;have b1:=bK ef st bI 0 rfl;have b2:=bK ef st bI 1 rfl;have HC:=ψ (ϑ b0 (ϑ b1 b2));have yV:=ψ dj;have rL:=va.aH;obtain⟨N,hN⟩:∃N:Nat,x'.aH=N:=⟨x'.aH.toNat,by omega⟩
   have Br:x'.aH.toNat=N:=by omega
   have HN:=ψ (ϑ hN Br);have sQ:Hid ((cI.add (kn * 3)).block<w.heap.size):=ψ (by rw[cq];omega)
   rw[hN] at rL;have Z1:Hid (∀i,i<=N->Bn x' i (oL x' N i)):=ψ λi hi=>F2 x' N i hi
   obtain⟨i0,cR,cT,aN,ba⟩:=Ag7 VE;have HI:=ψ (ϑ cR (ϑ cT (ϑ aN ba)));clear ai r2 hc hv tZ fg e2 hi hx jz ef dj cR cT aN ba b0 b1 b2 st va Br;go_enter func70,Tryz.ntmps70;go_wp2_with (first
     | (go_at_call 69;refine aB.e.mono ?_;rintro e w1 ⟨rfl,ae⟩
        have kb:=ψ ((Bk.new w 26 #[ξ κ b.ag,ζ A1 n1 c1,ζ (φ cI) n2 c2,ζ A3 n3 c3]).below ae (by simp))
        have b0: w1.cell? ⟨w.heap.size,0,ν⟩=φ (ξ κ b.ag):=kb.e.cell 0;have b1: w1.cell? ⟨w.heap.size,1,ν⟩=φ (ζ A1 n1 c1):=kb.e.cell 1;have b2: w1.cell? ⟨w.heap.size,2,ν⟩=φ (ζ (φ cI) n2 c2):=kb.e.cell 2;have b3: w1.cell? ⟨w.heap.size,3,ν⟩=φ (ζ A3 n3 c3):=kb.e.cell 3;have aY:=ψ (cU (ώ _ _) ae (ϊ _));clear ae)
     | (go_at_call 129;refine(CB.e _).mono ?_;rintro e w2 ⟨rfl,ak⟩
        have cF:=aY.e.trans (ak.mono aY.e.size);have dV:=ψ cF;have e2: w2.cell? ⟨w.heap.size,2,ν⟩=φ (ζ (φ cI) n2 c2):=(kb.e.below ak kb.e.lt).cell 2;have d0: w2.cell? (cI.add (kn * 3))=φ (.string x'.name):=(cF.cell sQ.e).trans HC.e.1;have d1: w2.cell? ⟨(cI.add (kn * 3)).block,(cI.add (kn * 3)).off+(0+1),ν⟩=φ (ξ κ x'.aH):=(cF.cell (p:=⟨(cI.add (kn * 3)).block,(cI.add (kn * 3)).off+(0+1),ν⟩) sQ.e).trans HC.e.2.1;have d2: w2.cell? ⟨(cI.add (kn * 3)).block,(cI.add (kn * 3)).off+(1+1),ν⟩=φ (ζ A4 n4 c4):=(cF.cell (p:=⟨(cI.add (kn * 3)).block,(cI.add (kn * 3)).off+(1+1),ν⟩) sQ.e).trans HC.e.2.2;rw[HN.e.1] at d1;clear ak cF b0 b1 b2 b3))
   have z2:=dV.e.size;obtain⟨W3,iL⟩:∃W3,W3=w2.alloc (Ξ #[.string x'.name,ξ κ N,ζ A4 n4 c4] 59):=⟨_,rfl⟩
   have KX:Hid (Bk W3 w2.heap.size 59 #[.string x'.name,ξ κ N,ζ A4 n4 c4]):=ψ (by rw[iL];exact Bk.new _ _ _)
   have B3:Hid (Γ w2.heap.size w2 W3):=ψ (by rw[iL];exact(ώ _ _).alloc (ϊ _) _)
   have Z3:W3.heap.size=w2.heap.size+1:=by rw[iL];simp
   rw[<-iL];clear iL d0 d1 d2 e2;go_loopw [8,9,10] (λo p u wr=>∃i:Nat,i<=N+1/\u=ξ κ i/\p=ξ κ (oL x' N i).2/\Hid (wr.ownsRow (w2.heap.size+1) 37 2 o (oL x' N i).1.length ((oL x' N i).1.flatMap Span.vs))/\Hid ((oL x' N i).1.length<=i)/\Γ (w2.heap.size+1) W3 wr) (λ_ _ u _=>N+1 - (ϗ u).toNat)
   case atStart=>exact⟨0,ϟ _,rfl,rfl,ψ ⟨by simp[oL],.inl ⟨rfl,by simp[oL]⟩⟩,ψ (ϟ _),ώ _ _⟩
   case round=>
     rename Ψ=>wr
     obtain⟨i,hi,rfl,rfl,aG,hlen,hb⟩:=hrel;have HB:=ψ hb;have zr:=hb.size;have kx:=KX.e.below hb (by omega)
     have k0: wr.cell? ⟨w2.heap.size,0,ν⟩=φ (.string x'.name):=kx.cell 0;have k1: wr.cell? ⟨w2.heap.size,1,ν⟩=φ (ξ κ N):=kx.cell 1;have k2: wr.cell? ⟨w2.heap.size,2,ν⟩=φ (ζ A4 n4 c4):=kx.cell 2;clear kx;by_cases hle:i<=N
     ·have aeX:(i:Int)<=N:=by omega
      have T6:=Z1.e i hle;have pb:=T6.1;have Un:=T6.2.1;clear T6;have NX:Hid (oL x' N (i+1)=zq x' N (oL x' N i) i):=ψ rfl;have rJ:=hlen.e;obtain⟨s,hs⟩:∃s,s=oL x' N i:=⟨_,rfl⟩
      rw[<-hs] at aG pb Un NX rJ |-
      obtain⟨out,fr⟩:=s;simp only at aG pb Un rJ |-
      clear hs;have CM:Hid (ύ prog 148 #[η #[.string x'.name,ξ κ N,ζ A4 n4 c4],ξ κ i,ξ κ 1] wr λe w'=>e=Ω (ξ κ (lh x'.cM i i))/\Γ wr.heap.size wr w'):=ψ (by
       have:=aoZ (nm:=x'.name) (aH:=N) (f:=i) (g:=1) (w:=wr) (B:=w.heap.size) ((yV.e.more hB).still (Δ.aK (dV.e.trans ((B3.e.mono (by omega)).trans (hb.mono (by omega)))) (ϊ _)) λ_ _ h=>h) (by omega) (by omega) (by omega) (by omega) (by omega)
       rwa[show(i:Int)+1 - 1=i by omega] at this)
      obtain⟨m,hm⟩:∃m,m=lh x'.cM (i:Int) i:=⟨_,rfl⟩
      rw[<-hm] at CM;have HM:=ψ hm;clear hm hb;by_cases al:i<N
      ·have NA:(i:Int)<N:=by omega
       by_cases DN:m=0
       ·subst DN
        have X2:Hid (oL x' N (i+1)=(out,fr)):=ψ (by rw[NX.e];unfold zq;rw[if_pos ⟨al,HM.e.symm⟩])
        go_wp2_with (first
            | (go_at_call 148;refine CM.e.mono ?_;rintro e w4 ⟨rfl,cO⟩
               have jK:=ψ cO;clear cO))
        go_roundw;case rel=>exact⟨i+1,by omega,by go_num,by rw[X2.e],by rw[X2.e];exact ψ (qO aG.e jK.e (ϊ _)),by rw[X2.e];exact ψ (by simp only;omega),HB.e.trans (jK.e.mono (by omega))⟩
        case measure=>simp[ϗ];omega
       ·have hmz:(m==0)=χ:=by simpa using DN
        have Bs:Hid (¬(i<N/\lh x'.cM (i:Int) i=0)):=ψ λh=>DN (HM.e.trans h.2)
        clear DN;by_cases b7:fr<i
        ·have X2:Hid (oL x' N (i+1)=(out++ [⟨fr,(i:Int) - 1⟩],(i:Int)+1)):=ψ (by rw[NX.e];unfold zq;rw[if_neg Bs.e];simp only;rw[if_pos b7])
         go_wp2_with (first
             | (go_at_call 148;refine CM.e.mono ?_;rintro e w4 ⟨rfl,cO⟩
                have jK:=ψ cO;clear cO)
             | (at_builtin
                refine Ahb _ rfl (.tmp 44) (.tmp 49) 57 rfl (w2.heap.size+1) 37 i0 (η #[ξ κ 0,ξ κ 0]) 2 16 (U Tryz.underlying57) HI.e.1 HI.e.2.1 HI.e.2.2.1 HI.e.2.2.2 rfl (by decide) _ out.length _ rfl ((qO aG.e jK.e (ϊ _)).alloc _) ⟨w4.heap.size,0,ν⟩ 1 1 [ξ κ fr,ξ κ ((i:Int) - 1)] rfl rfl ?c1 ?c2 ?c3 ?c4 ?c5 ?_
                case c1=>(intro j u hu;match j,hu with|0,hu=>(simp at hu;subst hu;simp[go_sem,Addr.add]) |1,hu=>(simp at hu;subst hu;simp[go_sem,Addr.add]))
                case c2=>simp[Value.oneCell']
                case c3=>(simp only[ϕ];omega)
                case c4=>omega
                case c5=>(have:=jK.e.size;simp;omega)
                intro v' w5 cK dT _;have gW:=ψ cK;have dI:=ψ dT;clear cK dT))
         go_roundw;case rel=>exact⟨i+1,by omega,by go_num,by rw[X2.e],by rw[X2.e];exact ψ (by rw[Af6,Agt];exact gW.e),by rw[X2.e];exact ψ (by simp;omega),
             (HB.e.trans ((jK.e.alloc jK.e.size _).mono (by omega))).grown dI.e (by have:=jK.e.size;simp;omega) (λk hk=>ei aG.e k hk)⟩
         case measure=>simp[ϗ];omega
        ·have X2:Hid (oL x' N (i+1)=(out,(i:Int)+1)):=ψ (by rw[NX.e];unfold zq;rw[if_neg Bs.e];simp only;rw[if_neg b7])
         go_wp2_with (first
             | (go_at_call 148;refine CM.e.mono ?_;rintro e w4 ⟨rfl,cO⟩
                have jK:=ψ cO;clear cO))
         go_roundw;case rel=>exact⟨i+1,by omega,by go_num,by rw[X2.e],by rw[X2.e];exact ψ (qO aG.e jK.e (ϊ _)),by rw[X2.e];exact ψ (by simp only;omega),HB.e.trans (jK.e.mono (by omega))⟩
         case measure=>simp[ϗ];omega
      ·obtain rfl:i=N:=by omega
       have Bs:Hid (¬(i<i/\lh x'.cM (i:Int) i=0)):=ψ λh=>by omega
       by_cases b7:fr<i
       ·have X2:Hid (oL x' i (i+1)=(out++ [⟨fr,(i:Int) - 1⟩],(i:Int)+1)):=ψ (by rw[NX.e];unfold zq;rw[if_neg Bs.e];simp only;rw[if_pos b7])
        go_wp2_with (first
            | (at_builtin
               refine Ahb _ rfl (.tmp 44) (.tmp 49) 57 rfl (w2.heap.size+1) 37 i0 (η #[ξ κ 0,ξ κ 0]) 2 16 (U Tryz.underlying57) HI.e.1 HI.e.2.1 HI.e.2.2.1 HI.e.2.2.2 rfl (by decide) _ out.length _ rfl (aG.e.alloc _) ⟨wr.heap.size,0,ν⟩ 1 1 [ξ κ fr,ξ κ ((i:Int) - 1)] rfl rfl ?c1 ?c2 ?c3 ?c4 ?c5 ?_
               case c1=>(intro j u hu;match j,hu with|0,hu=>(simp at hu;subst hu;simp[go_sem,Addr.add]) |1,hu=>(simp at hu;subst hu;simp[go_sem,Addr.add]))
               case c2=>simp[Value.oneCell']
               case c3=>(simp only[ϕ];omega)
               case c4=>omega
               case c5=>(simp;omega)
               intro v' w5 cK dT _;have gW:=ψ cK;have dI:=ψ dT;clear cK dT))
        go_roundw;case rel=>exact⟨i+1,by omega,by go_num,by rw[X2.e],by rw[X2.e];exact ψ (by rw[Af6,Agt];exact gW.e),by rw[X2.e];exact ψ (by simp;omega),
            (HB.e.alloc (by omega) _).grown dI.e (by simp;omega) (λk hk=>ei aG.e k hk)⟩
        case measure=>simp[ϗ]
       ·have X2:Hid (oL x' i (i+1)=(out,(i:Int)+1)):=ψ (by rw[NX.e];unfold zq;rw[if_neg Bs.e];simp only;rw[if_neg b7])
        go_wp2;go_roundw;case rel=>exact⟨i+1,by omega,by go_num,by rw[X2.e],by rw[X2.e];exact aG,by rw[X2.e];exact ψ (by simp only;omega),HB.e⟩
        case measure=>simp[ϗ]
     ·obtain rfl:i=N+1:=by omega
      have aeX:¬ (((N+1:Nat):Int)<=N):=by omega
      have e:(oL x' N (N+1)).1=GB x':=by
       have:=ads x';rw[HN.e.2] at this;exact this
      go_wp2
      go_ret2
      refine⟨_,CH rfl HK.e.1.symm,?_,dV.e.trans ((B3.e.mono (by omega)).trans (HB.e.mono (by omega)))⟩
      rw[HK.e.2,<-e];exact aG.e.base (by omega)
 ·obtain⟨c,cX⟩:∃c,c=dF b:=⟨_,rfl⟩
  have fg:et b k=c:=by unfold et;rw[if_pos hc,cX]
  rw[<-cX] at aB hc;have hz:(c !=0)=θ:=by simpa using hc
  have HK:Hid (et b k=c/\sS b k=[]):=ψ ⟨fg,by unfold sS;rw[if_neg (by rw[fg];exact hc)]⟩
  clear cX hc fg ai r2 e2;go_enter func70,Tryz.ntmps70;go_wp2_with (first
   | (go_at_call 69;refine aB.e.mono ?_;rintro e w1 ⟨rfl,ae⟩
      have aY:=ψ (cU (ώ _ _) ae (ϊ _));clear ae))
  go_ret2
  exact⟨_,CH rfl HK.e.1.symm,by rw[HK.e.2];exact⟨rfl,.inl ⟨rfl,rfl⟩⟩,aY.e⟩
def wF(b:ao)(k bears:Int):Int:=if cu b k bears=0 then(match b.aF[k.toNat]? with|some x=>Im x bears|none=>0) else 0
def ahR{b:ao}{k bears:Int}(h:cu b k bears=0):dF b=0/\eo b k=0/\bX bears 0 2=θ:=by
 unfold cu at h;split at h
 ·contradiction
 ·rename_i h1
  split at h
  ·contradiction
  ·rename_i h2
   unfold Bq at h;split at h
   ·rename_i h3
    exact⟨by simpa using h1,by simpa using h2,h3⟩
   ·cases h
def ahP{w:Ψ}{b:ao}{k bears:Int}{pv bv tv:υ}{B:Nat}(hB:B<=w.heap.size)(ai:bg w B b pv bv tv):
 ύ prog 48 #[η #[ξ κ b.ag,pv,bv,tv],ξ κ k,ξ κ bears] w λe w'=>e=Ω (μ #[ξ κ (wF b k bears),ξ κ (cu b k bears)])/\Γ w.heap.size w w':=by
 by_cases h:cu b k bears=0
 ·obtain⟨hc,hb,hi⟩:=ahR h
  obtain⟨i,x,rfl,hx⟩:=EM hb;have e:wF b (i:Int) bears=Im x bears:=by unfold wF;rw[if_pos h];simp[hx]
  rw[h,e];exact V0 hB ai hc hx hi
 ·have e:wF b k bears=0:=by unfold wF;rw[if_neg h]
  rw[e];exact ah7 hB ai h
def SE(x:bR)(bears:Int)(fr:Nat){m:Int}(h0:0<=m)(h1:m<=40):∀k,k<=40->0<=ey x bears fr m k/\ey x bears fr m k<=40
 |0,_=>⟨h0,h1⟩
 |k+1,hk=>by
  have ih:=SE x bears fr h0 h1 k (by omega)
  show 0<=Bl x bears fr (ey x bears fr m k) k/\Bl x bears fr (ey x bears fr m k) k<=40;unfold Bl;split<;>omega
def ahQ{w:Ψ}{b:ao}{k bears:Int}{pv bv tv:υ}{B:Nat}(hB:B<=w.heap.size)(ai:bg w B b pv bv tv):
 ύ prog 71 #[η #[ξ κ b.ag,pv,bv,tv],ξ κ k,ξ κ bears] w λe w'=>e=Ω (μ #[ξ κ (wF b k bears),ξ κ (cu b k bears)])/\Γ w.heap.size w w':=by
 have bT:=ψ ai;obtain⟨A1,n1,c1,rfl,-⟩:=ai.pieces.Φ;obtain⟨A2,n2,c2,rfl,e2,h2,dW,r2⟩:=ai.aF.Φ;obtain⟨A3,n3,c3,rfl,-⟩:=ai.aJ.Φ;unfold ϕ at dW;have aB:=ψ (ajY (bT.e.still ((Δ.refl w).alloc hB (Ξ #[ξ κ b.ag,ζ A1 n1 c1,ζ A2 n2 c2,ζ A3 n3 c3] 26))) (by simp;omega))
 have CB:Hid (∀w',ύ prog 129 #[η #[ξ κ b.ag,ζ A1 n1 c1,ζ A2 n2 c2,ζ A3 n3 c3],ξ κ k] w' λe bq=>e=Ω (.bool (bX k 0 ((n2:Int) - 1)))/\Γ w'.heap.size w' bq):=ψ λw'=>adt (by omega) w'
 by_cases hc:dF b=0
 ·rw[hc] at aB
  have hv:=iy hc;cases hi:bX k 0 ((n2:Int) - 1) with
  |false=>
   rw[hi] at CB;have tZ:eo b k=6:=by unfold eo;rw[e2,hi];rfl
   have fg:cu b k bears=6:=by unfold cu;rw[if_neg (by simpa using hc),tZ];rfl
   have HK:Hid (cu b k bears=6/\wF b k bears=0):=ψ ⟨fg,by unfold wF;rw[if_neg (by rw[fg];decide)]⟩
   clear ai r2 hc hv tZ fg e2 hi;go_enter func71,Tryz.ntmps71;go_wp2_with (first
     | (go_at_call 69;refine aB.e.mono ?_;rintro e w1 ⟨rfl,ae⟩
        have kb:=ψ ((Bk.new w 26 #[ξ κ b.ag,ζ A1 n1 c1,ζ A2 n2 c2,ζ A3 n3 c3]).below ae (by simp))
        have b0: w1.cell? ⟨w.heap.size,0,ν⟩=φ (ξ κ b.ag):=kb.e.cell 0;have b1: w1.cell? ⟨w.heap.size,1,ν⟩=φ (ζ A1 n1 c1):=kb.e.cell 1;have b2: w1.cell? ⟨w.heap.size,2,ν⟩=φ (ζ A2 n2 c2):=kb.e.cell 2;have b3: w1.cell? ⟨w.heap.size,3,ν⟩=φ (ζ A3 n3 c3):=kb.e.cell 3;have aY:=ψ (cU (ώ _ _) ae (ϊ _));clear ae)
     | (go_at_call 129;refine(CB.e _).mono ?_;rintro e w2 ⟨rfl,ak⟩
        have dV:=ψ (aY.e.trans (ak.mono aY.e.size));clear ak))
   go_ret2
   exact⟨I0 HK.e.2.symm HK.e.1.symm,dV.e⟩
  |true=>
   rw[hi] at CB;have tZ:eo b k=0:=by unfold eo;rw[e2,hi];rfl
   cases MQ:bX bears 0 2 with
   |false=>
    have fg:cu b k bears=1:=by unfold cu;rw[if_neg (by simpa using hc),tZ,if_neg (by simp)];unfold Bq;rw[MQ];rfl
    have HK:Hid (cu b k bears=1/\wF b k bears=0):=ψ ⟨fg,by unfold wF;rw[if_neg (by rw[fg];decide)]⟩
    have CI:Hid (∀w',ύ prog 62 #[ξ κ bears,ξ κ 0,ξ κ 2] w' λe bq=>e=Ω (.bool χ)/\w'=bq):=ψ λw'=>(lg bears 0 2 w').mono λe bq h=>⟨by rw[h.1,MQ],h.2⟩
    clear ai r2 hc hv tZ fg e2 hi MQ;go_enter func71,Tryz.ntmps71;go_wp2_with (first
      | (go_at_call 69;refine aB.e.mono ?_;rintro e w1 ⟨rfl,ae⟩
         have kb:=ψ ((Bk.new w 26 #[ξ κ b.ag,ζ A1 n1 c1,ζ A2 n2 c2,ζ A3 n3 c3]).below ae (by simp))
         have b0: w1.cell? ⟨w.heap.size,0,ν⟩=φ (ξ κ b.ag):=kb.e.cell 0;have b1: w1.cell? ⟨w.heap.size,1,ν⟩=φ (ζ A1 n1 c1):=kb.e.cell 1;have b2: w1.cell? ⟨w.heap.size,2,ν⟩=φ (ζ A2 n2 c2):=kb.e.cell 2;have b3: w1.cell? ⟨w.heap.size,3,ν⟩=φ (ζ A3 n3 c3):=kb.e.cell 3;have aY:=ψ (cU (ώ _ _) ae (ϊ _));clear ae)
      | (go_at_call 129;refine(CB.e _).mono ?_;rintro e w2 ⟨rfl,ak⟩
         have dV:=ψ (aY.e.trans (ak.mono aY.e.size));clear ak)
      | (go_at_call 62;refine(CI.e _).mono ?_;rintro e w3 ⟨rfl,rfl⟩))
    go_ret2
    exact⟨I0 HK.e.2.symm HK.e.1.symm,dV.e⟩
   |true=>
   have fg:cu b k bears=0:=by unfold cu;rw[if_neg (by simpa using hc),tZ,if_neg (by simp)];unfold Bq;rw[MQ];rfl
   have CI:Hid (∀w',ύ prog 62 #[ξ κ bears,ξ κ 0,ξ κ 2] w' λe bq=>e=Ω (.bool θ)/\w'=bq):=ψ λw'=>(lg bears 0 2 w').mono λe bq h=>⟨by rw[h.1,MQ],h.2⟩
   obtain⟨kn,x,rfl,hx⟩:=EM tZ;have hk:kn<n2:=by have:=(ϸ.1 hx).1;omega
   have rH:(kn:Int)<n2:=by omega
   have HK:Hid (cu b (kn:Int) bears=0/\wF b (kn:Int) bears=Im x bears):=ψ ⟨fg,by unfold wF;rw[if_pos fg];simp[hx]⟩
   have va:=hv.bp x (Ϭ hx);obtain⟨cI,x',jQ,rfl,bI,jz,⟨kv,rfl,UY,dj⟩,-,ef⟩:=r2 kn hk;obtain rfl:x'=x:=by rw[jz] at hx;exact Option.some.inj hx
   obtain⟨A4,n4,c4,rfl,-⟩:=dj.Φ;have st:=Δ.refl (B:=B) w;have b0:=cC ef st bI rfl;have b1:=bK ef st bI 0 rfl;have b2:=bK ef st bI 1 rfl;have HC:=ψ (ϑ b0 (ϑ b1 b2));have yV:=ψ dj;have rL:=va.aH;obtain⟨N,hN⟩:∃N:Nat,x'.aH=N:=⟨x'.aH.toNat,by omega⟩
   have Br:x'.aH.toNat=N:=by omega
   have HN:=ψ (ϑ hN Br);have sQ:Hid ((cI.add (kn * 3)).block<w.heap.size):=ψ (by rw[cq];omega)
   rw[hN] at rL;have LA:Hid (Am x' bears N N=Im x' bears):=ψ (by unfold Im;rw[Br];exact KT x' bears N N (ϊ _))
   have LB:Hid (∀fr,fr<=N->0<=Am x' bears N fr/\Am x' bears N fr<=40):=ψ λfr b7=>by rw[KT x' bears N fr b7];exact ahk x' bears N (by omega) fr b7
   clear ai r2 hc hv tZ fg e2 hi hx jz ef dj b0 b1 b2 st va Br MQ;go_enter func71,Tryz.ntmps71;go_wp2_with (first
     | (go_at_call 69;refine aB.e.mono ?_;rintro e w1 ⟨rfl,ae⟩
        have kb:=ψ ((Bk.new w 26 #[ξ κ b.ag,ζ A1 n1 c1,ζ (φ cI) n2 c2,ζ A3 n3 c3]).below ae (by simp))
        have b0: w1.cell? ⟨w.heap.size,0,ν⟩=φ (ξ κ b.ag):=kb.e.cell 0;have b1: w1.cell? ⟨w.heap.size,1,ν⟩=φ (ζ A1 n1 c1):=kb.e.cell 1;have b2: w1.cell? ⟨w.heap.size,2,ν⟩=φ (ζ (φ cI) n2 c2):=kb.e.cell 2;have b3: w1.cell? ⟨w.heap.size,3,ν⟩=φ (ζ A3 n3 c3):=kb.e.cell 3;have aY:=ψ (cU (ώ _ _) ae (ϊ _));clear ae)
     | (go_at_call 129;refine(CB.e _).mono ?_;rintro e w2 ⟨rfl,ak⟩
        have cF:=aY.e.trans (ak.mono aY.e.size);have dV:=ψ cF;have e2: w2.cell? ⟨w.heap.size,2,ν⟩=φ (ζ (φ cI) n2 c2):=(kb.e.below ak kb.e.lt).cell 2;have d0: w2.cell? (cI.add (kn * 3))=φ (.string x'.name):=(cF.cell sQ.e).trans HC.e.1;have d1: w2.cell? ⟨(cI.add (kn * 3)).block,(cI.add (kn * 3)).off+(0+1),ν⟩=φ (ξ κ x'.aH):=(cF.cell (p:=⟨(cI.add (kn * 3)).block,(cI.add (kn * 3)).off+(0+1),ν⟩) sQ.e).trans HC.e.2.1;have d2: w2.cell? ⟨(cI.add (kn * 3)).block,(cI.add (kn * 3)).off+(1+1),ν⟩=φ (ζ A4 n4 c4):=(cF.cell (p:=⟨(cI.add (kn * 3)).block,(cI.add (kn * 3)).off+(1+1),ν⟩) sQ.e).trans HC.e.2.2;rw[HN.e.1] at d1;clear ak cF b0 b1 b2 b3)
     | (go_at_call 62;refine(CI.e _).mono ?_;rintro e w9 ⟨rfl,rfl⟩))
   have z2:=dV.e.size;obtain⟨W3,iL⟩:∃W3,W3=w2.alloc (Ξ #[.string x'.name,ξ κ N,ζ A4 n4 c4] 59):=⟨_,rfl⟩
   have KX:Hid (Bk W3 w2.heap.size 59 #[.string x'.name,ξ κ N,ζ A4 n4 c4]):=ψ (by rw[iL];exact Bk.new _ _ _)
   have B3:Hid (Γ w2.heap.size w2 W3):=ψ (by rw[iL];exact(ώ _ _).alloc (ϊ _) _)
   have Z3:W3.heap.size=w2.heap.size+1:=by rw[iL];simp
   rw[<-iL];clear iL d0 d1 d2 e2;go_loopw [10,11] (λp u wr=>∃fr:Nat,fr<=N/\u=ξ κ fr/\p=ξ κ (Am x' bears N fr)/\Γ (w2.heap.size+1) W3 wr) (λ_ u _=>N - (ϗ u).toNat)
   case atStart=>exact⟨0,ϟ _,rfl,rfl,ώ _ _⟩
   case round=>
     rename Ψ=>W4
     obtain⟨fr,b7,rfl,rfl,hb⟩:=hrel;have HB:=ψ hb;have z4:=hb.size;have kx:=ψ (KX.e.below hb (by omega))
     have k1: W4.cell? ⟨w2.heap.size,1,ν⟩=φ (ξ κ N):=kx.e.cell 1;by_cases al:fr<N
     ·have NA:(fr:Int)<N:=by omega
      have tE:=LB.e fr b7;have NX:Hid (Am x' bears N (fr+1)=ey x' bears fr (Am x' bears N fr) (N - fr)):=ψ rfl;obtain⟨m,hm⟩:∃m,m=Am x' bears N fr:=⟨_,rfl⟩
      rw[<-hm] at tE NX |-
      clear hm hb;obtain⟨DN,rM⟩:=tE;go_wp2;go_loopw [10,12] (λp u wr=>∃q:Nat,q<=N - fr/\u=ξ κ ((q+1:Nat):Int)/\p=ξ κ (ey x' bears fr m q)/\Γ (w2.heap.size+1) W3 wr) (λ_ u _=>N+1 - (ϗ u).toNat)
      case atStart=>exact⟨0,ϟ _,rfl,rfl,HB.e⟩
      case round=>
       rename Ψ=>W5
       obtain⟨q,hq,rfl,rfl,hb⟩:=hrel;have mi:=ψ hb;have z5:=hb.size;have Ke:=ψ (KX.e.below hb (by omega))
       have k0: W5.cell? ⟨w2.heap.size,0,ν⟩=φ (.string x'.name):=Ke.e.cell 0;have k1: W5.cell? ⟨w2.heap.size,1,ν⟩=φ (ξ κ N):=Ke.e.cell 1;have k2: W5.cell? ⟨w2.heap.size,2,ν⟩=φ (ζ A4 n4 c4):=Ke.e.cell 2;have JY:=SE x' bears fr DN rM q (by omega)
       have Ec:ϛ.wrap ((fr:Int)+((q+1:Nat):Int))=(fr:Int)+((q+1:Nat):Int):=IntWalk.i64_in _ (by omega)
       by_cases hqn:q+1<=N - fr
       ·have afL:(fr:Int)+((q+1:Nat):Int)<=N:=by omega
        have CM:Hid (ύ prog 148 #[η #[.string x'.name,ξ κ N,ζ A4 n4 c4],ξ κ fr,ξ κ ((q+1:Nat):Int)] W5 λe w'=>e=Ω (ξ κ (lh x'.cM fr ((fr:Int)+((q+1:Nat):Int) - 1)))/\Γ W5.heap.size W5 w'):=ψ (aoZ (nm:=x'.name) (aH:=N) (f:=fr) (g:=((q+1:Nat):Int)) (w:=W5) (B:=w.heap.size) ((yV.e.more hB).still (Δ.aK (dV.e.trans ((B3.e.mono (by omega)).trans (hb.mono (by omega)))) (ϊ _)) λ_ _ h=>h) (by omega) (by omega) (by omega) (by omega) (by omega))
        have B5:Hid (ey x' bears fr m (q+1)=if lh x'.cM fr ((fr:Int)+((q+1:Nat):Int) - 1)<=bears then max (ey x' bears fr m q) (((q+1:Nat):Int)) else ey x' bears fr m q):=ψ rfl
        obtain⟨v,hv⟩:∃v,v=lh x'.cM fr ((fr:Int)+((q+1:Nat):Int) - 1):=⟨_,rfl⟩
        obtain⟨p,hp⟩:∃p,p=ey x' bears fr m q:=⟨_,rfl⟩
        rw[<-hv] at CM B5;rw[<-hp] at B5 JY |-
        clear hv hp hb;obtain⟨hp0,ea⟩:=JY;by_cases RP:v<=bears
        ·have Fh:Hid (ey x' bears fr m (q+1)=max p (((q+1:Nat):Int))):=ψ (by rw[B5.e,if_pos RP])
         go_wp2_with (first
            | (go_at_call 148;refine CM.e.mono ?_;rintro e w6 ⟨rfl,fI⟩
               have gU:=ψ fI;clear fI))
         go_roundw;case rel=>exact⟨q+1,by omega,by go_num,by rw[Fh.e];rfl,mi.e.trans (gU.e.mono (by omega))⟩
         case measure=>simp[ϗ];omega
        ·have Fh:Hid (ey x' bears fr m (q+1)=p):=ψ (by rw[B5.e,if_neg RP])
         go_wp2_with (first
            | (go_at_call 148;refine CM.e.mono ?_;rintro e w6 ⟨rfl,fI⟩
               have gU:=ψ fI;clear fI))
         go_roundw;case rel=>exact⟨q+1,by omega,by go_num,by rw[Fh.e],mi.e.trans (gU.e.mono (by omega))⟩
         case measure=>simp[ϗ];omega
       ·obtain rfl:q=N - fr:=by omega
        have afL:¬ ((fr:Int)+((N - fr+1:Nat):Int)<=N):=by omega
        rw[<-NX.e];clear hb;go_wp2;go_roundw;case rel=>exact⟨fr+1,by omega,by go_num,rfl,mi.e⟩
        case measure=>simp[ϗ];omega
     ·obtain rfl:fr=N:=by omega
      rw[LA.e];clear hb;go_wp2
      go_ret2
      exact⟨I0 HK.e.2.symm HK.e.1.symm,dV.e.trans ((B3.e.mono (by omega)).trans (HB.e.mono (by omega)))⟩
 ·obtain⟨c,cX⟩:∃c,c=dF b:=⟨_,rfl⟩
  have fg:cu b k bears=c:=by unfold cu;rw[if_pos hc,cX]
  rw[<-cX] at aB hc;have hz:(c !=0)=θ:=by simpa using hc
  have HK:Hid (cu b k bears=c/\wF b k bears=0):=ψ ⟨fg,by unfold wF;rw[if_neg (by rw[fg];exact hc)]⟩
  clear cX hc fg ai r2 e2;go_enter func71,Tryz.ntmps71;go_wp2_with (first
   | (go_at_call 69;refine aB.e.mono ?_;rintro e w1 ⟨rfl,ae⟩
      have aY:=ψ (cU (ώ _ _) ae (ϊ _));clear ae))
  go_ret2
  exact⟨I0 HK.e.2.symm HK.e.1.symm,aY.e⟩
def anJ(a b:Int):scan (λ_ s=>s) [] [a,b]=if a≠0 then a else b:=by
 unfold scan;by_cases h:a=0
 ·rw[if_neg (by simpa using h),if_neg (by simpa using h)]
  unfold scan;by_cases h2:b=0
  ·rw[if_neg (by simpa using h2),h2];rfl
  ·rw[if_pos h2]
 ·rw[if_pos h,if_pos h]
def z7(b:ao)(l:List Int)(kD:List Cut):Bool:=if xa b l kD=0 then fp b (fK l) kD else χ
def adI{w:Ψ}{b:ao}{l:List Int}{kD:List Cut}{pv bv tv lv cv:υ}{B:Nat}(hB:B<=w.heap.size)(ai:bg w B b pv bv tv)(hl:Row w B 1 cH lv l)(hc:Row w B 2 Cut.R cv kD):
 ύ prog 43 #[η #[ξ κ b.ag,pv,bv,tv],lv,cv] w λe w'=>e=Ω (μ #[.bool (z7 b l kD),ξ κ (xa b l kD)])/\Γ w.heap.size w w':=by
 by_cases h0:dF b=0
 ·have e:xa b l kD=scan (λ_ s=>s) [] [qL b l,ez b kD]:=by unfold xa;rw[if_neg (by simpa using h0)]
  by_cases h:scan (λ_ s=>s) [] [qL b l,ez b kD]=0
  ·have ev:z7 b l kD=fp b (fK l) kD:=by unfold z7;rw[e,if_pos h]
   rw[ev,e,h];exact Ta hB ai hl hc h0 h
  ·have ev:z7 b l kD=χ:=by unfold z7;rw[e,if_neg h]
   rw[ev,e];exact adK hB ai hl hc h0 h
 ·have e:xa b l kD=dF b:=by unfold xa;rw[if_pos h0]
  have ev:z7 b l kD=χ:=by unfold z7;rw[e,if_neg h0]
  rw[ev,e];obtain⟨A4,n4,c4,rfl,-⟩:=hl.Φ;obtain⟨A5,n5,c5,rfl,-⟩:=hc.Φ;exact adP hB ai ⟨_,_,_,rfl⟩ ⟨_,_,_,rfl⟩ h0
def adJ{w:Ψ}{b:ao}{l:List Int}{kD:List Cut}{pv bv tv lv cv:υ}{B:Nat}(hB:B<=w.heap.size)(ai:bg w B b pv bv tv)(hl:Row w B 1 cH lv l)(hc:Row w B 2 Cut.R cv kD):
 ύ prog 72 #[η #[ξ κ b.ag,pv,bv,tv],lv,cv] w λe w'=>e=Ω (μ #[.bool (z7 b l kD),ξ κ (xa b l kD)])/\Γ w.heap.size w w':=by
 have bT:=ψ ai;have HL:=ψ hl;have HC:=ψ hc;obtain⟨A1,n1,c1,rfl,-⟩:=ai.pieces.Φ;obtain⟨A2,n2,c2,rfl,-⟩:=ai.aF.Φ;obtain⟨A3,n3,c3,rfl,-⟩:=ai.aJ.Φ;obtain⟨A4,n4,c4,rfl,-⟩:=hl.Φ;obtain⟨A5,n5,c5,rfl,-⟩:=hc.Φ;clear ai hl hc;obtain⟨W0,z8⟩:∃W0,W0=w.alloc (Ξ #[ξ κ b.ag,ζ A1 n1 c1,ζ A2 n2 c2,ζ A3 n3 c3] 26):=⟨_,rfl⟩
 have Z0:W0.heap.size=w.heap.size+1:=by rw[z8];simp
 have BW:Hid (Γ w.heap.size w W0):=ψ (by rw[z8];exact(ώ _ _).alloc (ϊ _) _)
 have KB:Hid (Bk W0 w.heap.size 26 #[ξ κ b.ag,ζ A1 n1 c1,ζ A2 n2 c2,ζ A3 n3 c3]):=ψ (by rw[z8];exact Bk.new _ _ _)
 have S0:Hid (Δ B w W0):=ψ (by rw[z8];exact(Δ.refl w).alloc hB _)
 have SX:Hid (∀W,Γ (w.heap.size+1) W0 W->(W.cell? ⟨w.heap.size,0,ν⟩=φ (ξ κ b.ag)/\ W.cell? ⟨w.heap.size,1,ν⟩=φ (ζ A1 n1 c1)/\ W.cell? ⟨w.heap.size,2,ν⟩=φ (ζ A2 n2 c2)/\ W.cell? ⟨w.heap.size,3,ν⟩=φ (ζ A3 n3 c3))/\Δ B w W/\B<=W.heap.size/\w.heap.size+1<=W.heap.size):=ψ λW hW=>by
  have k:=KB.e.below hW (by omega)
  have hs:=hW.size;exact⟨⟨k.cell 0,k.cell 1,k.cell 2,k.cell 3⟩,S0.e.trans (Δ.aK hW (by omega)),by omega,by omega⟩
 have C1:=ψ (ajY (bT.e.still S0.e) (by omega))
 have C2:Hid (∀W,Γ (w.heap.size+1) W0 W->ύ prog 149 #[η #[ξ κ b.ag,ζ A1 n1 c1,ζ A2 n2 c2,ζ A3 n3 c3],ζ A4 n4 c4] W λe w'=>e=Ω (ξ κ (qL b l))/\Γ (w.heap.size+1) W0 w'):=ψ λW hW=>by
  obtain⟨-,st,h1,h2⟩:=SX.e W hW;exact(O5 (bT.e.still st) (HL.e.still st λ_ _ h=>h) h1).mono λe w' ⟨h,hb⟩=>⟨h,hW.trans (hb.mono h2)⟩
 have C3:Hid (∀W,Γ (w.heap.size+1) W0 W->ύ prog 44 #[η #[ξ κ b.ag,ζ A1 n1 c1,ζ A2 n2 c2,ζ A3 n3 c3],ζ A5 n5 c5] W λe w'=>e=Ω (ξ κ (ez b kD))/\Γ (w.heap.size+1) W0 w'):=ψ λW hW=>by
  obtain⟨-,st,h1,h2⟩:=SX.e W hW;exact(aii (bT.e.still st) (HC.e.still st λ_ _ h=>h) h1).mono λe w' ⟨h,hb⟩=>⟨h,hW.trans (hb.mono h2)⟩
 have C4:Hid (dF b=0->qL b l=0->ez b kD=0->∀W,Γ (w.heap.size+1) W0 W->ύ prog 111 #[η #[ξ κ b.ag,ζ A1 n1 c1,ζ A2 n2 c2,ζ A3 n3 c3],ζ A4 n4 c4,ζ A5 n5 c5] W λe w'=>e=Ω (.bool (fp b (fK l) kD))/\Γ (w.heap.size+1) W0 w'):=ψ λh0 h1 h2 W hW=>by
  obtain⟨-,st,h3,h4⟩:=SX.e W hW;have hv:=iy h0;have ok:=GI hv h2;obtain⟨hl,hn⟩:=ahl h1;have hr:Row W B 1 cH (ζ A4 n4 c4) (sx b.pieces.length (fK l)):=by
   rw[RZ hl hv.np.2];exact HL.e.still st λ_ _ h=>h
  exact(aix (bT.e.still st) hr (HC.e.still st λ_ _ h=>h) h3 ok.len ok.three ok.kD (ag9 hn) ok.ag).mono λe w' ⟨h,hb⟩=>⟨h,hW.trans (hb.mono h4)⟩
 have FS:Hid (xa b l kD=if dF b≠0 then dF b else if qL b l≠0 then qL b l else ez b kD):=ψ (by unfold xa;rw[anJ])
 have FV:Hid (z7 b l kD=if xa b l kD=0 then fp b (fK l) kD else χ):=ψ rfl
 obtain⟨s1,h1⟩:∃s,s=dF b:=⟨_,rfl⟩
 obtain⟨s2,h2⟩:∃s,s=qL b l:=⟨_,rfl⟩
 obtain⟨s3,h3⟩:∃s,s=ez b kD:=⟨_,rfl⟩
 obtain⟨d,hd⟩:∃d,d=fp b (fK l) kD:=⟨_,rfl⟩
 obtain⟨fs,QI⟩:∃s,s=xa b l kD:=⟨_,rfl⟩
 obtain⟨fv,QM⟩:∃s,s=z7 b l kD:=⟨_,rfl⟩
 rw[<-h1] at C1 C4 FS;rw[<-h2] at C2 C4 FS;rw[<-h3] at C3 C4 FS;rw[<-hd] at C4 FV;rw[<-QI] at FS FV |-
 rw[<-QM] at FV |-
 clear h1 h2 h3 hd QI QM;by_cases q1:s1=0
 ·by_cases q2:s2=0
  ·by_cases q3:s3=0
   ·subst q1 q2 q3
    have F:Hid (fs=0/\fv=d):=ψ (by
     have e:fs=0:=by rw[FS.e,if_neg (by simp),if_neg (by simp)]
     exact⟨e,by rw[FV.e,if_pos e]⟩)
    have C5:=ψ (C4.e rfl rfl rfl);clear C4;go_enter func72,Tryz.ntmps72;go_wp2;rw[<-z8];clear z8
    go_at_call 69
    refine C1.e.mono ?_
    rintro e w1 ⟨rfl,ae⟩;have H1:=ψ (ae.mono (show w.heap.size+1<=_ by omega))
    obtain⟨⟨f0,f1,f2,f3⟩,-⟩:=SX.e w1 H1.e;clear ae;go_wp2_with (first
     | (go_at_call 149;refine(C2.e _ H1.e).mono ?_;rintro e w2 ⟨rfl,ak⟩
        have H2:=ψ ak;obtain⟨⟨e0,e1,e2,e3⟩,-⟩:=SX.e w2 ak;clear ak f0 f1 f2 f3)
     | (go_at_call 44;refine(C3.e _ H2.e).mono ?_;rintro e w3 ⟨rfl,bD⟩
        have H3:=ψ bD;obtain⟨⟨g0,g1,g2,g3⟩,-⟩:=SX.e w3 bD;clear bD e0 e1 e2 e3)
     | (go_at_call 111;refine(C5.e _ H3.e).mono ?_;rintro e w4 ⟨rfl,cO⟩
        have H4:=ψ cO;clear cO))
    go_ret2
    exact⟨An F.e.2.symm F.e.1.symm,BW.e.trans (H4.e.mono (by omega))⟩
   ·subst q1 q2
    have F:Hid (fs=s3/\fv=χ):=ψ (by
     have e:fs=s3:=by rw[FS.e,if_neg (by simp),if_neg (by simp)]
     exact⟨e,by rw[FV.e,e,if_neg q3]⟩)
    have hz:(s3 !=0)=θ:=by simpa using q3
    clear q3 C4;go_enter func72,Tryz.ntmps72;go_wp2;rw[<-z8];clear z8
    go_at_call 69
    refine C1.e.mono ?_
    rintro e w1 ⟨rfl,ae⟩;have H1:=ψ (ae.mono (show w.heap.size+1<=_ by omega))
    obtain⟨⟨f0,f1,f2,f3⟩,-⟩:=SX.e w1 H1.e;clear ae;go_wp2_with (first
     | (go_at_call 149;refine(C2.e _ H1.e).mono ?_;rintro e w2 ⟨rfl,ak⟩
        have H2:=ψ ak;obtain⟨⟨e0,e1,e2,e3⟩,-⟩:=SX.e w2 ak;clear ak f0 f1 f2 f3)
     | (go_at_call 44;refine(C3.e _ H2.e).mono ?_;rintro e w3 ⟨rfl,bD⟩
        have H3:=ψ bD;clear bD))
    go_ret2
    exact⟨An F.e.2.symm F.e.1.symm,BW.e.trans (H3.e.mono (by omega))⟩
  ·subst q1
   have F:Hid (fs=s2/\fv=χ):=ψ (by
    have e:fs=s2:=by rw[FS.e,if_neg (by simp),if_pos q2]
    exact⟨e,by rw[FV.e,e,if_neg q2]⟩)
   have hz:(s2 !=0)=θ:=by simpa using q2
   clear q2 C4 C3;go_enter func72,Tryz.ntmps72;go_wp2;rw[<-z8];clear z8
   go_at_call 69
   refine C1.e.mono ?_
   rintro e w1 ⟨rfl,ae⟩;have H1:=ψ (ae.mono (show w.heap.size+1<=_ by omega))
   obtain⟨⟨f0,f1,f2,f3⟩,-⟩:=SX.e w1 H1.e;clear ae;go_wp2_with (first
    | (go_at_call 149;refine(C2.e _ H1.e).mono ?_;rintro e w2 ⟨rfl,ak⟩
       have H2:=ψ ak;clear ak))
   go_ret2
   exact⟨An F.e.2.symm F.e.1.symm,BW.e.trans (H2.e.mono (by omega))⟩
 ·have F:Hid (fs=s1/\fv=χ):=ψ (by
   have e:fs=s1:=by rw[FS.e,if_pos q1]
   exact⟨e,by rw[FV.e,e,if_neg q1]⟩)
  have hz:(s1 !=0)=θ:=by simpa using q1
  clear q1 C4 C3 C2;go_enter func72,Tryz.ntmps72;go_wp2;rw[<-z8];clear z8
  go_at_call 69
  refine C1.e.mono ?_
  rintro e w1 ⟨rfl,ae⟩;have H1:=ψ (ae.mono (show w.heap.size+1<=_ by omega))
  clear ae;go_wp2
  go_ret2
  exact⟨An F.e.2.symm F.e.1.symm,BW.e.trans (H1.e.mono (by omega))⟩
def sc(b:ao)(l:List Int):Int:=if dF b≠0 then dF b else qL b l
def vW(b:ao)(l:List Int):Bool:=if sc b l=0 then yW b b.pieces.length (fK l) else χ
def zP(M L:an):Bool:=(L.a==M.a && (L.b==M.b && L.c==M.c))
def PX(M L:an):zP M L=θ↔L=M:=by
 obtain⟨a,b,c⟩:=L;obtain⟨d,e,f⟩:=M;unfold zP;simp
def abG(l:List an)(M:an):l.any (zP M)=decide (M∈l):=by
 rw[Aid,Aio,decide_eq_true_iff];exact⟨λ⟨x,h,e⟩=>by rw[<-(PX M x).1 e];exact h,λh=>⟨M,h,(PX M M).2 rfl⟩⟩
def adH(L M:an)(w:Ψ):(Op.equalIn 10000 128 (η #[ξ κ L.a,ξ κ L.b,ξ κ L.c]) (η #[ξ κ M.a,ξ κ M.b,ξ κ M.c])).run prog w=.ok (zP M L) w:=by
 obtain⟨i0,cR,cT,aN,ba⟩:=Ag7 Oo;have hc:prog.cellsOf 3=1:=by unfold Program.cellsOf;rw[cR];exact aN
 rw[run_equalIn_array (P:=prog) w 9999 _ _ (U Tryz.underlying128) cR,hc];have e:Agm 3=[0,1,2]:=rfl;rw[e];unfold zP;cases h0:(L.a==M.a)<;>cases h1:(L.b==M.b)<;>cases h2:(L.c==M.c)<;>simp[Op.eqItems,go_sem,h0,h1,h2]
def anG{L M:an}{w:Ψ}{g:Nat}(hg:Bk w g 128 #[ξ κ M.a,ξ κ M.b,ξ κ M.c]):
 ύ prog 151 #[η #[ξ κ L.a,ξ κ L.b,ξ κ L.c],π (φ ⟨g,0,ν⟩)] w λe w'=>e=Ω (.bool (zP M L))/\Γ w.heap.size w w':=by
 have k0:=hg.cell 0;have k1:=hg.cell 1;have k2:=hg.cell 2;have hl:=hg.lt;have dC:g<=w.heap.size:=by omega
 have hq:=adH L M;clear hg;go_enter func151,Tryz.ntmps151;go_wp2;go_ret;exact⟨b9 rfl,(ώ _ _).alloc (ϊ _) _⟩
def ahI{b:ao}{l:List Int}(h0:dF b=0)(h1:qL b l=0):(aD b).any (zP (fK l))=vW b l:=by
 have hv:=iy h0;have hs:sc b l=0:=by unfold sc;rw[if_neg (by simpa using h0),h1]
 unfold vW;rw[if_pos hs,abG,Aid,decide_eq_true_iff];exact abS hv (ahl h1).1
def ahs{w:Ψ}{b:ao}{l:List Int}{pv bv tv lv:υ}{B:Nat}(hB:B<=w.heap.size)(ai:bg w B b pv bv tv)(hl:Row w B 1 cH lv l):
 ύ prog 73 #[η #[ξ κ b.ag,pv,bv,tv],lv] w λe w'=>e=Ω (μ #[.bool (vW b l),ξ κ (sc b l)])/\Γ w.heap.size w w':=by
 have bT:=ψ ai;have HL:=ψ hl;obtain⟨A1,n1,c1,rfl,-⟩:=ai.pieces.Φ;obtain⟨A2,n2,c2,rfl,-⟩:=ai.aF.Φ;obtain⟨A3,n3,c3,rfl,-⟩:=ai.aJ.Φ;obtain⟨A4,n4,c4,rfl,-⟩:=hl.Φ;clear ai hl;obtain⟨W0,z8⟩:∃W0,W0=w.alloc (Ξ #[ξ κ b.ag,ζ A1 n1 c1,ζ A2 n2 c2,ζ A3 n3 c3] 26):=⟨_,rfl⟩
 have Z0:W0.heap.size=w.heap.size+1:=by rw[z8];simp
 have BW:Hid (Γ w.heap.size w W0):=ψ (by rw[z8];exact(ώ _ _).alloc (ϊ _) _)
 have KB:Hid (Bk W0 w.heap.size 26 #[ξ κ b.ag,ζ A1 n1 c1,ζ A2 n2 c2,ζ A3 n3 c3]):=ψ (by rw[z8];exact Bk.new _ _ _)
 have S0:Hid (Δ B w W0):=ψ (by rw[z8];exact(Δ.refl w).alloc hB _)
 have C1:=ψ (LS (bT.e.still S0.e) (by omega))
 have ST:Hid (∀W,Γ (w.heap.size+1) W0 W->Δ B w W/\B<=W.heap.size/\w.heap.size+1<=W.heap.size):=ψ λW hW=>by
  have hs:=hW.size;exact⟨S0.e.trans (Δ.aK hW (by omega)),by omega,by omega⟩
 have C2:Hid (∀W,Γ (w.heap.size+1) W0 W->ύ prog 127 #[η #[ξ κ b.ag,ζ A1 n1 c1,ζ A2 n2 c2,ζ A3 n3 c3],ζ A4 n4 c4] W λe w'=>e=Ω (ξ κ (qL b l))/\Γ W.heap.size W w'):=ψ λW hW=>by
  obtain⟨st,h1,h2⟩:=ST.e W hW;exact ahh (bT.e.still st) (HL.e.still st λ_ _ h=>h) h1
 have IV:Hid (dF b=0->qL b l=0->(aD b).any (zP (fK l))=vW b l):=ψ λh0 h1=>ahI h0 h1
 have FS:Hid (sc b l=if dF b≠0 then dF b else qL b l):=ψ rfl
 have FV:Hid (sc b l≠0->vW b l=χ):=ψ λh=>by unfold vW;rw[if_neg h]
 by_cases q1:dF b=0
 ·rw[q1] at C1
  by_cases q2:qL b l=0
  ·have F:Hid (sc b l=0/\(aD b).any (zP (fK l))=vW b l):=ψ ⟨by rw[FS.e,if_neg (by simpa using q1),q2],IV.e q1 q2⟩
   rw[q2] at C2;have hv:=ψ (iy q1);have hn:=ψ (ahl q2);have C3:Hid (∀W,Γ (w.heap.size+1) W0 W->ύ prog 128 #[ζ A4 n4 c4] W λe w'=>e=Ω (η #[ξ κ (fK l).a,ξ κ (fK l).b,ξ κ (fK l).c])/\Γ W.heap.size W w'):=ψ λW hW=>by
     obtain⟨st,h1,h2⟩:=ST.e W hW;exact ag7 (HL.e.still st λ_ _ h=>h) h1 (by rw[hn.e.1];exact hv.e.np.2)
   have C4:Hid (∀W,Γ (w.heap.size+1) W0 W->ύ prog 96 #[η #[ξ κ b.ag,ζ A1 n1 c1,ζ A2 n2 c2,ζ A3 n3 c3]] W λe w'=>∃v,e=Ω v/\qQ w' W.heap.size v (aD b)/\Γ W.heap.size W w'):=ψ λW hW=>by
     obtain⟨st,h1,h2⟩:=ST.e W hW;exact all h1 (bT.e.still st) hv.e
   obtain⟨M,hM⟩:∃M,M=fK l:=⟨_,rfl⟩
   rw[<-hM] at C3 F;obtain⟨⟨ma,mb,mc⟩,rfl⟩:∃L,L=M:=⟨_,rfl⟩
   simp only at C3;clear q1 q2 IV FS FV hM;go_enter func73,Tryz.ntmps73;go_wp2;rw[<-z8];clear z8
   go_at_call 68
   refine C1.e.mono ?_
   rintro e w1 ⟨rfl,ae⟩;have H1:=ψ (ae.mono (show w.heap.size+1<=_ by omega))
   have kb:=KB.e.below H1.e (by omega)
   have f0:=kb.cell 0;have f1:=kb.cell 1;have f2:=kb.cell 2;have f3:=kb.cell 3;have z1:=kb.lt;clear ae kb;go_wp2
   go_at_call 127
   refine(C2.e _ (H1.e.alloc (by omega) _)).mono ?_
   rintro e w2 ⟨rfl,ak⟩;have K2:=ψ ((Bk.new w1 117 #[ξ κ b.ag,ζ A1 n1 c1,ζ A2 n2 c2,ζ A3 n3 c3]).below ak (by simp))
   have H2:=ψ ((H1.e.alloc (show w.heap.size+1<=w1.heap.size by omega) (Ξ #[ξ κ b.ag,ζ A1 n1 c1,ζ A2 n2 c2,ζ A3 n3 c3] 117)).trans (ak.mono (by simp;omega)))
   have z2:=K2.e.lt;clear ak;go_wp2
   go_at_call 128
   refine(C3.e _ H2.e).mono ?_
   rintro e w3 ⟨rfl,bD⟩;have K3:=ψ (K2.e.below bD K2.e.lt);have H3:=ψ (H2.e.trans (bD.mono (by omega)))
   have e0: w3.cell? ⟨w1.heap.size,0,ν⟩=φ (ξ κ b.ag):=K3.e.cell 0;have e1: w3.cell? ⟨w1.heap.size,1,ν⟩=φ (ζ A1 n1 c1):=K3.e.cell 1;have e2: w3.cell? ⟨w1.heap.size,2,ν⟩=φ (ζ A2 n2 c2):=K3.e.cell 2;have e3: w3.cell? ⟨w1.heap.size,3,ν⟩=φ (ζ A3 n3 c3):=K3.e.cell 3;have z3:=K3.e.lt;clear bD f0 f1 f2 f3;go_wp2
   go_at_call 96
   refine(C4.e _ (H3.e.alloc (by omega) _)).mono ?_
   rintro e w4 ⟨v,rfl,aG,cO⟩;have K4:=ψ ((Bk.new w3 128 #[ξ κ ma,ξ κ mb,ξ κ mc]).below cO (by simp))
   have H4:=ψ ((H3.e.alloc (show w.heap.size+1<=w3.heap.size by omega) (Ξ #[ξ κ ma,ξ κ mb,ξ κ mc] 128)).trans (cO.mono (by simp;omega)))
   have C5:Hid (ύ prog 150 #[v,fv 151 #[π (φ ⟨w3.heap.size,0,ν⟩)]] w4 λe w'=>e=Ω (.bool ((aD b).any (zP ⟨ma,mb,mc⟩)))/\Γ w4.heap.size w4 w'):=ψ (aaW (zP ⟨ma,mb,mc⟩) call151 aG.row (ϊ _) λW x hW _=>app1 (anG (K4.e.below hW K4.e.lt)))
   obtain⟨A9,n9,c9,rfl⟩:=j8 aG;clear cO aG;go_wp2;refine C5.e.mono ?_
   rintro e w5 ⟨rfl,eR⟩;have H5:=ψ (H4.e.trans (eR.mono (by have:=H4.e.size;omega)))
   clear eR;go_wp2
   go_ret2
   exact⟨An F.e.2 F.e.1.symm,BW.e.trans (H5.e.mono (by omega))⟩
  ·have F:Hid (sc b l=qL b l/\vW b l=χ):=ψ (by
     have e:sc b l=qL b l:=by rw[FS.e,if_neg (by simpa using q1)]
     exact⟨e,FV.e (by rw[e];exact q2)⟩)
   obtain⟨s2,h2⟩:∃s,s=qL b l:=⟨_,rfl⟩
   rw[<-h2] at C2 F q2;have hz:(s2 !=0)=θ:=by simpa using q2
   clear q1 q2 IV FS FV h2;go_enter func73,Tryz.ntmps73;go_wp2;rw[<-z8];clear z8
   go_at_call 68
   refine C1.e.mono ?_
   rintro e w1 ⟨rfl,ae⟩;have H1:=ψ (ae.mono (show w.heap.size+1<=_ by omega))
   have kb:=KB.e.below H1.e (by omega)
   have f0:=kb.cell 0;have f1:=kb.cell 1;have f2:=kb.cell 2;have f3:=kb.cell 3;have z1:=kb.lt;clear ae kb;go_wp2
   go_at_call 127
   refine(C2.e _ (H1.e.alloc (by omega) _)).mono ?_
   rintro e w2 ⟨rfl,ak⟩;have H2:=ψ ((H1.e.alloc (show w.heap.size+1<=w1.heap.size by omega) (Ξ #[ξ κ b.ag,ζ A1 n1 c1,ζ A2 n2 c2,ζ A3 n3 c3] 117)).trans (ak.mono (by simp;omega)))
   clear ak;go_wp2
   go_ret2
   exact⟨An F.e.2.symm F.e.1.symm,BW.e.trans (H2.e.mono (by omega))⟩
 ·have F:Hid (sc b l=dF b/\vW b l=χ):=ψ (by
   have e:sc b l=dF b:=by rw[FS.e,if_pos q1]
   exact⟨e,FV.e (by rw[e];exact q1)⟩)
  obtain⟨s1,h1⟩:∃s,s=dF b:=⟨_,rfl⟩
  rw[<-h1] at C1 F q1;have hz:(s1 !=0)=θ:=by simpa using q1
  clear q1 IV FS FV h1 C2;go_enter func73,Tryz.ntmps73;go_wp2;rw[<-z8];clear z8
  go_at_call 68
  refine C1.e.mono ?_
  rintro e w1 ⟨rfl,ae⟩;have H1:=ψ (ae.mono (show w.heap.size+1<=_ by omega))
  clear ae;go_wp2
  go_ret2
  exact⟨An F.e.2.symm F.e.1.symm,BW.e.trans (H1.e.mono (by omega))⟩
def aht{w:Ψ}{b:ao}{l:List Int}{pv bv tv lv:υ}{B:Nat}(hB:B<=w.heap.size)(ai:bg w B b pv bv tv)(hl:Row w B 1 cH lv l):
 ύ prog 74 #[η #[ξ κ b.ag,pv,bv,tv],lv] w λe w'=>e=Ω (μ #[.bool (vW b l),ξ κ (sc b l)])/\Γ w.heap.size w w':=by
 have bT:=ψ ai;have HL:=ψ hl;obtain⟨A1,n1,c1,rfl,-⟩:=ai.pieces.Φ;obtain⟨A2,n2,c2,rfl,-⟩:=ai.aF.Φ;obtain⟨A3,n3,c3,rfl,-⟩:=ai.aJ.Φ;obtain⟨A4,n4,c4,rfl,-⟩:=hl.Φ;clear ai hl;obtain⟨W0,z8⟩:∃W0,W0=w.alloc (Ξ #[ξ κ b.ag,ζ A1 n1 c1,ζ A2 n2 c2,ζ A3 n3 c3] 26):=⟨_,rfl⟩
 have Z0:W0.heap.size=w.heap.size+1:=by rw[z8];simp
 have BW:Hid (Γ w.heap.size w W0):=ψ (by rw[z8];exact(ώ _ _).alloc (ϊ _) _)
 have KB:Hid (Bk W0 w.heap.size 26 #[ξ κ b.ag,ζ A1 n1 c1,ζ A2 n2 c2,ζ A3 n3 c3]):=ψ (by rw[z8];exact Bk.new _ _ _)
 have S0:Hid (Δ B w W0):=ψ (by rw[z8];exact(Δ.refl w).alloc hB _)
 have SX:Hid (∀W,Γ (w.heap.size+1) W0 W->(W.cell? ⟨w.heap.size,0,ν⟩=φ (ξ κ b.ag)/\ W.cell? ⟨w.heap.size,1,ν⟩=φ (ζ A1 n1 c1)/\ W.cell? ⟨w.heap.size,2,ν⟩=φ (ζ A2 n2 c2)/\ W.cell? ⟨w.heap.size,3,ν⟩=φ (ζ A3 n3 c3))/\Δ B w W/\B<=W.heap.size/\w.heap.size+1<=W.heap.size):=ψ λW hW=>by
  have k:=KB.e.below hW (by omega)
  have hs:=hW.size;exact⟨⟨k.cell 0,k.cell 1,k.cell 2,k.cell 3⟩,S0.e.trans (Δ.aK hW (by omega)),by omega,by omega⟩
 have C1:=ψ (ajY (bT.e.still S0.e) (by omega))
 have C2:Hid (∀W,Γ (w.heap.size+1) W0 W->ύ prog 149 #[η #[ξ κ b.ag,ζ A1 n1 c1,ζ A2 n2 c2,ζ A3 n3 c3],ζ A4 n4 c4] W λe w'=>e=Ω (ξ κ (qL b l))/\Γ (w.heap.size+1) W0 w'):=ψ λW hW=>by
  obtain⟨-,st,h1,h2⟩:=SX.e W hW;exact(O5 (bT.e.still st) (HL.e.still st λ_ _ h=>h) h1).mono λe w' ⟨h,hb⟩=>⟨h,hW.trans (hb.mono h2)⟩
 have C4:dF b=0->qL b l=0->∀W,Γ (w.heap.size+1) W0 W->ύ prog 152 #[η #[ξ κ b.ag,ζ A1 n1 c1,ζ A2 n2 c2,ζ A3 n3 c3],ζ A4 n4 c4] W λe w'=>e=Ω (.bool (yW b b.pieces.length (fK l)))/\Γ (w.heap.size+1) W0 w':=λh0 h1 W hW=>by
  obtain⟨-,st,h3,h4⟩:=SX.e W hW;have hv:=iy h0;obtain⟨hl,hn⟩:=ahl h1;have hr:Row W B 1 cH (ζ A4 n4 c4) (sx b.pieces.length (fK l)):=by
   rw[RZ hl hv.np.2];exact HL.e.still st λ_ _ h=>h
  exact(ahU (bT.e.still st) h3 hr hv (ag9 hn)).mono λe w' ⟨h,hb⟩=>⟨h,hW.trans (hb.mono h4)⟩
 have FS:Hid (sc b l=if dF b≠0 then dF b else qL b l):=ψ rfl
 have FV:Hid (vW b l=if sc b l=0 then yW b b.pieces.length (fK l) else χ):=ψ rfl
 by_cases q1:dF b=0
 ·rw[q1] at C1
  by_cases q2:qL b l=0
  ·have F:Hid (sc b l=0/\vW b l=yW b b.pieces.length (fK l)):=ψ (by
     have e:sc b l=0:=by rw[FS.e,if_neg (by simpa using q1),q2]
     exact⟨e,by rw[FV.e,if_pos e]⟩)
   rw[q2] at C2;have C5:=ψ (C4 q1 q2);obtain⟨d,hd⟩:∃d,d=yW b b.pieces.length (fK l):=⟨_,rfl⟩
   rw[<-hd] at C5 F;clear q1 q2 FS FV C4 hd;go_enter func74,Tryz.ntmps74;go_wp2;rw[<-z8];clear z8
   go_at_call 69
   refine C1.e.mono ?_
   rintro e w1 ⟨rfl,ae⟩;have H1:=ψ (ae.mono (show w.heap.size+1<=_ by omega))
   obtain⟨⟨f0,f1,f2,f3⟩,-⟩:=SX.e w1 H1.e;clear ae;go_wp2_with (first
     | (go_at_call 149;refine(C2.e _ H1.e).mono ?_;rintro e w2 ⟨rfl,ak⟩
        have H2:=ψ ak;obtain⟨⟨e0,e1,e2,e3⟩,-⟩:=SX.e w2 ak;clear ak f0 f1 f2 f3)
     | (go_at_call 152;refine(C5.e _ H2.e).mono ?_;rintro e w4 ⟨rfl,cO⟩
        have H4:=ψ cO;clear cO))
   go_ret2
   exact⟨An F.e.2.symm F.e.1.symm,BW.e.trans (H4.e.mono (by omega))⟩
  ·have F:Hid (sc b l=qL b l/\vW b l=χ):=ψ (by
     have e:sc b l=qL b l:=by rw[FS.e,if_neg (by simpa using q1)]
     exact⟨e,by rw[FV.e,e,if_neg q2]⟩)
   obtain⟨s2,h2⟩:∃s,s=qL b l:=⟨_,rfl⟩
   rw[<-h2] at C2 F q2;have hz:(s2 !=0)=θ:=by simpa using q2
   clear q1 q2 FS FV h2 C4;go_enter func74,Tryz.ntmps74;go_wp2;rw[<-z8];clear z8
   go_at_call 69
   refine C1.e.mono ?_
   rintro e w1 ⟨rfl,ae⟩;have H1:=ψ (ae.mono (show w.heap.size+1<=_ by omega))
   obtain⟨⟨f0,f1,f2,f3⟩,-⟩:=SX.e w1 H1.e;clear ae;go_wp2_with (first
     | (go_at_call 149;refine(C2.e _ H1.e).mono ?_;rintro e w2 ⟨rfl,ak⟩
        have H2:=ψ ak;clear ak))
   go_ret2
   exact⟨An F.e.2.symm F.e.1.symm,BW.e.trans (H2.e.mono (by omega))⟩
 ·have F:Hid (sc b l=dF b/\vW b l=χ):=ψ (by
   have e:sc b l=dF b:=by rw[FS.e,if_pos q1]
   exact⟨e,by rw[FV.e,e,if_neg q1]⟩)
  obtain⟨s1,h1⟩:∃s,s=dF b:=⟨_,rfl⟩
  rw[<-h1] at C1 F q1;have hz:(s1 !=0)=θ:=by simpa using q1
  clear q1 FS FV h1 C2 C4;go_enter func74,Tryz.ntmps74;go_wp2;rw[<-z8];clear z8
  go_at_call 69
  refine C1.e.mono ?_
  rintro e w1 ⟨rfl,ae⟩;have H1:=ψ (ae.mono (show w.heap.size+1<=_ by omega))
  clear ae;go_wp2
  go_ret2
  exact⟨An F.e.2.symm F.e.1.symm,BW.e.trans (H1.e.mono (by omega))⟩
end Go.Tw
