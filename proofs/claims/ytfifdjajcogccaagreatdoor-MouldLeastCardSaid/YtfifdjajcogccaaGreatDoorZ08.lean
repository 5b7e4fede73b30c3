import Derived.Test.YtfifdjajcogccaaGreatDoorZ07
import Derived.Test.YtfifdjajcogccaaGreatDoorZ05
import Derived.Test.YtfifdjajcogccaaGreatDoorZ04
import Derived.Test.YtfifdjajcogccaaGreatDoorZ06
import Derived.Test.YtfifdjajcogccaaGreatDoorZ00
import Derived.Test.YtfifdjajcogccaaGreatDoorZ03
import Derived.Deep.RegionWith
import Derived.Deep.RegionLaw
import Derived.Shelf.Small.Bits
import Derived.Stop.Joined
import Derived.Conc.LeavingOf
import Derived.Test.YtfifdjajcogccaaGreatDoorCards
import Derived.LaidByTextLater
import Derived.SevenTiedAt
import Derived.LaidOnce
import Derived.KernelRfl
set_option linter.all false
set_option maxHeartbeats 64000000
set_option maxRecDepth 20000
open And renaming intro -> Afx
open Array renaming getElem?_eq_some_iff -> Aaf, size_setIfInBounds -> Aek, replicate -> Aeo, getD_eq_getD_getElem? -> Aaa
open Classical renaming byContradiction -> Adh
open Go renaming World -> Aa4, Addr -> Aay, Calls -> Af1, info_parts -> Agw, heap_alloc_new -> Ai0, maxLen -> Af0, wpList_append_own -> Agx, TypeId -> Aa1, bodyPost_ret -> Ag1, Code -> Ai1
open Go.IntKind renaming i64 -> Ack
open Go.Lib renaming hid -> Af3, run_eql_slice_nil -> Ai2, compareInt -> Ai3
open Go.RowKit renaming intOf -> Ag7, Below -> Ahz
open Go.RowKit.Below renaming refl -> Af6, heap_setCell -> Ag8, refl -> Ai4
open Go.World renaming cell?_alloc_lt -> Af7, cell?_setCell_far -> Ai5
open List renaming flatMap_cons -> Ahp, mem_flatMap -> Ai6, nil_append -> Ahl, set_cons_succ -> Ai7, getElem?_eq_some_iff -> Agb, length_set -> Ais, length_map -> Aiw, mem_of_getElem? -> Agg, mem_map -> Ain, getElem?_eq_getElem -> Aga, drop_eq_getElem_cons -> Ai8, drop_eq_nil_of_le -> Aig, range -> Af9, mem_cons -> Aef, not_mem_nil -> Aeg, eq_nil_of_length_eq_zero -> Aio, mergeSort_perm -> Ai9, pairwise_mergeSort -> Aja
open Nat renaming le_refl -> Ac2, zero_add -> Ajb, lt_of_lt_of_le -> Aeh, le_of_lt -> Agr, le_of_eq -> Ago, zero_le -> Agm, le_trans -> Ac3
open Option.some renaming inj -> Ac5
open Prod renaming fst -> Ajc
namespace Go.Tw
variable [Go.Tw.aR]
open Go Go.Proofs Go.RowKit
theorem Te{α:Type}{f:α->List Value}{sz:Nat}(hf:∀x,(f x).length=sz):∀(l:List α) (j:Nat) (u:Value),(l.flatMap f)[j]?=some u->∃i x r,l[i]?=some x/\(f x)[r]?=some u/\j=i * sz+r
 | [],j,u,h=>by simp at h
 |a::l,j,u,h=>by
  rw[Ahp] at h;by_cases hj:j<(f a).length
  ·rw[List.getElem?_append_left hj] at h
   exact⟨0,a,j,rfl,h,by omega⟩
  ·rw[List.getElem?_append_right (by omega),hf] at h
   obtain⟨i,x,r,h1,h2,h3⟩:=Te hf l _ u h;rw[hf] at hj;exact⟨i+1,x,r,by simpa using h1,h2,by rw[Nat.add_mul];omega⟩
theorem zT{α:Type}{f:α->List Value}{sz:Nat}(hf:∀x,(f x).length=sz):∀(l:List α),(l.flatMap f).length=l.length * sz
 | []=>by simp
 |a::l=>by rw[Ahp,List.length_append,hf,zT hf l,List.length_cons,Nat.add_mul];omega
theorem CZ{α:Type}{f:α->List Value}(l:List α)(hf:∀x∈l,∀u∈f x,u.oneCell'=true):∀u∈l.flatMap f,u.oneCell'=true:=by
 intro u hu;obtain⟨x,h,hx⟩:=Ai6.1 hu;exact hf x h u hx
theorem Row.cells{α:Type}{w:Aa4}{B sz:Nat}{f:α->List Value}{ad:Aay}{c:Nat}{l:List α}(h:Row w B sz (fun x cs=>cs=f x) (.slice (some ad) l.length c) l)(hf:∀x,(f x).length=sz):
 (∀j u,(l.flatMap f)[j]?=some u-> w.cell? (ad.add j)=some u)/\(l≠ []->ad.block<B):=by
 obtain⟨A,c',hv,h1,h2,h3⟩:=h;injection hv with hA
 refine⟨fun j u hu=>?_,fun aw=>?_⟩
 ·obtain⟨i,x,r,e1,e2,e3⟩:=Te hf l j u hu
  obtain⟨Cs,uZ,_,hc⟩:=h3 (by intro e;rw[e] at e1;simp at e1)
  obtain⟨cs,rfl,_,au⟩:=hc i x e1;rw[uZ] at hA;injection hA with hA
  subst hA;rw[e3];exact au r u e2
 ·obtain⟨Cs,uZ,hb,_⟩:=h3 aw
  rw[uZ] at hA;injection hA with hA
  subst hA;exact hb
theorem agi:(prog.info? 72).map (fun i=>(i.zero,i.size,i.bytes))=some (some (.agg #[.string {data:=#[]},.int .i64 0,.int .i64 0,.int .i64 0]),4,40):=by
 rw[pB];kernel_rfl
theorem aaI{ad:Aay}{n c:Nat}{news:List Value}{w:Aa4}(hl:news.length=n * 4)(hc:∀j u,news[j]?=some u-> w.cell? (ad.add j)=some u)(h1:∀u∈news,u.oneCell'=true)(hn:n<=1000000)(aC:news≠ []->ad.block<w.heap.size):
 Af1 prog 155 #[.slice (some ad) n c] w fun e w'=>∃v,e=.returned v/\w'.ownsRow w.heap.size 72 4 v n news/\Below w.heap.size w w':=by
 obtain⟨i0,cR,cT,aN,ba⟩:=Agw agi;have bI:=Af3 (Afx cR (Afx cT (Afx aN ba)));have HC:Hid (∀j u,news[j]?=some u->(w.alloc (.cells #[] 72)).cell? (ad.add j)=some u):=Af3 (fun j u hu=>(Af7 w _ _ (by rw[cq];exact aC (by intro e;rw[e] at hu;simp at hu))).trans (hc j u hu))
 have HL:=Af3 (Afx hl h1);have HO:Hid ((w.alloc (.cells #[] 72)).ownsRow w.heap.size 72 4 (.slice (some ⟨w.heap.size,0,none⟩) 0 0) 0 []):=Af3 ⟨rfl,.inr ⟨w.heap.size,0,#[],rfl,Ac2 _,Ai0 w _,Ac2 _,by unfold Af0;omega,rfl,rfl⟩⟩
 clear hl hc h1 cR cT aN ba aC;have q:∀(w:Aa4) (a:Option Aay) (n c n' c':Nat),(binOp .eql 22 (.slice a n c) (.slice none n' c')).run prog w=.ok (.bool a.isNone) w:=fun w a n c n' c'=>Ai2 w _ _ a n c n' c' (U Tryz.underlying22)
 go_enter func155,Tryz.ntmps155;go_wp2_with (first
  | (at_builtin
     refine Agx _ rfl (.tmp 5) (.tmp 6) 22 rfl w.heap.size 72 i0 (.agg #[.string {data:=#[]},.int .i64 0,.int .i64 0,.int .i64 0]) 4 40 (U Tryz.underlying22) bI.out.1 bI.out.2.1 bI.out.2.2.1 bI.out.2.2.2 rfl (by decide) _ 0 _ rfl HO.out ad n c news rfl HL.out.1 HC.out HL.out.2 ?c3 ?c4 ?c5 ?_
     case c3=>(simp only[Af0];omega)
     case c4=>omega
     case c5=>simp
     intro v' w1 cK dT _;have gW:=Af3 cK;have gV:=Af3 dT;clear cK dT))
 go_ret;refine⟨_,rfl,by have:=gW.out;rwa[Ajb,Ahl] at this,((Af6 _ _).alloc (Ac2 _) _).grown gV.out (by simp) (fun k hk=>ei HO.out k hk)⟩
theorem aaH(n c:Nat)(w:Aa4):Af1 prog 155 #[.slice none n c] w fun e w'=>e=.returned (.slice none 0 0)/\w=w':=by
 have q:∀(w:Aa4) (a:Option Aay) (n c n' c':Nat),(binOp .eql 22 (.slice a n c) (.slice none n' c')).run prog w=.ok (.bool a.isNone) w:=fun w a n c n' c'=>Ai2 w _ _ a n c n' c' (U Tryz.underlying22)
 go_enter func155,Tryz.ntmps155;go_wp2;go_ret;exact⟨rfl,rfl⟩
theorem aaG{α:Type}{f:α->List Value}{v:Value}{l:List α}{w:Aa4}{B:Nat}(h:Row w B 4 (fun x cs=>cs=f x) v l)(hB:B<=w.heap.size)(hf:∀x,(f x).length=4)(h1:∀x∈l,∀u∈f x,u.oneCell'=true)(hn:l.length<=1000000):
 Af1 prog 155 #[v] w fun e w'=>∃v',e=.returned v'/\w'.ownsRow w.heap.size 72 4 v' l.length (l.flatMap f)/\Below w.heap.size w w':=by
 obtain⟨A,c,rfl,-⟩:=id h;cases A with
 |none=>
  have hl:l=[]:=by
   obtain⟨A,c',hv,h1,h2,h3⟩:=h;injection hv with hA
   refine Adh fun aw=>?_
   obtain⟨ad,ha,_⟩:=h3 aw;rw[ha] at hA;cases hA
  subst hl;refine(aaH _ _ w).mono ?_
  rintro e w' ⟨rfl,rfl⟩;exact⟨_,rfl,⟨rfl,.inl ⟨rfl,rfl⟩⟩,Af6 _ _⟩
 |some ad=>
  have hc:=h.cells hf;exact aaI (zT hf l) hc.1 (CZ l h1) hn (fun aw=>by
   have:=hc.2 (by intro e;rw[e] at aw;simp at aw);omega)
theorem VI:(prog.info? 59).map (fun i=>(i.zero,i.size,i.bytes))=some (some (.agg #[.string {data:=#[]},.int .i64 0,.slice none 0 0]),3,48):=by
 rw[pB];kernel_rfl
theorem aaB{ad:Aay}{n c:Nat}{news:List Value}{w:Aa4}(hl:news.length=n * 3)(hc:∀j u,news[j]?=some u-> w.cell? (ad.add j)=some u)(h1:∀u∈news,u.oneCell'=true)(hn:n<=1000000)(aC:news≠ []->ad.block<w.heap.size):
 Af1 prog 135 #[.slice (some ad) n c] w fun e w'=>∃v,e=.returned v/\w'.ownsRow w.heap.size 59 3 v n news/\Below w.heap.size w w':=by
 obtain⟨i0,cR,cT,aN,ba⟩:=Agw VI;have bI:=Af3 (Afx cR (Afx cT (Afx aN ba)));have HC:Hid (∀j u,news[j]?=some u->(w.alloc (.cells #[] 59)).cell? (ad.add j)=some u):=Af3 (fun j u hu=>(Af7 w _ _ (by rw[cq];exact aC (by intro e;rw[e] at hu;simp at hu))).trans (hc j u hu))
 have HL:=Af3 (Afx hl h1);have HO:Hid ((w.alloc (.cells #[] 59)).ownsRow w.heap.size 59 3 (.slice (some ⟨w.heap.size,0,none⟩) 0 0) 0 []):=Af3 ⟨rfl,.inr ⟨w.heap.size,0,#[],rfl,Ac2 _,Ai0 w _,Ac2 _,by unfold Af0;omega,rfl,rfl⟩⟩
 clear hl hc h1 cR cT aN ba aC;have q:∀(w:Aa4) (a:Option Aay) (n c n' c':Nat),(binOp .eql 23 (.slice a n c) (.slice none n' c')).run prog w=.ok (.bool a.isNone) w:=fun w a n c n' c'=>Ai2 w _ _ a n c n' c' (U Tryz.underlying23)
 go_enter func135,Tryz.ntmps135;go_wp2_with (first
  | (at_builtin
     refine Agx _ rfl (.tmp 5) (.tmp 6) 23 rfl w.heap.size 59 i0 (.agg #[.string {data:=#[]},.int .i64 0,.slice none 0 0]) 3 48 (U Tryz.underlying23) bI.out.1 bI.out.2.1 bI.out.2.2.1 bI.out.2.2.2 rfl (by decide) _ 0 _ rfl HO.out ad n c news rfl HL.out.1 HC.out HL.out.2 ?c3 ?c4 ?c5 ?_
     case c3=>(simp only[Af0];omega)
     case c4=>omega
     case c5=>simp
     intro v' w1 cK dT _;have gW:=Af3 cK;have gV:=Af3 dT;clear cK dT))
 go_ret;refine⟨_,rfl,by have:=gW.out;rwa[Ajb,Ahl] at this,((Af6 _ _).alloc (Ac2 _) _).grown gV.out (by simp) (fun k hk=>ei HO.out k hk)⟩
theorem aaA(n c:Nat)(w:Aa4):Af1 prog 135 #[.slice none n c] w fun e w'=>e=.returned (.slice none 0 0)/\w=w':=by
 have q:∀(w:Aa4) (a:Option Aay) (n c n' c':Nat),(binOp .eql 23 (.slice a n c) (.slice none n' c')).run prog w=.ok (.bool a.isNone) w:=fun w a n c n' c'=>Ai2 w _ _ a n c n' c' (U Tryz.underlying23)
 go_enter func135,Tryz.ntmps135;go_wp2;go_ret;exact⟨rfl,rfl⟩
theorem Su{α:Type}{f:α->List Value}{v:Value}{l:List α}{w:Aa4}{B:Nat}(h:Row w B 3 (fun x cs=>cs=f x) v l)(hB:B<=w.heap.size)(hf:∀x,(f x).length=3)(h1:∀x∈l,∀u∈f x,u.oneCell'=true)(hn:l.length<=1000000):
 Af1 prog 135 #[v] w fun e w'=>∃v',e=.returned v'/\w'.ownsRow w.heap.size 59 3 v' l.length (l.flatMap f)/\Below w.heap.size w w':=by
 obtain⟨A,c,rfl,-⟩:=id h;cases A with
 |none=>
  have hl:l=[]:=by
   obtain⟨A,c',hv,h1,h2,h3⟩:=h;injection hv with hA
   refine Adh fun aw=>?_
   obtain⟨ad,ha,_⟩:=h3 aw;rw[ha] at hA;cases hA
  subst hl;refine(aaA _ _ w).mono ?_
  rintro e w' ⟨rfl,rfl⟩;exact⟨_,rfl,⟨rfl,.inl ⟨rfl,rfl⟩⟩,Af6 _ _⟩
 |some ad=>
  have hc:=h.cells hf;exact aaB (zT hf l) hc.1 (CZ l h1) hn (fun aw=>by
   have:=hc.2 (by intro e;rw[e] at aw;simp at aw);omega)
theorem Oq:(prog.info? 95).map (fun i=>(i.zero,i.size,i.bytes))=some (some (.agg #[.slice none 0 0,.int .i64 0,.int .i64 0]),3,40):=by
 rw[pB];kernel_rfl
theorem aaO{ad:Aay}{n c:Nat}{news:List Value}{w:Aa4}(hl:news.length=n * 3)(hc:∀j u,news[j]?=some u-> w.cell? (ad.add j)=some u)(h1:∀u∈news,u.oneCell'=true)(hn:n<=1000000)(aC:news≠ []->ad.block<w.heap.size):
 Af1 prog 158 #[.slice (some ad) n c] w fun e w'=>∃v,e=.returned v/\w'.ownsRow w.heap.size 95 3 v n news/\Below w.heap.size w w':=by
 obtain⟨i0,cR,cT,aN,ba⟩:=Agw Oq;have bI:=Af3 (Afx cR (Afx cT (Afx aN ba)));have HC:Hid (∀j u,news[j]?=some u->(w.alloc (.cells #[] 95)).cell? (ad.add j)=some u):=Af3 (fun j u hu=>(Af7 w _ _ (by rw[cq];exact aC (by intro e;rw[e] at hu;simp at hu))).trans (hc j u hu))
 have HL:=Af3 (Afx hl h1);have HO:Hid ((w.alloc (.cells #[] 95)).ownsRow w.heap.size 95 3 (.slice (some ⟨w.heap.size,0,none⟩) 0 0) 0 []):=Af3 ⟨rfl,.inr ⟨w.heap.size,0,#[],rfl,Ac2 _,Ai0 w _,Ac2 _,by unfold Af0;omega,rfl,rfl⟩⟩
 clear hl hc h1 cR cT aN ba aC;have q:∀(w:Aa4) (a:Option Aay) (n c n' c':Nat),(binOp .eql 24 (.slice a n c) (.slice none n' c')).run prog w=.ok (.bool a.isNone) w:=fun w a n c n' c'=>Ai2 w _ _ a n c n' c' (U Tryz.underlying24)
 go_enter func158,Tryz.ntmps158;go_wp2_with (first
  | (at_builtin
     refine Agx _ rfl (.tmp 5) (.tmp 6) 24 rfl w.heap.size 95 i0 (.agg #[.slice none 0 0,.int .i64 0,.int .i64 0]) 3 40 (U Tryz.underlying24) bI.out.1 bI.out.2.1 bI.out.2.2.1 bI.out.2.2.2 rfl (by decide) _ 0 _ rfl HO.out ad n c news rfl HL.out.1 HC.out HL.out.2 ?c3 ?c4 ?c5 ?_
     case c3=>(simp only[Af0];omega)
     case c4=>omega
     case c5=>simp
     intro v' w1 cK dT _;have gW:=Af3 cK;have gV:=Af3 dT;clear cK dT))
 go_ret;refine⟨_,rfl,by have:=gW.out;rwa[Ajb,Ahl] at this,((Af6 _ _).alloc (Ac2 _) _).grown gV.out (by simp) (fun k hk=>ei HO.out k hk)⟩
theorem aaN(n c:Nat)(w:Aa4):Af1 prog 158 #[.slice none n c] w fun e w'=>e=.returned (.slice none 0 0)/\w=w':=by
 have q:∀(w:Aa4) (a:Option Aay) (n c n' c':Nat),(binOp .eql 24 (.slice a n c) (.slice none n' c')).run prog w=.ok (.bool a.isNone) w:=fun w a n c n' c'=>Ai2 w _ _ a n c n' c' (U Tryz.underlying24)
 go_enter func158,Tryz.ntmps158;go_wp2;go_ret;exact⟨rfl,rfl⟩
theorem aaM{α:Type}{f:α->List Value}{v:Value}{l:List α}{w:Aa4}{B:Nat}(h:Row w B 3 (fun x cs=>cs=f x) v l)(hB:B<=w.heap.size)(hf:∀x,(f x).length=3)(h1:∀x∈l,∀u∈f x,u.oneCell'=true)(hn:l.length<=1000000):
 Af1 prog 158 #[v] w fun e w'=>∃v',e=.returned v'/\w'.ownsRow w.heap.size 95 3 v' l.length (l.flatMap f)/\Below w.heap.size w w':=by
 obtain⟨A,c,rfl,-⟩:=id h;cases A with
 |none=>
  have hl:l=[]:=by
   obtain⟨A,c',hv,h1,h2,h3⟩:=h;injection hv with hA
   refine Adh fun aw=>?_
   obtain⟨ad,ha,_⟩:=h3 aw;rw[ha] at hA;cases hA
  subst hl;refine(aaN _ _ w).mono ?_
  rintro e w' ⟨rfl,rfl⟩;exact⟨_,rfl,⟨rfl,.inl ⟨rfl,rfl⟩⟩,Af6 _ _⟩
 |some ad=>
  have hc:=h.cells hf;exact aaO (zT hf l) hc.1 (CZ l h1) hn (fun aw=>by
   have:=hc.2 (by intro e;rw[e] at aw;simp at aw);omega)
theorem agh:(prog.info? 37).map (fun i=>(i.zero,i.size,i.bytes))=some (some (.agg #[.int .i64 0,.int .i64 0]),2,16):=by
 rw[pB];kernel_rfl
theorem aaL{ad:Aay}{n c:Nat}{news:List Value}{w:Aa4}(hl:news.length=n * 2)(hc:∀j u,news[j]?=some u-> w.cell? (ad.add j)=some u)(h1:∀u∈news,u.oneCell'=true)(hn:n<=1000000)(aC:news≠ []->ad.block<w.heap.size):
 Af1 prog 179 #[.slice (some ad) n c] w fun e w'=>∃v,e=.returned v/\w'.ownsRow w.heap.size 37 2 v n news/\Below w.heap.size w w':=by
 obtain⟨i0,cR,cT,aN,ba⟩:=Agw agh;have bI:=Af3 (Afx cR (Afx cT (Afx aN ba)));have HC:Hid (∀j u,news[j]?=some u->(w.alloc (.cells #[] 37)).cell? (ad.add j)=some u):=Af3 (fun j u hu=>(Af7 w _ _ (by rw[cq];exact aC (by intro e;rw[e] at hu;simp at hu))).trans (hc j u hu))
 have HL:=Af3 (Afx hl h1);have HO:Hid ((w.alloc (.cells #[] 37)).ownsRow w.heap.size 37 2 (.slice (some ⟨w.heap.size,0,none⟩) 0 0) 0 []):=Af3 ⟨rfl,.inr ⟨w.heap.size,0,#[],rfl,Ac2 _,Ai0 w _,Ac2 _,by unfold Af0;omega,rfl,rfl⟩⟩
 clear hl hc h1 cR cT aN ba aC;have q:∀(w:Aa4) (a:Option Aay) (n c n' c':Nat),(binOp .eql 57 (.slice a n c) (.slice none n' c')).run prog w=.ok (.bool a.isNone) w:=fun w a n c n' c'=>Ai2 w _ _ a n c n' c' (U Tryz.underlying57)
 go_enter func179,Tryz.ntmps179;go_wp2_with (first
  | (at_builtin
     refine Agx _ rfl (.tmp 5) (.tmp 6) 57 rfl w.heap.size 37 i0 (.agg #[.int .i64 0,.int .i64 0]) 2 16 (U Tryz.underlying57) bI.out.1 bI.out.2.1 bI.out.2.2.1 bI.out.2.2.2 rfl (by decide) _ 0 _ rfl HO.out ad n c news rfl HL.out.1 HC.out HL.out.2 ?c3 ?c4 ?c5 ?_
     case c3=>(simp only[Af0];omega)
     case c4=>omega
     case c5=>simp
     intro v' w1 cK dT _;have gW:=Af3 cK;have gV:=Af3 dT;clear cK dT))
 go_ret;refine⟨_,rfl,by have:=gW.out;rwa[Ajb,Ahl] at this,((Af6 _ _).alloc (Ac2 _) _).grown gV.out (by simp) (fun k hk=>ei HO.out k hk)⟩
theorem aaK(n c:Nat)(w:Aa4):Af1 prog 179 #[.slice none n c] w fun e w'=>e=.returned (.slice none 0 0)/\w=w':=by
 have q:∀(w:Aa4) (a:Option Aay) (n c n' c':Nat),(binOp .eql 57 (.slice a n c) (.slice none n' c')).run prog w=.ok (.bool a.isNone) w:=fun w a n c n' c'=>Ai2 w _ _ a n c n' c' (U Tryz.underlying57)
 go_enter func179,Tryz.ntmps179;go_wp2;go_ret;exact⟨rfl,rfl⟩
theorem aaJ{α:Type}{f:α->List Value}{v:Value}{l:List α}{w:Aa4}{B:Nat}(h:Row w B 2 (fun x cs=>cs=f x) v l)(hB:B<=w.heap.size)(hf:∀x,(f x).length=2)(h1:∀x∈l,∀u∈f x,u.oneCell'=true)(hn:l.length<=1000000):
 Af1 prog 179 #[v] w fun e w'=>∃v',e=.returned v'/\w'.ownsRow w.heap.size 37 2 v' l.length (l.flatMap f)/\Below w.heap.size w w':=by
 obtain⟨A,c,rfl,-⟩:=id h;cases A with
 |none=>
  have hl:l=[]:=by
   obtain⟨A,c',hv,h1,h2,h3⟩:=h;injection hv with hA
   refine Adh fun aw=>?_
   obtain⟨ad,ha,_⟩:=h3 aw;rw[ha] at hA;cases hA
  subst hl;refine(aaK _ _ w).mono ?_
  rintro e w' ⟨rfl,rfl⟩;exact⟨_,rfl,⟨rfl,.inl ⟨rfl,rfl⟩⟩,Af6 _ _⟩
 |some ad=>
  have hc:=h.cells hf;exact aaL (zT hf l) hc.1 (CZ l h1) hn (fun aw=>by
   have:=hc.2 (by intro e;rw[e] at aw;simp at aw);omega)
theorem VG:(prog.info? 3).map (fun i=>(i.zero,i.size,i.bytes))=some (some (.int .i64 0),1,8):=by
 rw[pB];kernel_rfl
theorem aaF{ad:Aay}{n c:Nat}{news:List Value}{w:Aa4}(hl:news.length=n * 1)(hc:∀j u,news[j]?=some u-> w.cell? (ad.add j)=some u)(h1:∀u∈news,u.oneCell'=true)(hn:n<=1000000)(aC:news≠ []->ad.block<w.heap.size):
 Af1 prog 180 #[.slice (some ad) n c] w fun e w'=>∃v,e=.returned v/\w'.ownsRow w.heap.size 3 1 v n news/\Below w.heap.size w w':=by
 obtain⟨i0,cR,cT,aN,ba⟩:=Agw VG;have bI:=Af3 (Afx cR (Afx cT (Afx aN ba)));have HC:Hid (∀j u,news[j]?=some u->(w.alloc (.cells #[] 3)).cell? (ad.add j)=some u):=Af3 (fun j u hu=>(Af7 w _ _ (by rw[cq];exact aC (by intro e;rw[e] at hu;simp at hu))).trans (hc j u hu))
 have HL:=Af3 (Afx hl h1);have HO:Hid ((w.alloc (.cells #[] 3)).ownsRow w.heap.size 3 1 (.slice (some ⟨w.heap.size,0,none⟩) 0 0) 0 []):=Af3 ⟨rfl,.inr ⟨w.heap.size,0,#[],rfl,Ac2 _,Ai0 w _,Ac2 _,by unfold Af0;omega,rfl,rfl⟩⟩
 clear hl hc h1 cR cT aN ba aC;have q:∀(w:Aa4) (a:Option Aay) (n c n' c':Nat),(binOp .eql 33 (.slice a n c) (.slice none n' c')).run prog w=.ok (.bool a.isNone) w:=fun w a n c n' c'=>Ai2 w _ _ a n c n' c' (U Tryz.underlying33)
 go_enter func180,Tryz.ntmps180;go_wp2_with (first
  | (at_builtin
     refine Agx _ rfl (.tmp 5) (.tmp 6) 33 rfl w.heap.size 3 i0 (.int .i64 0) 1 8 (U Tryz.underlying33) bI.out.1 bI.out.2.1 bI.out.2.2.1 bI.out.2.2.2 rfl (by decide) _ 0 _ rfl HO.out ad n c news rfl HL.out.1 HC.out HL.out.2 ?c3 ?c4 ?c5 ?_
     case c3=>(simp only[Af0];omega)
     case c4=>omega
     case c5=>simp
     intro v' w1 cK dT _;have gW:=Af3 cK;have gV:=Af3 dT;clear cK dT))
 go_ret;refine⟨_,rfl,by have:=gW.out;rwa[Ajb,Ahl] at this,((Af6 _ _).alloc (Ac2 _) _).grown gV.out (by simp) (fun k hk=>ei HO.out k hk)⟩
theorem aaE(n c:Nat)(w:Aa4):Af1 prog 180 #[.slice none n c] w fun e w'=>e=.returned (.slice none 0 0)/\w=w':=by
 have q:∀(w:Aa4) (a:Option Aay) (n c n' c':Nat),(binOp .eql 33 (.slice a n c) (.slice none n' c')).run prog w=.ok (.bool a.isNone) w:=fun w a n c n' c'=>Ai2 w _ _ a n c n' c' (U Tryz.underlying33)
 go_enter func180,Tryz.ntmps180;go_wp2;go_ret;exact⟨rfl,rfl⟩
theorem aaD{α:Type}{f:α->List Value}{v:Value}{l:List α}{w:Aa4}{B:Nat}(h:Row w B 1 (fun x cs=>cs=f x) v l)(hB:B<=w.heap.size)(hf:∀x,(f x).length=1)(h1:∀x∈l,∀u∈f x,u.oneCell'=true)(hn:l.length<=1000000):
 Af1 prog 180 #[v] w fun e w'=>∃v',e=.returned v'/\w'.ownsRow w.heap.size 3 1 v' l.length (l.flatMap f)/\Below w.heap.size w w':=by
 obtain⟨A,c,rfl,-⟩:=id h;cases A with
 |none=>
  have hl:l=[]:=by
   obtain⟨A,c',hv,h1,h2,h3⟩:=h;injection hv with hA
   refine Adh fun aw=>?_
   obtain⟨ad,ha,_⟩:=h3 aw;rw[ha] at hA;cases hA
  subst hl;refine(aaE _ _ w).mono ?_
  rintro e w' ⟨rfl,rfl⟩;exact⟨_,rfl,⟨rfl,.inl ⟨rfl,rfl⟩⟩,Af6 _ _⟩
 |some ad=>
  have hc:=h.cells hf;exact aaF (zT hf l) hc.1 (CZ l h1) hn (fun aw=>by
   have:=hc.2 (by intro e;rw[e] at aw;simp at aw);omega)
end Go.Tw
namespace Go.Tw
variable [Go.Tw.aR]
open Go Go.Proofs Go.RowKit
def cW{α:Type}(w:Aa4)(No:Nat->Prop)(sz:Nat)(R:α->List Value->Prop)(v:Value)(xs:List α):Prop:=
 ∃A c,v=.slice A xs.length c/\xs.length<=c/\c<=Af0/\(xs≠ []->∃ad,A=some ad/\ad.block<w.heap.size/\¬No ad.block/\
  ∀i x,xs[i]?=some x->∃cs,R x cs/\cs.length=sz/\∀j u,cs[j]?=some u-> w.cell? (ad.add (i * sz+j))=some u)
section
variable {α:Type}{w w':Aa4}{No Gf:Nat->Prop}{B sz:Nat}{R:α->List Value->Prop}{v:Value}{xs:List α}
theorem cW.grown{row:Option Nat}(h:cW w No sz R v xs)(hg:w.grownBy w' row)(hr:∀k,row=some k->No k):cW w' No sz R v xs:=by
 obtain⟨A,c,hv,h1,h2,h3⟩:=h;refine⟨A,c,hv,h1,h2,fun hx=>?_⟩
 obtain⟨ad,ha,hb,hn,hc⟩:=h3 hx;refine⟨ad,ha,Aeh hb hg.size,hn,fun i x hi=>?_⟩
 obtain⟨cs,r,hl,au⟩:=hc i x hi;refine⟨cs,r,hl,fun j u hu=>?_⟩
 refine(World.cell?_of_block (hg.block (ad.add (i * sz+j)).block (by rw[cq];exact hb) (fun e=>hn ?_))).trans (au j u hu)
 rw[cq] at e;exact hr _ e.symm
theorem Row.um(h:Row w B sz R v xs)(hB:B<=w.heap.size)(hN:∀k,No k->B<=k):cW w No sz R v xs:=by
 obtain⟨A,c,hv,h1,h2,h3⟩:=h;refine⟨A,c,hv,h1,h2,fun hx=>?_⟩
 obtain⟨ad,ha,hb,hc⟩:=h3 hx;exact⟨ad,ha,by omega,fun hk=>by have:=hN _ hk;omega,hc⟩
theorem Row.mem(h:Row w B sz R v xs):∀x∈xs,∃cs,R x cs:=fun x hx=>by
 obtain⟨A,c,hv,h1,h2,h3⟩:=h;obtain⟨i,hi⟩:=List.getElem?_of_mem hx
 obtain⟨ad,ha,hb,hc⟩:=h3 (by intro e;subst e;simp at hi)
 obtain⟨cs,r,_⟩:=hc i x hi;exact⟨cs,r⟩
theorem cW.row(h:cW w No sz R v xs):Row w w.heap.size sz R v xs:=by
 obtain⟨A,c,hv,h1,h2,h3⟩:=h;refine⟨A,c,hv,h1,h2,fun hx=>?_⟩
 obtain⟨ad,ha,hb,hn,hc⟩:=h3 hx;exact⟨ad,ha,hb,hc⟩
theorem cW.below(h:cW w No sz R v xs)(hb:Below w.heap.size w w')(hN:∀k,Gf k->No k\/w.heap.size<=k):cW w' Gf sz R v xs:=by
 obtain⟨A,c,hv,h1,h2,h3⟩:=h;refine⟨A,c,hv,h1,h2,fun hx=>?_⟩
 obtain⟨ad,ha,hl,hn,hc⟩:=h3 hx;refine⟨ad,ha,Aeh hl hb.size,fun hk=>?_,fun i x hi=>?_⟩
 ·rcases hN _ hk with h|h
  ·exact hn h
  ·omega
 ·obtain⟨cs,r,oz,au⟩:=hc i x hi
  exact⟨cs,r,oz,fun j u hu=>(hb.cell (by rw[cq];exact hl)).trans (au j u hu)⟩
theorem cW.weaken(h:cW w No sz R v xs)(hN:∀k,Gf k->No k):cW w Gf sz R v xs:=h.below (Af6 _ _) (fun k hk=>Or.inl (hN k hk))
theorem cW.vO{base:Nat}{e:Aa1}{f:α->List Value}(h:w.ownsRow base e sz v xs.length (xs.flatMap f))(hf:∀x,(f x).length=sz)(hR:∀x∈xs,R x (f x))(hN:∀k,No k->k<base):cW w No sz R v xs:=by
 obtain⟨A,c,hv,h1,h2,h3⟩:=lu (R:=R) h hf hR;refine⟨A,c,hv,h1,h2,fun hx=>?_⟩
 obtain⟨ad,ha,hb,hc⟩:=h3 hx;refine⟨ad,ha,hb,fun hk=>?_,hc⟩
 have:=ei h ad.block (by rw[hv,ha];rfl)
 have:=hN _ hk;omega
end
theorem I1{α β:Type}[Inhabited β]{w:Aa4}{B sz:Nat}{R:α->List Value->Prop}{R':α×β->List Value->Prop}{v:Value}{xs:List α}(h:Row w B sz R v xs)(hR:∀x cs,R x cs->∃k,R' (x,k) cs):
 ∃ps:List (α×β),ps.map Ajc=xs/\Row w B sz R' v ps:=by
 obtain⟨A,c,hv,h1,h2,h3⟩:=h;by_cases hx:xs=[]
 ·subst hx
  exact⟨[],rfl,A,c,hv,h1,h2,fun h=>absurd rfl h⟩
 obtain⟨ad,ha,hb,hc⟩:=h3 hx;have hk:∀i,∃k:β,∀x,xs[i]?=some x->∃cs,R' (x,k) cs/\cs.length=sz/\∀j u,cs[j]?=some u-> w.cell? (ad.add (i * sz+j))=some u:=fun i=>by
  cases e:xs[i]? with
  |none=>exact⟨default,fun x hx=>by cases hx⟩
  |some x=>
   obtain⟨cs,r,hl,au⟩:=hc i x e;obtain⟨k,hk⟩:=hR x cs r;exact⟨k,fun y hy=>by injection hy with hy;subst hy;exact⟨cs,hk,hl,au⟩⟩
 obtain⟨K,hK⟩:=Classical.axiomOfChoice hk;refine⟨xs.mapIdx fun i x=>(x,K i),?_,A,c,by simpa using hv,by simpa using h1,h2,fun _=>⟨ad,ha,hb,fun i p hi=>?_⟩⟩
 ·apply List.ext_getElem?;intro i
  simp;cases xs[i]?<;>rfl
 ·simp only[List.getElem?_mapIdx] at hi
  cases e:xs[i]? with
  |none=>rw[e] at hi;cases hi
  |some x=>
   rw[e] at hi;simp at hi;subst hi
   exact hK i x e
instance:Inhabited Value:=⟨.slice none 0 0⟩
def vV(p:Piece):List Value:=[.string p.name,.int .i64 p.len.lo,.int .i64 p.len.hi,.int .i64 p.bears]
def eP(p:bR×Value):List Value:=[.string p.1.name,.int .i64 p.1.aH,p.2]
def eG(p:Tape×Value):List Value:=[p.2,.int .i64 p.1.sum.lo,.int .i64 p.1.sum.hi]
theorem lj{w:Aa4}{base:Nat}{e:Aa1}{sz n:Nat}{v u:Value}{p:Aay}{xs:List Value}(h:w.ownsRow base e sz v n xs)(hp:∀k,v.ownBlock=some k->p.block≠k):(w.setCell p u).ownsRow base e sz v n xs:=by
 refine⟨h.1,?_⟩
 rcases h.2 with h0| ⟨g,cap,cur,h1,h2,h3,h4⟩
 ·exact .inl h0
 ·exact .inr ⟨g,cap,cur,h1,h2,(Ag8 _ _ _ _ (by rw[h1] at hp;exact Ne.symm (hp g rfl))).trans h3,h4⟩
theorem EJ{w w':Aa4}{base:Nat}{e:Aa1}{sz n:Nat}{v:Value}{xs:List Value}{row:Option Nat}(h:w.ownsRow base e sz v n xs)(hg:w.grownBy w' row)(hp:∀k,v.ownBlock=some k->row≠some k):w'.ownsRow base e sz v n xs:=by
 refine⟨h.1,?_⟩
 rcases h.2 with h0| ⟨g,cap,cur,h1,h2,h3,h4⟩
 ·exact .inl h0
 ·exact .inr ⟨g,cap,cur,h1,h2,(hg.block g (Aaf.1 h3).1 (by rw[h1] at hp;exact Ne.symm (hp g rfl))).trans h3,h4⟩
theorem vU{w:Aa4}{base:Nat}{e:Aa1}{sz n:Nat}{v:Value}{xs:List Value}(h:w.ownsRow base e sz v n xs)(k:Nat)(hk:v.ownBlock=some k):k<w.heap.size:=by
 rcases h.2 with⟨h0,_⟩ | ⟨g,cap,cur,h1,h2,h3,h4⟩
 ·rw[h0] at hk;cases hk
 ·rw[h1] at hk;injection hk with hk;subst hk;exact(Aaf.1 h3).1
theorem Be{w:Aa4}{base:Nat}{e:Aa1}{sz n m c:Nat}{A:Option Aay}{xs:List Value}(h:w.ownsRow base e sz (.slice A m c) n xs):m=n:=by
 rcases h.2 with⟨h0,h1⟩ | ⟨g,cap,cur,h1,h2,h3,h4⟩
 ·injection h0 with _ h0;omega
 ·injection h1
theorem Wt{w:Aa4}{base:Nat}{e:Aa1}{sz n m c:Nat}{A:Option Aay}{xs:List Value}(h:w.ownsRow base e sz (.slice A m c) n xs):m<=c/\c<=2 ^ 63 - 1:=by
 rcases h.2 with⟨h0,h1⟩ | ⟨g,cap,cur,h1,h2,h3,h4,h5,_⟩
 ·injection h0 with _ h0 h2;omega
 ·injection h1 with _ h6 h7;unfold Af0 at h5;omega
theorem Ww{w:Aa4}{base:Nat}{e:Aa1}{sz n m c:Nat}{A:Option Aay}{xs:List Value}(h:w.ownsRow base e sz (.slice A m c) n xs)(hm:0<m):∃g,A=some ⟨g,0,none⟩:=by
 rcases h.2 with⟨h0,h1⟩ | ⟨g,cap,cur,h1,_⟩
 ·injection h0 with _ h0;omega
 ·injection h1 with h1;exact⟨g,h1⟩
theorem uV(w:Aa4)(p:Aay)(u:Value):w.grownBy (w.setCell p u) (some p.block):=
 ⟨rfl,rfl,rfl,by simp,fun k _ hk=>Ag8 _ _ _ _ (by intro e;exact hk (by rw[e]))⟩
end Go.Tw
namespace Go.Tw
variable [Go.Tw.aR]
open Go Go.Proofs Go.RowKit
def dP(F:Act->Aa4->Prop):Exit->Act->Aa4->Prop
 | .normal,a,w=>F a w
 |_,_,_=>False
theorem dP.imp{F:Act->Aa4->Prop}{Q:Exit->Act->Aa4->Prop}(h:∀a w,F a w->Q .normal a w):∀e a w,dP F e a w->Q e a w:=fun e a w hf=>by
 cases e<;>first|exact h a w hf|exact(hf:False).elim
def rj(No:Nat->Prop)(g:Nat)(bv tv:Value)(k:Nat):Prop:=bv.ownBlock=some k\/tv.ownBlock=some k\/k=g+1\/No k
structure pI(w:Aa4)(No:Nat->Prop)(b:ao)(pv bv tv:Value)(bs:List (bR×Value))(ts:List (Tape×Value)):Prop where
 p:cW w No 4 Piece.R pv b.pieces
 bo:cW w No 3 (fun p cs=>cs=eP p) bv bs
 t:cW w No 3 (fun p cs=>cs=eG p) tv ts
 oW:bs.map Ajc=b.aF
 pD:ts.map Ajc=b.aJ
 kn:∀p∈bs,p.1.name.size<=Af0/\cW w No 2 Span.R p.2 p.1.cM
 tp:∀p∈ts,cW w No 1 cH p.2 p.1.pieces
structure CI(No:Nat->Prop)(b:ao)(w W:Aa4)(g s1 s2:Nat)(pv bv tv:Value)(bs:List (bR×Value))(ts:List (Tape×Value)):Prop where
 box:Bk W g 26 #[.int .i64 b.ag,pv,bv,tv]
 res:∃u0 u1 u2 u3,Bk W (g+1) 26 #[u0,u1,u2,u3]
 p:W.ownsRow (g+2) 72 4 pv b.pieces.length (b.pieces.flatMap vV)
 bo:W.ownsRow s1 59 3 bv bs.length (bs.flatMap eP)
 t:W.ownsRow s2 95 3 tv ts.length (ts.flatMap eG)
 oW:bs.map Ajc=b.aF
 pD:ts.map Ajc=b.aJ
 kn:∀p∈bs,cW W (rj No g bv tv) 2 Span.R p.2 p.1.cM
 tp:∀p∈ts,cW W (rj No g bv tv) 1 cH p.2 p.1.pieces
 below:Below g w W
 gz:g=w.heap.size
 g1:g+2<=s1
 g2:s1<=s2
 pl:∀k,pv.ownBlock=some k->k<s1
 bl:∀k,bv.ownBlock=some k->k<s2
theorem CI.grown{No:Nat->Prop}{b:ao}{w W W':Aa4}{g s1 s2:Nat}{pv bv tv:Value}{bs:List (bR×Value)}{ts:List (Tape×Value)}(h:CI No b w W g s1 s2 pv bv tv bs ts)(hg:W.grownBy W' none):CI No b w W' g s1 s2 pv bv tv bs ts where
 box:=h.box.grown hg (by simp)
 res:=by obtain⟨u0,u1,u2,u3,hr⟩:=h.res;exact⟨u0,u1,u2,u3,hr.grown hg (by simp)⟩
 p:=EJ h.p hg (by simp)
 bo:=EJ h.bo hg (by simp)
 t:=EJ h.t hg (by simp)
 oW:=h.oW
 pD:=h.pD
 kn p hp:=(h.kn p hp).grown hg (by simp)
 tp p hp:=(h.tp p hp).grown hg (by simp)
 below:=h.below.grown hg (by have:=h.box.lt;omega) (by simp)
 gz:=h.gz
 g1:=h.g1
 g2:=h.g2
 pl:=h.pl
 bl:=h.bl
theorem Xj{x:bR}{kv jC:Value}:∀ {bs:List (bR×Value)} {i:Nat},bs[i]?=some (x,kv)->(bs.flatMap eP).set (i * 3+2) jC=(bs.set i (x,jC)).flatMap eP
 | [],i,h=>by simp at h
 |a::l,0,h=>by simp at h;subst h;simp[eP]
 |a::l,i+1,h=>by
  have e:(i+1) * 3+2=(i * 3+2)+1+1+1:=by omega
  have ih:=Xj (jC:=jC) (bs:=l) (i:=i) (by simpa using h)
  rw[e,Ahp];simp only[eP,List.cons_append,Ahl,Ai7,Ahp];congr 3
theorem Xk{x:Tape}{kv jC:Value}:∀ {ts:List (Tape×Value)} {i:Nat},ts[i]?=some (x,kv)->(ts.flatMap eG).set (i * 3) jC=(ts.set i (x,jC)).flatMap eG
 | [],i,h=>by simp at h
 |a::l,0,h=>by simp at h;subst h;simp[eG]
 |a::l,i+1,h=>by
  have e:(i+1) * 3=(i * 3)+1+1+1:=by omega
  have ih:=Xk (jC:=jC) (ts:=l) (i:=i) (by simpa using h)
  rw[e,Ahp];simp only[eG,List.cons_append,Ahl,Ai7,Ahp];congr 3
theorem OU{α β:Type}:∀ {l:List (α×β)} {i:Nat} {x:α} {y y':β},l[i]?=some (x,y)->(l.set i (x,y')).map Ajc=l.map Ajc
 | [],i,x,y,y',h=>by simp at h
 |a::l,0,x,y,y',h=>by simp at h;subst h;simp
 |a::l,i+1,x,y,y',h=>by
  rw[Ai7,List.map_cons,OU (l:=l) (y:=y) (by simpa using h),List.map_cons]
theorem mem_set{α:Type}{l:List α}{i:Nat}{a x:α}(h:x∈l.set i a):x∈l\/x=a:=List.mem_or_eq_of_mem_set h
section
variable {No:Nat->Prop}{b:ao}{w W:Aa4}{g s1 s2:Nat}{pv bv tv:Value}{bs:List (bR×Value)}{ts:List (Tape×Value)}
theorem CI.alm{rb n c i:Nat}{x:bR}{kv jC:Value}(h:CI No b w W g s1 s2 pv (.slice (some ⟨rb,0,none⟩) n c) tv bs ts)(hx:bs[i]?=some (x,kv))(hk:cW W (rj No g (.slice (some ⟨rb,0,none⟩) n c) tv) 2 Span.R jC x.cM):
 CI No b w (W.setCell ⟨rb,i * 3+2,none⟩ jC) g s1 s2 pv (.slice (some ⟨rb,0,none⟩) n c) tv (bs.set i (x,jC)) ts:=by
 have hn:n=bs.length:=by
  rcases h.bo.2 with⟨h0,_⟩ | ⟨g',xc,cur,h1,_⟩
  ·cases h0
  ·injection h1
 have ae:=ei h.bo rb rfl;have ak:=h.bl rb rfl;have g1:=h.g1;have hi:=(Agb.1 hx).1
 have hG:=uV W ⟨rb,i * 3+2,none⟩ jC;have hN:∀k,some rb=some k->rj No g (.slice (some ⟨rb,0,none⟩) n c) tv k:=fun k e=>Or.inl e
 refine⟨h.box.dn (by simp;omega) _,(by obtain⟨u0,u1,u2,u3,hr⟩:=h.res;exact⟨u0,u1,u2,u3,hr.dn (by simp;omega) _⟩),lj h.p (fun k e=>by have:=h.pl k e;simp;omega),?_,lj h.t (fun k e=>by have:=ei h.t k e;simp;omega),?_,h.pD,?_,fun p hp=>(h.tp p hp).grown hG hN,h.below.setCell (by simp;omega) _,h.gz,h.g1,h.g2,h.pl,h.bl⟩
 ·have:=h.bo
  rw[<-hn] at this;rw[Ais,<-hn,<-Xj hx];exact IG this (by omega)
 ·rw[OU hx];exact h.oW
 ·intro p hp
  rcases mem_set hp with hp|rfl
  ·exact(h.kn p hp).grown hG hN
  ·exact hk.grown hG hN
theorem CI.alo{rb n c i:Nat}{x:Tape}{kv jC:Value}(h:CI No b w W g s1 s2 pv bv (.slice (some ⟨rb,0,none⟩) n c) bs ts)(hx:ts[i]?=some (x,kv))(hk:cW W (rj No g bv (.slice (some ⟨rb,0,none⟩) n c)) 1 cH jC x.pieces):
 CI No b w (W.setCell ⟨rb,i * 3,none⟩ jC) g s1 s2 pv bv (.slice (some ⟨rb,0,none⟩) n c) bs (ts.set i (x,jC)):=by
 have hn:n=ts.length:=by
  rcases h.t.2 with⟨h0,_⟩ | ⟨g',xc,cur,h1,_⟩
  ·cases h0
  ·injection h1
 have ae:=ei h.t rb rfl;have g1:=h.g1;have g2:=h.g2;have hi:=(Agb.1 hx).1
 have hG:=uV W ⟨rb,i * 3,none⟩ jC;have hN:∀k,some rb=some k->rj No g bv (.slice (some ⟨rb,0,none⟩) n c) k:=fun k e=>Or.inr (Or.inl e)
 refine⟨h.box.dn (by simp;omega) _,(by obtain⟨u0,u1,u2,u3,hr⟩:=h.res;exact⟨u0,u1,u2,u3,hr.dn (by simp;omega) _⟩),lj h.p (fun k e=>by have:=h.pl k e;simp;omega),lj h.bo (fun k e=>by have:=h.bl k e;simp;omega),?_,h.oW,?_,fun p hp=>(h.kn p hp).grown hG hN,?_,h.below.setCell (by simp;omega) _,h.gz,h.g1,h.g2,h.pl,h.bl⟩
 ·have:=h.t
  rw[<-hn] at this;rw[Ais,<-hn,<-Xk hx];exact IG this (by omega)
 ·rw[OU hx];exact h.pD
 ·intro p hp
  rcases mem_set hp with hp|rfl
  ·exact(h.tp p hp).grown hG hN
  ·exact hk.grown hG hN
theorem Bk.drew{w:Aa4}{g:Nat}{t:Aa1}{cs:Array Value}(h:Bk w g t cs):Bk w.drew g t cs:=h
theorem CI.start{W0 w3 w4 W:Aa4}{q1 q2 q3:Value}(h3:Below W0.heap.size W0 w3)(h4:Below w3.heap.size w3 w4)(h5:Below w4.heap.size w4 W)(hz:w.heap.size+2<=W0.heap.size)
 (kb:Bk W w.heap.size 26 #[.int .i64 b.ag,q1,q2,q3])(kr:Bk W (w.heap.size+1) 26 #[.int .i64 0,.slice none 0 0,.slice none 0 0,.slice none 0 0])
 (o9:w3.ownsRow W0.heap.size 72 4 pv b.pieces.length (b.pieces.flatMap vV))(qN:w4.ownsRow w3.heap.size 59 3 bv bs.length (bs.flatMap eP))(Bb:W.ownsRow w4.heap.size 95 3 tv ts.length (ts.flatMap eG))
 (fe:bs.map Ajc=b.aF)(il:ts.map Ajc=b.aJ)(hb:∀p∈bs,cW w No 2 Span.R p.2 p.1.cM)(ht:∀p∈ts,cW w No 1 cH p.2 p.1.pieces)(xA:∀k,No k->k<w.heap.size)(bd:Below w.heap.size w W0):
 CI No b w (((W.setCell ⟨w.heap.size,1,none⟩ pv).setCell ⟨w.heap.size,2,none⟩ bv).setCell ⟨w.heap.size,3,none⟩ tv) w.heap.size w3.heap.size w4.heap.size pv bv tv bs ts:=by
 have e3:=h3.size;have e4:=h4.size;have e5:=h5.size;have bW:Below w.heap.size w W:=((bd.trans (h3.mono (by omega))).trans (h4.mono (by omega))).trans (h5.mono (by omega))
 have bF:Below w.heap.size w (((W.setCell ⟨w.heap.size,1,none⟩ pv).setCell ⟨w.heap.size,2,none⟩ bv).setCell ⟨w.heap.size,3,none⟩ tv):=((bW.setCell (Ac2 _) _).setCell (Ac2 _) _).setCell (Ac2 _) _;have l9:=vU o9;have l12:=vU qN;have g9:=ei o9;have g12:=ei qN;have g15:=ei Bb;have hN:∀k,rj No w.heap.size bv tv k->No k\/w.heap.size<=k:=fun k hk=>by
  rcases hk with hk|hk|hk|hk
  ·have:=g12 k hk;omega
  ·have:=g15 k hk;omega
  ·omega
  ·exact Or.inl hk
 have p9:W.ownsRow W0.heap.size 72 4 pv b.pieces.length (b.pieces.flatMap vV):=qO (qO o9 h4 (Ac2 _)) h5 (Ac2 _);have Ol:W.ownsRow w3.heap.size 59 3 bv bs.length (bs.flatMap eP):=qO qN h5 (Ac2 _);refine⟨?_,⟨_,_,_,_,((kr.dn (by simp) _).dn (by simp) _).dn (by simp) _⟩,?_,?_,?_,fe,il,fun p hp=>(hb p hp).below bF hN,fun p hp=>(ht p hp).below bF hN,bF,rfl,by omega,by omega,l9,l12⟩
 ·exact((kb.set 1 pv).set 2 bv).set 3 tv
 ·exact(lj (lj (lj p9 (fun k e=>by have:=g9 k e;simp;omega)) (fun k e=>by have:=g9 k e;simp;omega)) (fun k e=>by have:=g9 k e;simp;omega)).base hz
 ·exact lj (lj (lj Ol (fun k e=>by have:=g12 k e;simp;omega)) (fun k e=>by have:=g12 k e;simp;omega)) (fun k e=>by have:=g12 k e;simp;omega)
 ·exact lj (lj (lj Bb (fun k e=>by have:=g15 k e;simp;omega)) (fun k e=>by have:=g15 k e;simp;omega)) (fun k e=>by have:=g15 k e;simp;omega)
theorem CI.Gx{rb n c i j:Nat}{p:bR×Value}{u:Value}(h:CI No b w W g s1 s2 pv (.slice (some ⟨rb,0,none⟩) n c) tv bs ts)(hx:bs[i]?=some p)(hu:(eP p)[j]?=some u): W.cell? ⟨rb,i * 3+j,none⟩=some u:=by
 have hn:=Be h.bo;have h2:=h.bo;rw[<-hn] at h2;have:=vT h2 _ _ (GL (f:=eP) (sz:=3) (fun _=>rfl) bs i _ j u hx hu)
 rwa[nu] at this
theorem CI.Gy{rb n c i j:Nat}{p:Tape×Value}{u:Value}(h:CI No b w W g s1 s2 pv bv (.slice (some ⟨rb,0,none⟩) n c) bs ts)(hx:ts[i]?=some p)(hu:(eG p)[j]?=some u): W.cell? ⟨rb,i * 3+j,none⟩=some u:=by
 have hn:=Be h.t;have h2:=h.t;rw[<-hn] at h2;have:=vT h2 _ _ (GL (f:=eG) (sz:=3) (fun _=>rfl) ts i _ j u hx hu)
 rwa[nu] at this
theorem CI.ac1{rb n c:Nat}(h:CI No b w W g s1 s2 pv (.slice (some ⟨rb,0,none⟩) n c) tv bs ts)(i:Nat): W.frozen? ⟨rb,i,none⟩=false:=by
 rcases h.bo.2 with⟨h0,_⟩ | ⟨g',xc,cur,h1,_,h3,_⟩
 ·cases h0
 ·injection h1 with h1;injection h1 with h1;injection h1 with h1;subst h1
  rw[Go.Sim.xm (a:=⟨rb,i,none⟩) h3];rfl
theorem CI.ac2{rb n c:Nat}(h:CI No b w W g s1 s2 pv bv (.slice (some ⟨rb,0,none⟩) n c) bs ts)(i:Nat): W.frozen? ⟨rb,i,none⟩=false:=by
 rcases h.t.2 with⟨h0,_⟩ | ⟨g',xc,cur,h1,_,h3,_⟩
 ·cases h0
 ·injection h1 with h1;injection h1 with h1;injection h1 with h1;subst h1
  rw[Go.Sim.xm (a:=⟨rb,i,none⟩) h3];rfl
theorem CI.Ja{i:Nat}{u:Value}(h:CI No b w W g s1 s2 pv bv tv bs ts)(hi:i<4):CI No b w (W.setCell ⟨g+1,i,none⟩ u) g s1 s2 pv bv tv bs ts:=by
 have g1:=h.g1;have g2:=h.g2;have hG:=uV W ⟨g+1,i,none⟩ u;have hN:∀k,some (g+1)=some k->rj No g bv tv k:=fun k e=>Or.inr (Or.inr (Or.inl (by injection e with e;exact e.symm)))
 refine⟨h.box.dn (by simp) _,?_,lj h.p (fun k e=>by have:=ei h.p k e;simp;omega),lj h.bo (fun k e=>by have:=ei h.bo k e;simp;omega),lj h.t (fun k e=>by have:=ei h.t k e;simp;omega),h.oW,h.pD,fun p hp=>(h.kn p hp).grown hG hN,fun p hp=>(h.tp p hp).grown hG hN,h.below.setCell (by simp) _,h.gz,h.g1,h.g2,h.pl,h.bl⟩
 obtain⟨u0,u1,u2,u3,hr⟩:=h.res;have:=hr.set i u;match i,hi with
 |0,_=>exact⟨u,u1,u2,u3,this⟩
 |1,_=>exact⟨u0,u,u2,u3,this⟩
 |2,_=>exact⟨u0,u1,u,u3,this⟩
 |3,_=>exact⟨u0,u1,u2,u,this⟩
theorem yY{α β:Type}{w:Aa4}{B sz:Nat}{R':α×β->List Value->Prop}{R:α->List Value->Prop}{v:Value}{ps:List (α×β)}(h:Row w B sz R' v ps)(hR:∀p∈ps,∀cs,R' p cs->R p.1 cs):Row w B sz R v (ps.map Ajc):=by
 obtain⟨A,c,hv,h1,h2,h3⟩:=h;refine⟨A,c,by rw[Aiw];exact hv,by rw[Aiw];exact h1,h2,fun aw=>?_⟩
 obtain⟨ad,ha,hb,hc⟩:=h3 (by intro e;rw[e] at aw;exact aw rfl)
 refine⟨ad,ha,hb,fun i x hi=>?_⟩
 rw[List.getElem?_map] at hi
 cases e:ps[i]? with
 |none=>rw[e] at hi;cases hi
 |some p=>
  rw[e] at hi;simp at hi;subst hi
  obtain⟨cs,r,hl,au⟩:=hc i p e;exact⟨cs,hR p (Agg e) cs r,hl,au⟩
theorem CI.ZO(h:CI No b w W g s1 s2 pv bv tv bs ts)(hp:∀p∈b.pieces,p.name.size<=Af0)(hx:∀x∈b.aF,x.name.size<=Af0)(xA:∀k,No k->k<g):pI W No b pv bv tv bs ts:=by
 have g1:=h.g1;have g2:=h.g2;refine⟨cW.vO h.p (fun _=>rfl) (fun p hm=>⟨rfl,hp p hm⟩) (fun k hk=>by have:=xA k hk;omega),cW.vO h.bo (fun _=>rfl) (fun p hm=>rfl) (fun k hk=>by have:=xA k hk;omega),cW.vO h.t (fun _=>rfl) (fun p hm=>rfl) (fun k hk=>by have:=xA k hk;omega),h.oW,h.pD,fun p hm=>⟨hx p.1 ?_,(h.kn p hm).weaken fun k hk=>Or.inr (Or.inr (Or.inr hk))⟩,fun p hm=>(h.tp p hm).weaken fun k hk=>Or.inr (Or.inr (Or.inr hk))⟩
 rw[<-h.oW];exact Ain.2 ⟨p,hm,rfl⟩
theorem pI.grown{W':Aa4}{row:Option Nat}(h:pI W No b pv bv tv bs ts)(hg:W.grownBy W' row)(hr:∀k,row=some k->No k):pI W' No b pv bv tv bs ts:=
 ⟨h.p.grown hg hr,h.bo.grown hg hr,h.t.grown hg hr,h.oW,h.pD,fun p hp=>⟨(h.kn p hp).1,(h.kn p hp).2.grown hg hr⟩,fun p hp=>(h.tp p hp).grown hg hr⟩
theorem pI.book(h:pI W No b pv bv tv bs ts):bg W W.heap.size b pv bv tv:=by
 refine⟨h.p.row,?_,?_⟩
 ·rw[<-h.oW]
  exact yY h.bo.row (fun p hm cs hc=>⟨p.2,hc,(h.kn p hm).1,(h.kn p hm).2.row⟩)
 ·rw[<-h.pD]
  exact yY h.t.row (fun p hm cs hc=>⟨p.2,hc,(h.tp p hm).row⟩)
theorem bg.um{B:Nat}(h:bg W B b pv bv tv)(hB:B<=W.heap.size)(hN:∀k,No k->B<=k):∃bs ts,pI W No b pv bv tv bs ts:=by
 obtain⟨bs,fe,xH⟩:=I1 (R':=fun(p:bR×Value) cs=>cs=eP p/\p.1.name.size<=Af0/\Row W B 2 Span.R p.2 p.1.cM) h.aF (fun x cs ⟨kv,h1,h2,h3⟩=>⟨kv,h1,h2,h3⟩)
 obtain⟨ts,il,pg⟩:=I1 (R':=fun(p:Tape×Value) cs=>cs=eG p/\Row W B 1 cH p.2 p.1.pieces) h.aJ (fun x cs ⟨kv,h1,h3⟩=>⟨kv,h1,h3⟩)
 have ox:∀p∈bs,p.1.name.size<=Af0/\Row W B 2 Span.R p.2 p.1.cM:=fun p hp=>by obtain⟨cs,h1,h2⟩:=xH.mem p hp;exact h2
 have rS:∀p∈ts,Row W B 1 cH p.2 p.1.pieces:=fun p hp=>by obtain⟨cs,h1,h2⟩:=pg.mem p hp;exact h2
 exact⟨bs,ts,h.pieces.um hB hN,(xH.still (Still.refl W) fun _ _ h=>h.1).um hB hN,(pg.still (Still.refl W) fun _ _ h=>h.1).um hB hN,fe,il,fun p hp=>⟨(ox p hp).1,(ox p hp).2.um hB hN⟩,fun p hp=>(rS p hp).um hB hN⟩
end
end Go.Tw
namespace Go.Tw
variable [Go.Tw.aR]
open Go Go.Proofs Go.RowKit
theorem ajI(x:Piece):∀u∈vV x,u.oneCell'=true:=by simp[vV,Value.oneCell']
theorem ago(x:Int):∀u∈ [Value.int .i64 x],u.oneCell'=true:=by simp[Value.oneCell']
theorem al5(x:Span):∀u∈Span.vs x,u.oneCell'=true:=by simp[Span.vs,Value.oneCell']
def Rh(v:Value):Prop:=∃A n c,v=.slice A n c
theorem pw{w:Aa4}{base:Nat}{e:Aa1}{sz n:Nat}{v:Value}{xs:List Value}(h:w.ownsRow base e sz v n xs):Rh v:=j8 h
theorem copied{No:Nat->Prop}{w:Aa4}{b:ao}{pv bv tv:Value}{bs:List (bR×Value)}{ts:List (Tape×Value)}(hN:pI w No b pv bv tv bs ts)(xA:∀k,No k->k<w.heap.size)(hv:Valid b):
 Af1 prog 136 #[.agg #[.int .i64 b.ag,pv,bv,tv]] w fun e w'=>∃ix ia fD oV qT,e=.returned (.agg #[.int .i64 b.ag,ix,ia,fD])/\pI w' No b ix ia fD oV qT/\Below w.heap.size w w':=by
 have ai:=hN.book;have HP:Hid (Row w w.heap.size 4 (fun x cs=>cs=vV x) pv b.pieces):=Af3 (ai.pieces.still (Still.refl w) fun _ _ h=>h.1)
 have fe:=hN.oW;have il:=hN.pD;have ox:∀p∈bs,cW w No 2 Span.R p.2 p.1.cM:=fun p hp=>(hN.kn p hp).2
 have rS:∀p∈ts,cW w No 1 cH p.2 p.1.pieces:=hN.tp
 have YR:Hid (∀p∈b.pieces,p.name.size<=Af0):=Af3 (fun p hp=>by obtain⟨cs,h1,h2⟩:=ai.pieces.mem p hp;exact h2)
 have Y1:Hid (∀x∈b.aF,x.name.size<=Af0):=Af3 (fun p hp=>by obtain⟨cs,kv,h1,h2,h3⟩:=ai.aF.mem p hp;exact h2)
 have F4:Hid (Row w w.heap.size 3 (fun p cs=>cs=eP p) bv bs):=Af3 hN.bo.row
 have YZ:Hid (Row w w.heap.size 3 (fun p cs=>cs=eG p) tv ts):=Af3 hN.t.row
 have sT:=Af3 xA;have hB:w.heap.size<=w.heap.size:=Ac2 _;have Dq:∀p∈bs,∀u∈eP p,u.oneCell'=true:=fun p hp u hu=>by
  obtain⟨A,c,e,_⟩:=(ox p hp);simp[eP] at hu;rcases hu with rfl|rfl|rfl
  ·rfl
  ·rfl
  ·rw[e];rfl
 have Vk:∀p∈ts,∀u∈eG p,u.oneCell'=true:=fun p hp u hu=>by
  obtain⟨A,c,e,_⟩:=rS p hp;simp[eG] at hu;rcases hu with rfl|rfl|rfl
  ·rw[e];rfl
  ·rfl
  ·rfl
 have fX:bs.length=b.aF.length:=by rw[<-fe,Aiw]
 have qG:ts.length=b.aJ.length:=by rw[<-il,Aiw]
 have C1:Hid (∀w',Still w.heap.size w w'->w.heap.size<=w'.heap.size->Af1 prog 155 #[pv] w' fun e bq=>∃v',e=.returned v'/\bq.ownsRow w'.heap.size 72 4 v' b.pieces.length (b.pieces.flatMap vV)/\Below w'.heap.size w' bq):=
  Af3 fun w' hs hz=>aaG (HP.out.still hs fun _ _ h=>h) hz (fun _=>rfl) (fun p _=>ajI p) (by have:=hv.np;omega)
 have C2:Hid (∀w',Still w.heap.size w w'->w.heap.size<=w'.heap.size->Af1 prog 135 #[bv] w' fun e bq=>∃v',e=.returned v'/\bq.ownsRow w'.heap.size 59 3 v' bs.length (bs.flatMap eP)/\Below w'.heap.size w' bq):=
  Af3 fun w' hs hz=>Su (F4.out.still hs fun _ _ h=>h) hz (fun _=>rfl) Dq (by have:=hv.nb;omega)
 have C3:Hid (∀w',Still w.heap.size w w'->w.heap.size<=w'.heap.size->Af1 prog 158 #[tv] w' fun e bq=>∃v',e=.returned v'/\bq.ownsRow w'.heap.size 95 3 v' ts.length (ts.flatMap eG)/\Below w'.heap.size w' bq):=
  Af3 fun w' hs hz=>aaM (YZ.out.still hs fun _ _ h=>h) hz (fun _=>rfl) Vk (by have:=hv.nt;omega)
 have HM:=Af3 (Afx ox (Afx rS (Afx fe (Afx il (Afx fX qG)))));obtain⟨A1,n1,c1,rfl,-⟩:=ai.pieces.open_;obtain⟨A2,n2,c2,rfl,-⟩:=ai.aF.open_;obtain⟨A3,n3,c3,rfl,-⟩:=ai.aJ.open_;have HV:=Af3 hv;clear ai hv ox rS Dq Vk fe il fX qG hN xA;go_enter func136,Tryz.ntmps136;go_wp2;obtain⟨W0,z8⟩:∃W0,W0=((w.alloc (.cells #[.int .i64 b.ag,.slice A1 n1 c1,.slice A2 n2 c2,.slice A3 n3 c3] 26)).alloc (.cells #[.int .i64 0,.slice none 0 0,.slice none 0 0,.slice none 0 0] 26)):=⟨_,rfl⟩
 rw[<-z8];have kb:Bk W0 w.heap.size 26 #[.int .i64 b.ag,.slice A1 n1 c1,.slice A2 n2 c2,.slice A3 n3 c3]:=by rw[z8];exact(Bk.new w _ _).alloc _
 have kr:Bk W0 (w.heap.size+1) 26 #[.int .i64 0,.slice none 0 0,.slice none 0 0,.slice none 0 0]:=by rw[z8];exact Bk.cG (by simp) _ _
 have bw:Below w.heap.size w W0:=by rw[z8];exact(((Af6 _ _).alloc (Ac2 _) _).alloc (by simp) _)
 have cT:W0.heap.size=w.heap.size+2:=by rw[z8];simp
 have KB:=Af3 (Afx kb kr);have BW:=Af3 bw;have k1:=kb.cell 1;have k2:=kb.cell 2;have k3:=kb.cell 3;clear z8 kb kr bw;have KD:Hid (Bk W0.drew w.heap.size 26 #[.int .i64 b.ag,.slice A1 n1 c1,.slice A2 n2 c2,.slice A3 n3 c3]):=Af3 KB.out.1;have BD:Hid (Below w.heap.size w W0.drew):=Af3 (iY BW.out);have ZD:w.heap.size<W0.drew.heap.size:=KD.out.lt;have SB:Hid (∀w',Below w.heap.size w w'->Still w.heap.size w w'/\w.heap.size<=w'.heap.size):=Af3 fun w' h=>⟨Still.aK h hB,by have:=h.size;omega⟩
 refine Code.wp_mono (Q:=dP fun a W=>∃A9 n9 c9 mh iq c12 pG n15 c15,a={tmps:=#[Value.agg #[Value.int Ack b.ag,Value.slice A1 n1 c1,Value.slice A2 n2 c2,Value.slice A3 n3 c3],Value.pointer (some {block:=w.heap.size,off:=0}),Value.pointer (some {block:=w.heap.size+1,off:=0}),undef,undef,undef,undef,Value.pointer (some {block:=w.heap.size,off:=1}),Value.slice A1 n1 c1,Value.slice A9 n9 c9,Value.pointer (some {block:=w.heap.size,off:=2}),Value.slice A2 n2 c2,Value.slice mh iq c12,Value.pointer (some {block:=w.heap.size,off:=3}),Value.slice A3 n3 c3,Value.slice pG n15 c15,Value.pointer (some {block:=w.heap.size,off:=1}),Value.pointer (some {block:=w.heap.size,off:=2}),Value.pointer (some {block:=w.heap.size,off:=3}),undef,undef,undef,undef,undef,undef,undef,undef,undef,undef,undef,undef,undef,undef,undef,undef,undef,undef,undef,undef,undef,undef,undef,undef,undef,undef,undef,undef,undef,undef,undef,undef,undef,undef,undef],defers:=[]}/\Hid (∃s1 s2,CI No b w W w.heap.size s1 s2 (.slice A9 n9 c9) (.slice mh iq c12) (.slice pG n15 c15) bs ts)) ?post ?region
 case region=>
  go_region_with (first
   | (go_at_call 155
      refine(C1.out _ ?h1 ?h2).mono ?_
      case h1=>exact(SB.out _ BD.out).1
      case h2=>exact(SB.out _ BD.out).2
      rintro e w3 ⟨v9,rfl,o9,bD⟩;have k1: w3.cell? ⟨w.heap.size,1,none⟩=some (.slice A1 n1 c1):=(KD.out.below bD ZD).cell 1;have k2: w3.cell? ⟨w.heap.size,2,none⟩=some (.slice A2 n2 c2):=(KD.out.below bD ZD).cell 2;have k3: w3.cell? ⟨w.heap.size,3,none⟩=some (.slice A3 n3 c3):=(KD.out.below bD ZD).cell 3;have fw:=Af3 bD;have O9:=Af3 o9;obtain⟨A9,n9,c9,rfl⟩:=pw o9;clear bD o9)
   | (go_at_call 135
      refine(C2.out _ ?h1 ?h2).mono ?_
      case h1=>exact(SB.out _ (BD.out.trans (fw.out.mono (Agr ZD)))).1
      case h2=>exact(SB.out _ (BD.out.trans (fw.out.mono (Agr ZD)))).2
      rintro e w4 ⟨v12,rfl,qN,cO⟩;have k3: w4.cell? ⟨w.heap.size,3,none⟩=some (.slice A3 n3 c3):=((KD.out.below fw.out ZD).below cO (by have:=fw.out.size;omega)).cell 3
      have jK:=Af3 cO;have zv:=Af3 qN;obtain⟨mh,iq,c12,rfl⟩:=pw qN;clear cO qN)
   | (go_at_call 158
      refine(C3.out _ ?h1 ?h2).mono ?_
      case h1=>exact(SB.out _ ((BD.out.trans (fw.out.mono (Agr ZD))).trans (jK.out.mono (by have:=fw.out.size;omega)))).1
      case h2=>exact(SB.out _ ((BD.out.trans (fw.out.mono (Agr ZD))).trans (jK.out.mono (by have:=fw.out.size;omega)))).2
      rintro e w5 ⟨v15,rfl,Bb,eR⟩;have uD:Hid (Bk w5 w.heap.size 26 #[.int .i64 b.ag,.slice A1 n1 c1,.slice A2 n2 c2,.slice A3 n3 c3]):=Af3 (((KD.out.below fw.out ZD).below jK.out (by have:=fw.out.size;omega)).below eR (by have:=fw.out.size;have:=jK.out.size;omega))
      have z5:w.heap.size<w5.heap.size:=uD.out.lt;have f1: w5.frozen? ⟨w.heap.size,1,none⟩=false:=uD.out.frozen 1;have f2: w5.frozen? ⟨w.heap.size,2,none⟩=false:=uD.out.frozen 2;have f3: w5.frozen? ⟨w.heap.size,3,none⟩=false:=uD.out.frozen 3;have k1: w5.cell? ⟨w.heap.size,1,none⟩=some (.slice A1 n1 c1):=uD.out.cell 1;have k2: w5.cell? ⟨w.heap.size,2,none⟩=some (.slice A2 n2 c2):=uD.out.cell 2;have k3: w5.cell? ⟨w.heap.size,3,none⟩=some (.slice A3 n3 c3):=uD.out.cell 3;have mi:=Af3 eR;have Zc:=Af3 Bb;obtain⟨pG,n15,c15,rfl⟩:=pw Bb;clear eR Bb))
  all_goals
   show ∃_,_
   refine⟨_,_,_,_,_,_,_,_,_,rfl,Af3 ⟨w3.heap.size,w4.heap.size,?_⟩⟩
   have e3:=fw.out.size;have e4:=jK.out.size;have hd0:w.heap.size+2<=W0.drew.heap.size:=Ago cT.symm;refine CI.start (W:=w5) fw.out jK.out mi.out hd0 uD.out (((KB.out.2.drew.below fw.out (by omega)).below jK.out (by omega)).below mi.out (by omega)) O9.out zv.out Zc.out HM.out.2.2.1 HM.out.2.2.2.1 HM.out.1 HM.out.2.1 sT.out BD.out
 case post=>
  clear C1 C2 C3 KB KD BD BW HP k1 k2 k3 SB;refine dP.imp ?_
  rintro a W ⟨A9,n9,c9,mh,iq,c12,pG,n15,c15,rfl,s1,s2,HC⟩;have UB:iq=bs.length:=Be HC.bo;have UC:n15=ts.length:=Be HC.t;have aov:iq<=3:=by have:=HV.out.nb;have:=HM.out.2.2.2.2.1;omega
  have aox:n15<=4:=by have:=HV.out.nt;have:=HM.out.2.2.2.2.2;omega
  have k2: W.cell? ⟨w.heap.size,2,none⟩=some (.slice mh iq c12):=HC.box.cell 2;have an3:iq<=c12/\c12<=2 ^ 63 - 1:=Wt HC.bo;have an4:n15<=c15/\c15<=2 ^ 63 - 1:=Wt HC.t;have HL:=Af3 (Afx UB UC);clear UB UC;have HC:=Af3 HC;rename_i Kt;clear Kt ZD cT;go_wp2;clear k2;go_loopw [22] (fun u wr=>∃i:Nat,i<=iq/\u=.int .i64 i/\Hid (∃oV,CI No b w wr w.heap.size s1 s2 (.slice A9 n9 c9) (.slice mh iq c12) (.slice pG n15 c15) oV ts)) (fun u _=>iq - (Ag7 u).toNat)
  case atStart=>exact⟨0,Agm _,rfl,Af3 ⟨bs,HC.out⟩⟩
  case round=>
   obtain⟨i,hi,rfl,oV,hC⟩:=hrel;by_cases al:i<iq
   ·obtain⟨rb,rfl⟩:=Ww hC.bo (by omega)
    have tE:iq=oV.length:=Be hC.bo;obtain⟨⟨x,kv⟩,hx⟩:∃p,oV[i]?=some p:=⟨_,Aga (by omega)⟩
    have da:=hC.kn _ (Agg hx);simp only at da;have hxs:x.cM.length<=3:=by
     have:x∈b.aF:=by rw[<-hC.oW];exact Ain.2 ⟨_,Agg hx,rfl⟩
     exact(HV.out.bp x this).cM
    obtain⟨kn,rI⟩:∃k,k=x.cM:=⟨_,rfl⟩
    rw[<-rI] at da hxs;obtain⟨m5,rN⟩:∃m,m=kn.length:=⟨_,rfl⟩
    obtain⟨A5,c5,rfl,-⟩:=id da;rw[<-rN] at da hxs hx;have g0: wr.cell? ⟨rb,i * 3,none⟩=some (.string x.name):=hC.Gx (j:=0) hx rfl;have g1: wr.cell? ⟨rb,i * 3+1,none⟩=some (.int .i64 x.aH):=hC.Gx (j:=1) hx rfl;have g2: wr.cell? ⟨rb,i * 3+2,none⟩=some (.slice A5 m5 c5):=hC.Gx (j:=2) hx rfl;have mF:rb<wr.heap.size:=vU hC.bo rb rfl;have Aq:w.heap.size<rb:=by have:=ei hC.bo rb rfl;have:=hC.g1;omega
    have HX:=Af3 (Afx hx (Afx rI rN));have KE:=Af3 da;have qZ:=Af3 hC;clear hx da hC rI rN tE;go_wp2;have oo:=qZ.out.grown (W':=(wr.alloc (.cells #[.string x.name,.int .i64 x.aH,.slice A5 m5 c5] 59)).drew) (qd wr _ none);have Kx:=Af3 oo;have Ep:(wr.alloc (.cells #[.string x.name,.int .i64 x.aH,.slice A5 m5 c5] 59)).drew.cell? ⟨w.heap.size,2,none⟩=some (.slice (some ⟨rb,0,none⟩) iq c12):=oo.box.cell 2;have Di:(wr.alloc (.cells #[.string x.name,.int .i64 x.aH,.slice A5 m5 c5] 59)).drew.cell? ⟨wr.heap.size,2,none⟩=some (.slice A5 m5 c5):=(Bk.new wr _ _).cell 2;have aB:Hid (Af1 prog 179 #[.slice A5 m5 c5] (wr.alloc (.cells #[.string x.name,.int .i64 x.aH,.slice A5 m5 c5] 59)).drew fun e w'=>∃v',e=.returned v'/\
     cW w' (rj No w.heap.size (.slice (some ⟨rb,0,none⟩) iq c12) (.slice pG n15 c15)) 2 Span.R v' kn/\Below (wr.alloc (.cells #[.string x.name,.int .i64 x.aH,.slice A5 m5 c5] 59)).drew.heap.size (wr.alloc (.cells #[.string x.name,.int .i64 x.aH,.slice A5 m5 c5] 59)).drew w'):=Af3 (by
     have hk:=KE.out.grown (w':=(wr.alloc (.cells #[.string x.name,.int .i64 x.aH,.slice A5 m5 c5] 59)).drew) (qd wr _ none) (by simp)
     obtain⟨r0,r1,r2,r3,lf⟩:=oo.res;refine(aaJ hk.row (Ac2 _) (fun _=>rfl) (fun p _=>al5 p) (by rw[<-HX.out.2.2];omega)).mono ?_
     rintro e w' ⟨v',rfl,ho,hb⟩;refine⟨v',rfl,cW.vO ho (fun _=>rfl) (fun _ _=>rfl) (fun k hk=>?_),hb⟩
     rcases hk with hk|hk|hk|hk
     ·exact vU oo.bo k hk
     ·exact vU oo.t k hk
     ·rw[hk];exact lf.lt
     ·have:=sT.out k hk;have:=lf.lt;omega)
    clear oo;go_region_held3 (fun w'=> w'.cell? ⟨w.heap.size,2,none⟩=some (.slice (some ⟨rb,0,none⟩) iq c12)/\ w'.cell? ⟨wr.heap.size,2,none⟩=some (.slice A5 m5 c5))
     (first|exact⟨Ep,Di⟩ |exact⟨mH,ak⟩ |exact⟨rY _,ef _⟩)
     (first
       | (go_at_call 179
          refine aB.out.mono ?_
          rintro e w5 ⟨v9,rfl,r9,oZ⟩;obtain⟨A7,c7,rfl,-⟩:=id r9;have mH: w5.cell? ⟨w.heap.size,2,none⟩=some (.slice (some ⟨rb,0,none⟩) iq c12):=(oZ.cell (by simp;omega)).trans Ep
          have ak: w5.cell? ⟨wr.heap.size,2,none⟩=some (.slice A5 m5 c5):=(oZ.cell (by simp)).trans Di
          have cX:=Kx.out.grown (je oZ (Ac2 _) none);have hg: w5.cell? ⟨rb,i * 3+2,none⟩=some (.slice A5 m5 c5):=cX.Gx (j:=2) HX.out.1 rfl;have hf: w5.frozen? ⟨rb,i * 3+2,none⟩=false:=cX.ac1 _;have rY:∀u,(w5.setCell ⟨rb,i * 3+2,none⟩ u).cell? ⟨w.heap.size,2,none⟩=some (.slice (some ⟨rb,0,none⟩) iq c12):=fun u=>(Ai5 _ _ _ _ (by simp;omega)).trans mH
          have ef:∀u,(w5.setCell ⟨rb,i * 3+2,none⟩ u).cell? ⟨wr.heap.size,2,none⟩=some (.slice A5 m5 c5):=fun u=>(Ai5 _ _ _ _ (by simp;omega)).trans ak
          have lF:=Af3 (Afx r9 cX);clear oZ r9 cX))
    go_wp2;go_roundw;case rel=>exact⟨i+1,by omega,by go_num,Af3 ⟨_,lF.out.2.alm HX.out.1 (by rw[<-HX.out.2.1];exact lF.out.1)⟩⟩
    case measure=>simp[Ag7];omega
   ·obtain rfl:i=iq:=by omega
    have Ku:=Af3 hC;obtain⟨wb,rfl⟩:∃wb:Aa4,wb=wr:=⟨_,rfl⟩
    have k3: wb.cell? ⟨w.heap.size,3,none⟩=some (.slice pG n15 c15):=hC.box.cell 3;clear hC;go_wp2;clear k3;go_loopw [39] (fun u wr=>∃k:Nat,k<=n15/\u=.int .i64 k/\Hid (∃qT,CI No b w wr w.heap.size s1 s2 (.slice A9 n9 c9) (.slice mh i c12) (.slice pG n15 c15) oV qT)) (fun u _=>n15 - (Ag7 u).toNat)
    case atStart=>exact⟨0,Agm _,rfl,Af3 ⟨ts,Ku.out⟩⟩
    case round=>
     obtain⟨k,hk,rfl,qT,hC⟩:=hrel;by_cases al:k<n15
     ·obtain⟨rb,rfl⟩:=Ww hC.t (by omega)
      have tE:n15=qT.length:=Be hC.t;obtain⟨⟨x,kv⟩,hx⟩:∃p,qT[k]?=some p:=⟨_,Aga (by omega)⟩
      have da:=hC.tp _ (Agg hx);simp only at da;have hxs:x.pieces.length<=3:=by
       have:x∈b.aJ:=by rw[<-hC.pD];exact Ain.2 ⟨_,Agg hx,rfl⟩
       have:=(HV.out.tape x this).2;have:=HV.out.np;omega
      obtain⟨kn,rI⟩:∃k,k=x.pieces:=⟨_,rfl⟩
      rw[<-rI] at da hxs;obtain⟨m5,rN⟩:∃m,m=kn.length:=⟨_,rfl⟩
      obtain⟨A5,c5,rfl,-⟩:=id da;rw[<-rN] at da hxs hx;have g0: wr.cell? ⟨rb,k * 3,none⟩=some (.slice A5 m5 c5):=hC.Gy (j:=0) hx rfl;have g1: wr.cell? ⟨rb,k * 3+1,none⟩=some (.int .i64 x.sum.lo):=hC.Gy (j:=1) hx rfl;have g2: wr.cell? ⟨rb,k * 3+2,none⟩=some (.int .i64 x.sum.hi):=hC.Gy (j:=2) hx rfl;have mF:rb<wr.heap.size:=vU hC.t rb rfl;have Aq:w.heap.size<rb:=by have:=ei hC.t rb rfl;have:=hC.g1;have:=hC.g2;omega
      have HX:=Af3 (Afx hx (Afx rI rN));have KE:=Af3 da;have qZ:=Af3 hC;clear hx da hC rI rN tE;go_wp2;have oo:=qZ.out.grown (W':=(wr.alloc (.cells #[.slice A5 m5 c5,.int .i64 x.sum.lo,.int .i64 x.sum.hi] 95)).drew) (qd wr _ none);have Kx:=Af3 oo;have Ep:(wr.alloc (.cells #[.slice A5 m5 c5,.int .i64 x.sum.lo,.int .i64 x.sum.hi] 95)).drew.cell? ⟨w.heap.size,3,none⟩=some (.slice (some ⟨rb,0,none⟩) n15 c15):=oo.box.cell 3;have Di:(wr.alloc (.cells #[.slice A5 m5 c5,.int .i64 x.sum.lo,.int .i64 x.sum.hi] 95)).drew.cell? ⟨wr.heap.size,0,none⟩=some (.slice A5 m5 c5):=(Bk.new wr _ _).cell 0;have aB:Hid (Af1 prog 180 #[.slice A5 m5 c5] (wr.alloc (.cells #[.slice A5 m5 c5,.int .i64 x.sum.lo,.int .i64 x.sum.hi] 95)).drew fun e w'=>∃v',e=.returned v'/\
               cW w' (rj No w.heap.size (.slice mh i c12) (.slice (some ⟨rb,0,none⟩) n15 c15)) 1 cH v' kn/\Below (wr.alloc (.cells #[.slice A5 m5 c5,.int .i64 x.sum.lo,.int .i64 x.sum.hi] 95)).drew.heap.size (wr.alloc (.cells #[.slice A5 m5 c5,.int .i64 x.sum.lo,.int .i64 x.sum.hi] 95)).drew w'):=Af3 (by
       have hk:=KE.out.grown (w':=(wr.alloc (.cells #[.slice A5 m5 c5,.int .i64 x.sum.lo,.int .i64 x.sum.hi] 95)).drew) (qd wr _ none) (by simp)
       obtain⟨r0,r1,r2,r3,lf⟩:=oo.res;refine(aaD (f:=fun n=> [.int .i64 n]) hk.row (Ac2 _) (fun _=>rfl) (fun p _=>ago p) (by rw[<-HX.out.2.2];omega)).mono ?_
       rintro e w' ⟨v',rfl,ho,hb⟩;refine⟨v',rfl,cW.vO ho (fun _=>rfl) (fun _ _=>rfl) (fun k hk=>?_),hb⟩
       rcases hk with hk|hk|hk|hk
       ·exact vU oo.bo k hk
       ·exact vU oo.t k hk
       ·rw[hk];exact lf.lt
       ·have:=sT.out k hk;have:=lf.lt;omega)
      clear oo;go_region_held3 (fun w'=> w'.cell? ⟨w.heap.size,3,none⟩=some (.slice (some ⟨rb,0,none⟩) n15 c15)/\ w'.cell? ⟨wr.heap.size,0,none⟩=some (.slice A5 m5 c5))
       (first|exact⟨Ep,Di⟩ |exact⟨mH,ak⟩ |exact⟨rY _,ef _⟩)
       (first
               | (go_at_call 180
                  refine aB.out.mono ?_
                  rintro e w5 ⟨v9,rfl,r9,oZ⟩;obtain⟨A7,c7,rfl,-⟩:=id r9;have mH: w5.cell? ⟨w.heap.size,3,none⟩=some (.slice (some ⟨rb,0,none⟩) n15 c15):=(oZ.cell (by simp;omega)).trans Ep
                  have ak: w5.cell? ⟨wr.heap.size,0,none⟩=some (.slice A5 m5 c5):=(oZ.cell (by simp)).trans Di
                  have cX:=Kx.out.grown (je oZ (Ac2 _) none);have hg: w5.cell? ⟨rb,k * 3,none⟩=some (.slice A5 m5 c5):=cX.Gy (j:=0) HX.out.1 rfl;have hf: w5.frozen? ⟨rb,k * 3,none⟩=false:=cX.ac2 _;have rY:∀u,(w5.setCell ⟨rb,k * 3,none⟩ u).cell? ⟨w.heap.size,3,none⟩=some (.slice (some ⟨rb,0,none⟩) n15 c15):=fun u=>(Ai5 _ _ _ _ (by simp;omega)).trans mH
                  have ef:∀u,(w5.setCell ⟨rb,k * 3,none⟩ u).cell? ⟨wr.heap.size,0,none⟩=some (.slice A5 m5 c5):=fun u=>(Ai5 _ _ _ _ (by simp;omega)).trans ak
                  have lF:=Af3 (Afx r9 cX);clear oZ r9 cX))
      go_wp2;go_roundw;case rel=>exact⟨k+1,by omega,by go_num,Af3 ⟨_,lF.out.2.alo HX.out.1 (by rw[<-HX.out.2.1];exact lF.out.1)⟩⟩
      case measure=>simp[Ag7];omega
     ·obtain rfl:k=n15:=by omega
      have q0:=hC.box.cell 0;have q1:=hC.box.cell 1;have q2:=hC.box.cell 2;have q3:=hC.box.cell 3;obtain⟨r0,r1,r2,r3,lf⟩:=hC.res;have p0:=lf.cell 0;have p1:=lf.cell 1;have p2:=lf.cell 2;have p3:=lf.cell 3;have f0:=lf.frozen 0;have f1:=lf.frozen 1;have f2:=lf.frozen 2;have f3:=lf.frozen 3;have rV:w.heap.size+1<wr.heap.size:=lf.lt;have qZ:=Af3 hC;clear hC;have qz:=((((lf.set 0 (.int .i64 b.ag)).set 1 (.slice A9 n9 c9)).set 2 (.slice mh i c12)).set 3 (.slice pG k c15));have y0:=qz.cell 0;have y1:=qz.cell 1;have y2:=qz.cell 2;have y3:=qz.cell 3;have QY:=Af3 ((((qZ.out.Ja (i:=0) (u:=.int .i64 b.ag) (by omega)).Ja (i:=1) (u:=.slice A9 n9 c9) (by omega)).Ja (i:=2) (u:=.slice mh i c12) (by omega)).Ja (i:=3) (u:=.slice pG k c15) (by omega))
      clear lf qz;go_wp2;refine Ag1 (v:=.agg #[.int .i64 b.ag,.slice A9 n9 c9,.slice mh i c12,.slice pG k c15]) (by simp[results,Tryz.results136,go_sem,y0,y1,y2,y3]) rfl ⟨_,_,_,_,_,rfl,QY.out.ZO YR.out Y1.out sT.out,QY.out.below⟩
theorem ug{P:Program}{ops:Array Oper}{o:Oper}{a:Act}{w:Aa4}{K:Act->Aa4->Prop}{Q:Exit->Act->Aa4->Prop}{E:Prop}(hg:o.guard=none)(s x:Operand)(t:Aa1)
 (ho:o.op=.call {callee:=.builtin .append,args:=#[s,x],argTypes:=#[t,t]})
 (base:Nat)(e:Aa1)(i:TypeInfo)(z:Value)(size bytes:Nat)(ht:P.underlying t=some (.slice e))(hi: P.info? e=some i)(hz:i.zero=some z)
 (yk:i.size=size)(MX:i.bytes=bytes)(hzs:z.cells.size=size)(aI:0<size)
 (v:Value)(n:Nat)(xs:List Value)(hs:a.eval s=v)(aG:w.ownsRow base e size v n xs)
 (ad:Aay)(m c:Nat)(news:List Value)(hx:a.eval x=.slice (some ad) m c)(hl:news.length=m * size)(Hs:∀j u,news[j]?=some u-> w.cell? (ad.add j)=some u)(h1:∀u∈news,u.oneCell'=true)
 (TI:n+m<=Af0)(ad6:(n+m) * bytes<=140737488355328)(MO:base<=w.heap.size)
 (h:∀v' w',w'.ownsRow base e size v' (n+m) (xs++news)->w.grownBy w' v.ownBlock->K (a.put o.dst v') w'):if Region.wanted o (yielded ops a.tmps)=true then Oper.wp P o a w K Q else E:=by
 have hw:Region.wanted o (yielded ops a.tmps)=true:=by simp[Region.wanted,hg]
 rw[if_pos hw];exact wp_append_own w s x t ho base e i z size bytes ht hi hz yk MX hzs aI v n xs hs aG ad m c news hx hl Hs h1 TI ad6 MO fun v' w' h2 h3 _=>h v' w' h2 h3
def fj(b:ao)(x:bR):ao:={b with aF:=b.aF++ [x]}
theorem Zg{w w1 w6:Aa4}{b:ao}{x:bR}{bs:List (bR×Value)}{pv bv tv kv oL:Value}{B:Nat}(hB:B<=w.heap.size)(ai:bg w B b pv bv tv)(Ib:x.name.size<=Af0)(Ef:Row w B 2 Span.R kv x.cM)
 (ox:∀p∈bs,p.1.name.size<=Af0/\Row w B 2 Span.R p.2 p.1.cM)(fe:bs.map Ajc=b.aF)(h1:Below w.heap.size w w1)(h6:Below w1.heap.size w1 w6)(hz:w.heap.size+3<=w1.heap.size)
 (o:w6.ownsRow w1.heap.size 59 3 oL (bs.length+1) (bs.flatMap eP++ [.string x.name,.int .i64 x.aH,kv]))
 (kb:Bk w1 w.heap.size 26 #[.int .i64 b.ag,pv,bv,tv])(kr:Bk w1 (w.heap.size+2) 26 #[.int .i64 0,.slice none 0 0,.slice none 0 0,.slice none 0 0]):
 (∃oV qT,pI (w6.setCell ⟨w.heap.size,2,none⟩ oL) (fun k=>k=w.heap.size+2) (fj b x) pv oL tv oV qT)/\Bk (w6.setCell ⟨w.heap.size,2,none⟩ oL) w.heap.size 26 #[.int .i64 b.ag,pv,oL,tv]/\
 Bk (w6.setCell ⟨w.heap.size,2,none⟩ oL) (w.heap.size+2) 26 #[.int .i64 0,.slice none 0 0,.slice none 0 0,.slice none 0 0]/\Below w.heap.size w (w6.setCell ⟨w.heap.size,2,none⟩ oL)/\Rh oL:=by
 have e6:=h6.size;have bW:Below w.heap.size w (w6.setCell ⟨w.heap.size,2,none⟩ oL):=(h1.trans (h6.mono (by omega))).setCell (Ac2 _) _
 have o':(w6.setCell ⟨w.heap.size,2,none⟩ oL).ownsRow w1.heap.size 59 3 oL (bs++ [(x,kv)]).length ((bs++ [(x,kv)]).flatMap eP):=by
  have:=mO (u:=oL) (p:=⟨w.heap.size,2,none⟩) o (by simp<;>omega)
  simpa [eP] using this
 have hN:∀k,k=w.heap.size+2->(fun k=>w.heap.size<=k) k\/w.heap.size<=k:=fun k hk=>Or.inr (by omega)
 obtain⟨bs0,ts,hn⟩:=ai.um (No:=fun k=>w.heap.size<=k) hB (fun k hk=>by omega)
 refine⟨⟨bs++ [(x,kv)],ts,hn.p.below bW hN,cW.vO o' (fun _=>rfl) (fun p hm=>rfl) (fun k hk=>by omega),hn.t.below bW hN,by simp[fj,fe],hn.pD,fun p hm=>?_,fun p hm=>(hn.tp p hm).below bW hN⟩,(kb.below h6 (by omega)).set 2 oL,(kr.below h6 (by omega)).dn (by simp) _,bW,pw o⟩
 rcases List.mem_append.1 hm with hm|hm
 ·exact⟨(ox p hm).1,((ox p hm).2.um (No:=fun k=>w.heap.size<=k) hB (fun k hk=>by omega)).below bW hN⟩
 ·simp at hm;subst hm
  exact⟨Ib,(Ef.um (No:=fun k=>w.heap.size<=k) hB (fun k hk=>by omega)).below bW hN⟩
theorem Zh{w:Aa4}{b:ao}{x:bR}{pv bv tv kv:Value}{B:Nat}(hB:B<=w.heap.size)(ai:bg w B b pv bv tv)(Ib:x.name.size<=Af0)(Ef:Row w B 2 Span.R kv x.cM)(h0:dF b=0)(h1:dF (fj b x)=0):
 Af1 prog 53 #[.agg #[.int .i64 b.ag,pv,bv,tv],.agg #[.string x.name,.int .i64 x.aH,kv]] w fun e w'=>∃ix ia fD,e=.returned (.tuple #[.agg #[.int .i64 b.ag,ix,ia,fD],.int .i64 0])/\bg w' w'.heap.size (fj b x) ix ia fD/\Below w.heap.size w w':=by
 obtain⟨bs,fe,xH⟩:=I1 (R':=fun(p:bR×Value) cs=>cs=eP p/\p.1.name.size<=Af0/\Row w B 2 Span.R p.2 p.1.cM) ai.aF (fun x cs ⟨kv,h1,h2,h3⟩=>⟨kv,h1,h2,h3⟩)
 have ox:∀p∈bs,p.1.name.size<=Af0/\Row w B 2 Span.R p.2 p.1.cM:=fun p hp=>by obtain⟨cs,h1,h2⟩:=xH.mem p hp;exact h2
 have F4:Hid (Row w B 3 (fun p cs=>cs=eP p) bv bs):=Af3 (xH.still (Still.refl w) fun _ _ h=>h.1)
 have Dq:∀p∈bs,∀u∈eP p,u.oneCell'=true:=fun p hp u hu=>by
  obtain⟨A,c,e,_⟩:=(ox p hp).2;simp[eP] at hu;rcases hu with rfl|rfl|rfl
  ·rfl
  ·rfl
  ·rw[e];rfl
 have fX:bs.length=b.aF.length:=by rw[<-fe,Aiw]
 have hv:=iy h0;have Au:bs.length<=3:=by rw[fX];exact hv.nb
 have C2:Hid (∀w',Still B w w'->B<=w'.heap.size->Af1 prog 135 #[bv] w' fun e bq=>∃v',e=.returned v'/\bq.ownsRow w'.heap.size 59 3 v' bs.length (bs.flatMap eP)/\Below w'.heap.size w' bq):=
  Af3 fun w' hs hz=>Su (F4.out.still hs fun _ _ h=>h) hz (fun _=>rfl) Dq (by omega)
 have HM:=Af3 (Afx ox (Afx fe fX));have bT:=Af3 ai;have HH:=Af3 (Afx h0 (Afx h1 (Afx Ib Ef)));obtain⟨A1,n1,c1,rfl,-⟩:=ai.pieces.open_;obtain⟨A2,n2,c2,rfl,-⟩:=ai.aF.open_;obtain⟨A3,n3,c3,rfl,-⟩:=ai.aJ.open_;obtain⟨A4,n4,c4,rfl,-⟩:=Ef.open_;obtain⟨i0,cR,cT,aN,ba⟩:=Agw VI;have bI:=Af3 (Afx cR (Afx cT (Afx aN ba)));clear ai xH ox Dq fe fX hv h0 h1 Ib Ef cR cT aN ba;go_enter func53,Tryz.ntmps53;go_wp2_with (first
  | (go_at_call 68;refine(ry (bT.out.still ((((Still.refl w).alloc hB _).alloc (by simp<;>omega) _).alloc (by simp<;>omega) _)) (by simp<;>omega) HH.out.1).mono ?_;rintro e w1 ⟨rfl,ae⟩
     have kb:Bk w1 w.heap.size 26 #[.int .i64 b.ag,.slice A1 n1 c1,.slice A2 n2 c2,.slice A3 n3 c3]:=(((Bk.new w _ _).alloc _).alloc _).below ae (by simp<;>omega)
     have kx:Bk w1 (w.heap.size+1) 59 #[.string x.name,.int .i64 x.aH,.slice A4 n4 c4]:=((Bk.cG (by simp<;>omega) _ _).alloc _).below ae (by simp<;>omega)
     have kr:Bk w1 (w.heap.size+2) 26 #[.int .i64 0,.slice none 0 0,.slice none 0 0,.slice none 0 0]:=(Bk.cG (by simp<;>omega) _ _).below ae (by simp)
     have aY:Hid (Below w.heap.size w w1):=Af3 (((((Af6 _ _).alloc (Ac2 _) _).alloc (by simp) _).alloc (by simp<;>omega) _).trans (ae.mono (by simp<;>omega)))
     have HK:=Af3 (Afx kb (Afx kx kr));clear kb kx kr ae))
 have k2: w1.cell? ⟨w.heap.size,2,none⟩=some (.slice A2 n2 c2):=HK.out.1.cell 2;have x0: w1.cell? ⟨w.heap.size+1,0,none⟩=some (.string x.name):=HK.out.2.1.cell 0;have x1: w1.cell? ⟨w.heap.size+1,1,none⟩=some (.int .i64 x.aH):=HK.out.2.1.cell 1;have x2: w1.cell? ⟨w.heap.size+1,2,none⟩=some (.slice A4 n4 c4):=HK.out.2.1.cell 2;have hz:w.heap.size+3<=w1.heap.size:=HK.out.2.2.lt;have jW:w.heap.size<w1.heap.size:=by omega
 have ae3:w.heap.size<=w1.heap.size:=by omega
 have ae4:w.heap.size+1<w1.heap.size:=by omega
 have ae5:w.heap.size+1<=w1.heap.size:=by omega
 have XD:Hid (Below w1.heap.size w1 w1.drew):=Af3 (iY (Af6 _ _));have XA:Hid (∀o,Below w1.heap.size w1 (w1.drew.alloc o)):=Af3 fun o=>(iY (Af6 _ _)).alloc (Ac2 _) o
 have SB:Hid (∀w',Below w1.heap.size w1 w'->Still B w w'/\B<=w'.heap.size):=Af3 fun w' h=>⟨Still.aK (aY.out.trans (h.mono (by omega))) hB,by have:=h.size;omega⟩
 refine Code.wp_mono (Q:=dP fun a W=>∃mh iq c12 XX wE n19 c19,a={tmps:=#[Value.agg #[.int .i64 b.ag,.slice A1 n1 c1,.slice A2 n2 c2,.slice A3 n3 c3],Value.agg #[.string x.name,.int .i64 x.aH,.slice A4 n4 c4],Value.pointer (some {block:=w.heap.size,off:=0}),Value.pointer (some {block:=w.heap.size+1,off:=0}),Value.pointer (some {block:=w.heap.size+1+1,off:=0}),.int .i64 0,.int .i64 0,undef,Value.agg #[.int .i64 b.ag,.slice A1 n1 c1,.slice A2 n2 c2,.slice A3 n3 c3],.int .i64 0,.int .i64 0,.bool false,undef,undef,Value.pointer (some {block:=w.heap.size,off:=2}),.slice A2 n2 c2,.slice mh iq c12,Value.agg #[.string x.name,.int .i64 x.aH,.slice A4 n4 c4],XX,.slice wE n19 c19,Value.pointer (some {block:=w.heap.size,off:=2}),undef,undef,undef,undef,undef,undef,undef,undef],defers:=[]}/\Hid ((∃oV qT,pI W (fun k=>k=w.heap.size+2) (fj b x) (.slice A1 n1 c1) (.slice wE n19 c19) (.slice A3 n3 c3) oV qT)/\Bk W w.heap.size 26 #[.int .i64 b.ag,.slice A1 n1 c1,.slice wE n19 c19,.slice A3 n3 c3]/\
  Bk W (w.heap.size+2) 26 #[.int .i64 0,.slice none 0 0,.slice none 0 0,.slice none 0 0]/\Below w.heap.size w W)) ?post ?region
 case region=>
  go_region_law (first
   | (go_simp
      go_at_call 135
      refine(C2.out _ ?h1 ?h2).mono ?_
      case h1=>first|exact(SB.out _ XD.out).1|exact(SB.out _ (XA.out _)).1
      case h2=>first|exact(SB.out _ XD.out).2|exact(SB.out _ (XA.out _)).2
      rintro e w3 ⟨v12,rfl,qN,bD⟩;have fw:Hid (Below w1.heap.size w1 w3):=Af3 (by first|exact XD.out.trans bD|exact(XA.out _).trans (bD.mono (by simp)))
      have zv:Hid (w3.ownsRow w1.heap.size 59 3 v12 bs.length (bs.flatMap eP)):=Af3 (qN.base (by simp))
      have rE:=HK.out.2.1.below fw.out (by omega)
      have x0: w3.cell? ⟨w.heap.size+1,0,none⟩=some (.string x.name):=rE.cell 0;have x1: w3.cell? ⟨w.heap.size+1,1,none⟩=some (.int .i64 x.aH):=rE.cell 1;have x2: w3.cell? ⟨w.heap.size+1,2,none⟩=some (.slice A4 n4 c4):=rE.cell 2;have jB:w1.heap.size<=w3.heap.size:=fw.out.size
      try(have HZ:Hid (∀(j:Nat) (u:Value),[Value.string x.name,.int .i64 x.aH,.slice A4 n4 c4][j]?=some u-> w3.cell? ((⟨w1.heap.size,0,none⟩:Aay).add j)=some u):=Af3 (fun j u hu=>by
       rw[nu];have:=((Bk.new w1.drew 59 #[.string x.name,.int .i64 x.aH,.slice A4 n4 c4]).below bD (by simp)).cell j
       simpa using this.trans (by simpa using hu)))
      obtain⟨mh,iq,c12,rfl⟩:=pw qN;clear bD qN rE)
   | (refine ug rfl (.tmp 16) (.tmp 18) 23 rfl w1.heap.size 59 i0 (.agg #[.string {data:=#[]},.int .i64 0,.slice none 0 0]) 3 48 (U Tryz.underlying23) bI.out.1 bI.out.2.1 bI.out.2.2.1 bI.out.2.2.2 rfl (by decide) _ bs.length (bs.flatMap eP) rfl zv.out ⟨w1.heap.size,0,none⟩ 1 1 [.string x.name,.int .i64 x.aH,.slice A4 n4 c4] rfl rfl HZ.out ?c2 ?c3 ?c4 jB ?_
      case c2=>simp[Value.oneCell']
      case c3=>(simp only[Af0];omega)
      case c4=>omega
      intro v' w6 aG dS;have HO:=Af3 aG;have xO:Below w1.heap.size w1 w6:=fw.out.grown dS jB (fun k hk=>ei zv.out k hk)
      have gU:=Af3 xO;have ig:=HK.out.1.below xO (by omega)
      have q2: w6.cell? ⟨w.heap.size,2,none⟩=some (.slice A2 n2 c2):=ig.cell 2;have f2: w6.frozen? ⟨w.heap.size,2,none⟩=false:=ig.frozen 2;obtain⟨wE,n19,c19,rfl⟩:=pw aG;clear aG dS xO ig)
   | (refine ug rfl (.tmp 16) (.tmp 18) 23 rfl w1.heap.size 59 i0 (.agg #[.string {data:=#[]},.int .i64 0,.slice none 0 0]) 3 48 (U Tryz.underlying23) bI.out.1 bI.out.2.1 bI.out.2.2.1 bI.out.2.2.2 rfl (by decide) _ bs.length (bs.flatMap eP) rfl (zv.out.alloc _) ⟨w3.heap.size,0,none⟩ 1 1 [.string x.name,.int .i64 x.aH,.slice A4 n4 c4] rfl rfl ?c1 ?c2 ?c3 ?c4 ?c5 ?_
      case c1=>(intro j u hu;rw[nu];have:=(Bk.new w3 59 #[.string x.name,.int .i64 x.aH,.slice A4 n4 c4]).cell j;simpa using this.trans (by simpa using hu))
      case c2=>simp[Value.oneCell']
      case c3=>(simp only[Af0];omega)
      case c4=>omega
      case c5=>(simp<;>omega)
      intro v' w6 aG dS;have HO:=Af3 aG;have xO:Below w1.heap.size w1 w6:=(fw.out.alloc jB _).grown dS (by simp<;>omega) (fun k hk=>ei zv.out k hk)
      have gU:=Af3 xO;have ig:=HK.out.1.below xO (by omega)
      have q2: w6.cell? ⟨w.heap.size,2,none⟩=some (.slice A2 n2 c2):=ig.cell 2;have f2: w6.frozen? ⟨w.heap.size,2,none⟩=false:=ig.frozen 2;obtain⟨wE,n19,c19,rfl⟩:=pw aG;clear aG dS xO ig))
  all_goals
   have Hq:=Zg hB bT.out HH.out.2.2.1 HH.out.2.2.2 HM.out.1 HM.out.2.1 aY.out gU.out hz HO.out HK.out.1 HK.out.2.2;show ∃_,_
   exact⟨_,_,_,_,_,_,_,rfl,Af3 ⟨Hq.1,Hq.2.1,Hq.2.2.1,Hq.2.2.2.1⟩⟩
 case post=>
  clear C2 bI k2 x0 x1 x2 XD XA SB jW ae3 ae4 ae5 hz HK F4 Au;refine dP.imp ?_
  rintro a W ⟨mh,iq,c12,XX,wE,n19,c19,rfl,⟨oV,qT,hp⟩,ig,xS,fX⟩;have k0:=ig.cell 0;have k1:=ig.cell 1;have k2:=ig.cell 2;have k3:=ig.cell 3;have HP:=Af3 hp;have HK:=Af3 (Afx ig (Afx xS fX));have iM:w.heap.size<W.heap.size:=ig.lt;have TJ:=Af3 (ry hp.book (Ac2 _) HH.out.2.1);have vy:(fj b x).ag=b.ag:=rfl;rw[vy] at TJ;clear hp ig xS fX vy;go_wp2_with (first
   | (go_at_call 68
      refine TJ.out.mono ?_
      rintro e w7 ⟨rfl,jx⟩;have DG:=HK.out.1.below jx iM;have k0: w7.cell? ⟨w.heap.size,0,none⟩=some (.int .i64 b.ag):=DG.cell 0;have k1: w7.cell? ⟨w.heap.size,1,none⟩=some (.slice A1 n1 c1):=DG.cell 1;have k2: w7.cell? ⟨w.heap.size,2,none⟩=some (.slice wE n19 c19):=DG.cell 2;have k3: w7.cell? ⟨w.heap.size,3,none⟩=some (.slice A3 n3 c3):=DG.cell 3;have K9:=Af3 (HK.out.2.1.below jx HK.out.2.1.lt);have LC:=(copied (w:=w7) (HP.out.grown (je jx (Ac2 _) none) nofun) (fun k hk=>by have:=K9.out.lt;omega) (iy HH.out.2.1))
      have vy:(fj b x).ag=b.ag:=rfl;rw[vy] at LC;have Ym:=Af3 LC;clear LC vy;have QW:=Af3 jx;clear jx DG)
   | (go_at_call 136
      refine Ym.out.mono ?_
      rintro e w8 ⟨p8,b8,t8,bs8,ts8,rfl,MW,Ah⟩;have Ha:=MW.book;have qK:=K9.out.below Ah K9.out.lt;have r0:=qK.cell 0;have r1:=qK.cell 1;have r2:=qK.cell 2;have r3:=qK.cell 3;have f0:=qK.frozen 0;have f1:=qK.frozen 1;have f2:=qK.frozen 2;have f3:=qK.frozen 3;have hz8:w.heap.size+2<w8.heap.size:=qK.lt;obtain⟨JZ,OY,LG,rfl,-⟩:=Ha.pieces.open_;obtain⟨J0,OZ,LH,rfl,-⟩:=Ha.aF.open_;obtain⟨J1,O0,LI,rfl,-⟩:=Ha.aJ.open_;have Yy:=Af3 Ah;have Q0:=Af3 (Afx MW qK);clear Ah Ha MW qK))
  have aeL:Bk w8 (w.heap.size+1+1) 26 #[.int .i64 0,.slice none 0 0,.slice none 0 0,.slice none 0 0]:=Q0.out.2;have yh:=((((aeL.set 0 (.int .i64 b.ag)).set 1 (.slice JZ OY LG)).set 2 (.slice J0 OZ LH)).set 3 (.slice J1 O0 LI));have y0:=yh.cell 0;have y1:=yh.cell 1;have y2:=yh.cell 2;have y3:=yh.cell 3;have hG:=fun(V:Aa4) (i:Nat) (u:Value)=>uV V ⟨w.heap.size+2,i,none⟩ u
  have bj:∀k,some (w.heap.size+2)=some k->(fun k=>k=w.heap.size+2) k:=fun k e=>by injection e with e;exact e.symm
  have Nj:=((((Q0.out.1.grown (hG _ 0 (.int .i64 b.ag)) bj).grown (hG _ 1 (.slice JZ OY LG)) bj).grown (hG _ 2 (.slice J0 OZ LH)) bj).grown (hG _ 3 (.slice J1 O0 LI)) bj);have jS:Below w.heap.size w w8:=(HK.out.2.2.trans (QW.out.mono (Agr iM))).trans (Yy.out.mono (by have:=QW.out.size;omega))
  refine Ag1 (v:=.tuple #[.agg #[.int .i64 b.ag,.slice JZ OY LG,.slice J0 OZ LH,.slice J1 O0 LI],.int .i64 0]) (by simp[results,Tryz.results53,go_sem,y0,y1,y2,y3]) rfl ⟨_,_,_,rfl,Nj.book,?_⟩
  exact(((jS.setCell (by simp<;>omega) _).setCell (by simp<;>omega) _).setCell (by simp<;>omega) _).setCell (by simp<;>omega) _
def pY:List Int->List Int->Int
 | [],[]=>0
 | [],_::_=> -1
 |_::_,[]=>1
 |x::xs,y::ys=>if Ai3 x y=0 then pY xs ys else Ai3 x y
theorem zN{w:Aa4}{xs ys:List Int}{v u:Value}{B:Nat}(hv:Row w B 1 cH v xs)(hu:Row w B 1 cH u ys)(hB:B<=w.heap.size):
 Af1 prog 139 #[v,u] w fun e w'=>e=.returned (.int .i64 (pY xs ys))/\w=w':=by
 obtain⟨A1,n1,c1,rfl,e1,h1,ez,r1⟩:=hv.open_;obtain⟨A2,n2,c2,rfl,e2,h2,dW,r2⟩:=hu.open_;unfold Af0 at ez dW;have R1:=Af3 r1;have R2:=Af3 r2;have E:=Af3 (Afx e1 e2);clear r1 r2 e1 e2 hv hu;have aB:Hid (∀(x y:Int) (w:Aa4),Af1 Tw.prog 181 #[.int .i64 x,.int .i64 y] w fun e w'=>e=.returned (.int .i64 (Ai3 x y))/\w'=w):=Af3 (fun x y w=>Sh.cmp_Compare_int x y w)
 go_enter func139,Tryz.ntmps139;go_wp2;go_loopw [11] (fun k wr=>wr=w/\∃i:Nat,i<=n1/\i<=n2/\k=.int .i64 i/\Hid (pY xs ys=pY (xs.drop i) (ys.drop i))) (fun k _=>n1 - (Ag7 k).toNat)
 case atStart=>exact⟨rfl,0,Agm _,Agm _,rfl,Af3 rfl⟩
 case round=>
  obtain⟨rfl,i,hi,vm,rfl,hc⟩:=hrel;by_cases al:i<n1
  ·obtain⟨ad,x,cs,kX,aC,hx,rfl,-,au⟩:=R1.out i al
   subst kX;have g0: wr.cell? (ad.add (i * 1))=some (.int .i64 x):=cC au (Still.refl wr) aC rfl;rw[Nat.mul_one] at g0;have Dt:xs.drop i=x::xs.drop (i+1):=(Ai8 (Agb.1 hx).1).trans (by rw[(Agb.1 hx).2])
   have zm:=Af3 Dt;clear Dt hx au;by_cases ae6:i<n2
   ·obtain⟨cI,y,jQ,CO,fV,hy,rfl,-,ie⟩:=R2.out i ae6
    subst CO;have g1: wr.cell? (cI.add (i * 1))=some (.int .i64 y):=cC ie (Still.refl wr) fV rfl;rw[Nat.mul_one] at g1;have vf:ys.drop i=y::ys.drop (i+1):=(Ai8 (Agb.1 hy).1).trans (by rw[(Agb.1 hy).2])
    have uz:=Af3 vf;clear vf hy ie;have aoD:((n2:Int)<=(i:Int))=False:=by simp;omega
    obtain⟨c,cX⟩:∃c,c=Ai3 x y:=⟨_,rfl⟩
    have CL:=Af3 (aB.out x y wr);rw[<-cX] at CL;have qZ:=Af3 cX;clear cX;by_cases ic:c=0
    ·have hb:(c !=0)=false:=by simp[ic]
     go_wp2_with (first
      | (go_at_call 181;refine CL.out.mono ?_;rintro e w1 ⟨rfl,rfl⟩))
     go_roundw;case rel=>exact⟨trivial,i+1,by omega,by omega,by go_num,Af3 (by rw[hc.out,zm.out,uz.out,pY,<-qZ.out,if_pos ic])⟩
     case measure=>simp[Ag7];omega
    ·have hb:(c !=0)=true:=by simp[ic]
     go_wp2_with (first
      | (go_at_call 181;refine CL.out.mono ?_;rintro e w1 ⟨rfl,rfl⟩))
     go_ret;exact⟨aX (by rw[hc.out,zm.out,uz.out,pY,<-qZ.out,if_neg ic]),rfl⟩
   ·obtain rfl:i=n2:=by omega
    have vf:ys.drop i=[]:=Aig (Ago E.out.2);have uz:=Af3 vf;clear vf;go_wp2;go_ret;exact⟨aX (by rw[hc.out,zm.out,uz.out,pY]),rfl⟩
  ·obtain rfl:i=n1:=by omega
   have Dt:xs.drop i=[]:=Aig (Ago E.out.1);have zm:=Af3 Dt;clear Dt;by_cases hl:i<n2
   ·obtain⟨y,Yh,hy⟩:∃y Yh,ys.drop i=y::Yh:=⟨_,_,Ai8 (by rw[E.out.2];exact hl)⟩
    have uz:=Af3 hy;clear hy;go_wp2;go_ret;exact⟨aX (by rw[hc.out,zm.out,uz.out,pY]),rfl⟩
   ·have vf:ys.drop i=[]:=Aig (by rw[E.out.2];omega)
    have uz:=Af3 vf;clear vf;go_wp2;go_ret;exact⟨aX (by rw[hc.out,zm.out,uz.out,pY]),rfl⟩
end Go.Tw
namespace Go.Tw
variable [Go.Tw.aR]
open Go Go.Proofs Go.RowKit
theorem Wu{w:Aa4}{b1 b2 e1 e2 s1 s2 n1 n2:Nat}{v1 v2:Value}{x1 x2:List Value}(h1:w.ownsRow b1 e1 s1 v1 n1 x1)(h2:w.ownsRow b2 e2 s2 v2 n2 x2)(aw:e1≠e2):∀k,v1.ownBlock=some k->v2.ownBlock≠some k:=by
 intro k hk cP;rcases h1.2 with⟨h0,_⟩ | ⟨g,cap,cur,a1,a2,a3,_⟩
 ·rw[h0] at hk;cases hk
 ·rcases h2.2 with⟨h0,_⟩ | ⟨g',xc,anN,c1,c2,c3,_⟩
  ·rw[h0] at cP;cases cP
  ·rw[a1] at hk;rw[c1] at cP
   injection hk with hk;injection cP with cP
   simp only at hk cP;subst hk;subst cP
   rw[a3] at c3;injection c3 with c3;injection c3 with _ c3
   exact aw c3
def dJ(m:Nat)(n:Nat):List Nat:=(Af9 n).filter (fun i=>m.testBit i)
theorem Ie{m n:Nat}(h:m.testBit n=true):dJ m (n+1)=dJ m n++ [n]:=by simp[dJ,List.range_succ,h]
theorem Ic{m n:Nat}(h:m.testBit n=false):dJ m (n+1)=dJ m n:=by simp[dJ,List.range_succ,h]
def fL{α:Type}(l:List α)(m n:Nat):List α:=(dJ m n).filterMap (fun i=>l[i]?)
theorem Wz{α:Type}{l:List α}{m n:Nat}{x:α}(h:m.testBit n=true)(hx:l[n]?=some x):fL l m (n+1)=fL l m n++ [x]:=by
 unfold fL;rw[Ie h,List.filterMap_append];simp[hx]
theorem Wy{α:Type}{l:List α}{m n:Nat}(h:m.testBit n=false):fL l m (n+1)=fL l m n:=by unfold fL;rw[Ic h]
def mM(b:ao)(m:Nat):ao:={b with aJ:=fL b.aJ m b.aJ.length}
theorem ajE{α β:Type}(f:α->β)(l:List α)(m n:Nat):fL (l.map f) m n=(fL l m n).map f:=by
 unfold fL;rw[List.map_filterMap];congr 1;funext i;simp
theorem Pc{α:Type}(l:List α)(m:Nat):∀n,n<=l.length->(fL l m n).length=(dJ m n).length
 |0,_=>by simp[fL,dJ]
 |n+1,h=>by
  have ih:=Pc l m n (by omega)
  cases hb:m.testBit n with
  |true=>rw[Wz hb (Aga (by omega)),Ie hb];simp[ih]
  |false=>rw[Wy hb,Ic hb];exact ih
def lV(m n:Nat):List Value:=(dJ m n).map fun k:Nat=>Value.int .i64 (k:Int)
theorem Ek(m:Nat)(n:Nat):(dJ m n).length<=n:=by
 unfold dJ;refine Ac3 (List.length_filter_le _ _) (by simp)
structure OI(w W:Aa4)(g z:Nat)(ag pv bv c7 v6 v7:Value)(el:Array Value)(n6 n7:Nat)(x6 x7:List Value):Prop where
 o6:W.ownsRow (g+3) 3 1 v6 n6 x6
 o7:W.ownsRow (g+3) 95 3 v7 n7 x7
 kr:Bk W (g+1) 117 #[.int .i64 0,.slice none 0 0,.slice none 0 0,.slice none 0 0]
 kk:Bk W (g+2) 117 #[ag,pv,bv,c7]
 ke:Bk W z 95 el
 hb:Below g w W
section
variable {w W W':Aa4}{g z n6 n7 m:Nat}{ag pv bv c7 v6 v7 v':Value}{el:Array Value}{x6 x7 ys:List Value}
theorem OI.alloc(h:OI w W g z ag pv bv c7 v6 v7 el n6 n7 x6 x7)(o:Obj):OI w (W.alloc o) g z ag pv bv c7 v6 v7 el n6 n7 x6 x7:=
 ⟨World.ownsRow.alloc h.o6 o,World.ownsRow.alloc h.o7 o,h.kr.alloc o,h.kk.alloc o,h.ke.alloc o,h.hb.alloc (by have:=h.kr.lt;omega) o⟩
theorem OI.Rv(h:OI w W g z ag pv bv c7 v6 v7 el n6 n7 x6 x7)(ho:W'.ownsRow (g+3) 3 1 v' m ys)(hg:W.grownBy W' v6.ownBlock):OI w W' g z ag pv bv c7 v' v7 el m n7 ys x7:=by
 have jU:=ei h.o6;refine⟨ho,EJ h.o7 hg (fun k hk e=>Wu h.o6 h.o7 (by decide) k e hk),h.kr.grown hg (fun e=>by have:=jU _ e.symm;omega),h.kk.grown hg (fun e=>by have:=jU _ e.symm;omega),h.ke.grown hg (fun e=>?_),h.hb.grown hg (by have:=h.kr.lt;omega) (fun k hk=>by have:=jU k hk;omega)⟩
 rcases h.o6.2 with⟨h0,_⟩ | ⟨k,cap,cur,a1,a2,a3,_⟩
 ·rw[h0] at e;cases e
 ·rw[a1] at e;injection e with e
  have tD:=h.ke;unfold Bk at tD;rw[e] at tD;simp only at tD;rw[a3] at tD;injection tD with tD;injection tD with _ tD
  exact absurd tD (by decide)
theorem OI.Rw(h:OI w W g z ag pv bv c7 v6 v7 el n6 n7 x6 x7)(ho:W'.ownsRow (g+3) 95 3 v' m ys)(hg:W.grownBy W' v7.ownBlock):
 W'.ownsRow (g+3) 3 1 v6 n6 x6/\W'.ownsRow (g+3) 95 3 v' m ys/\Bk W' (g+1) 117 #[.int .i64 0,.slice none 0 0,.slice none 0 0,.slice none 0 0]/\Bk W' (g+2) 117 #[ag,pv,bv,c7]/\Below g w W':=by
 have jU:=ei h.o7;exact⟨EJ h.o6 hg (fun k hk e=>Wu h.o6 h.o7 (by decide) k hk e),ho,h.kr.grown hg (fun e=>by have:=jU _ e.symm;omega),h.kk.grown hg (fun e=>by have:=jU _ e.symm;omega),h.hb.grown hg (by have:=h.kr.lt;omega) (fun k hk=>by have:=jU k hk;omega)⟩
theorem LO{w:Aa4}{g t:Nat}{a b c:Value}(h:Bk w g t #[a,b,c]):∀(j:Nat) (u:Value),[a,b,c][j]?=some u-> w.cell? ((⟨g,0,none⟩:Aay).add j)=some u:=by
 intro j u hu;rw[nu];exact(h.cell j).trans (by simpa using hu)
theorem LN{w:Aa4}{g t:Nat}{a:Value}(h:Bk w g t #[a]):∀(j:Nat) (u:Value),[a][j]?=some u-> w.cell? ((⟨g,0,none⟩:Aay).add j)=some u:=by
 intro j u hu;rw[nu];exact(h.cell j).trans (by simpa using hu)
theorem kT{w:Aa4}{b e s n g t:Nat}{v:Value}{xs:List Value}{cs:Array Value}(h:Bk w g t cs)(ho:w.ownsRow b e s v n xs)(aw:t≠e)(hk:some g=v.ownBlock):False:=by
 rcases ho.2 with⟨h0,_⟩ | ⟨k,cap,cur,a1,a2,a3,_⟩
 ·rw[h0] at hk;cases hk
 ·rw[a1] at hk;injection hk with hk
  unfold Bk at h;rw[hk] at h;simp only at h;rw[a3] at h;injection h with h;injection h with _ h
  exact aw h.symm
theorem afX{w V w6:Aa4}{g z n6 n7:Nat}{ag pv bv c7 v6 v7 a b c:Value}{el:Array Value}{x6 x7:List Value}{o:Obj}(nZ:OI w V.drew g z ag pv bv c7 v6 v7 el n6 n7 x6 x7)
 (dS:((V.drew.alloc o).alloc (.cells #[a,b,c] 95)).grownBy w6 v6.ownBlock):Bk w6 (V.heap.size+1) 95 #[a,b,c]:=
 (Bk.cG (g:=V.heap.size+1) (w:=V.drew.alloc o) (by simp) 95 #[a,b,c]).grown dS (fun e=>kT (Bk.cG (g:=V.heap.size+1) (w:=V.drew.alloc o) (by simp) 95 #[a,b,c]) ((nZ.alloc o).alloc _).o6 (by decide) e)
theorem afT{w V w6:Aa4}{g z n6 n7:Nat}{ag pv bv c7 v6 v7 a b c:Value}{el:Array Value}{x6 x7:List Value}{o:Obj}(nZ:OI w V.drew g z ag pv bv c7 v6 v7 el n6 n7 x6 x7)
 (dS:((V.drew.alloc (.cells #[a,b,c] 95)).alloc o).grownBy w6 v6.ownBlock):Bk w6 V.heap.size 95 #[a,b,c]:=
 ((Bk.new V.drew 95 #[a,b,c]).alloc o).grown dS (fun e=>kT ((Bk.new V.drew 95 #[a,b,c]).alloc o) ((nZ.alloc _).alloc o).o6 (by decide) e)
theorem aja{W:Aa4}(h:W.ownsRow (g+3) 3 1 v6 n6 x6/\W.ownsRow (g+3) 95 3 v' m ys/\Bk W (g+1) 117 #[.int .i64 0,.slice none 0 0,.slice none 0 0,.slice none 0 0]/\Bk W (g+2) 117 #[ag,pv,bv,c7]/\Below g w W):
 let V:=W.setCell ⟨g+2,3,none⟩ v'
 V.ownsRow (g+3) 3 1 v6 n6 x6/\V.ownsRow (g+3) 95 3 v' m ys/\Bk V (g+1) 117 #[.int .i64 0,.slice none 0 0,.slice none 0 0,.slice none 0 0]/\Bk V (g+2) 117 #[ag,pv,bv,v']/\Below g w V:=by
 intro V;exact⟨mO h.1 (by simp),mO h.2.1 (by simp),h.2.2.1.dn (by simp) _,h.2.2.2.1.set 3 v',h.2.2.2.2.setCell (by simp) _⟩
end
theorem ajc{w W:Aa4}{b:ao}{pv bv tv v6 v7:Value}{B m n:Nat}{ts:List (Tape×Value)}(hB:B<=w.heap.size)(ai:bg w B b pv bv tv)(rS:∀p∈ts,Row w B 1 cH p.2 p.1.pieces)(il:ts.map Ajc=b.aJ)(hn:n=ts.length)
 (h6:W.ownsRow (w.heap.size+3) 3 1 v6 (dJ m n).length (lV m n))(h7:W.ownsRow (w.heap.size+3) 95 3 v7 (dJ m n).length ((fL ts m n).flatMap eG))(hb:Below w.heap.size w W){x0 x1 x2 x3:Value}:
 let V:=(((W.setCell ⟨w.heap.size+1,0,none⟩ x0).setCell ⟨w.heap.size+1,1,none⟩ x1).setCell ⟨w.heap.size+1,2,none⟩ x2).setCell ⟨w.heap.size+1,3,none⟩ x3
 bg V V.heap.size (mM b m) pv bv v7/\cW V (fun k=>k<w.heap.size) 1 cH v6 ((dJ m b.aJ.length).map Int.ofNat)/\Below w.heap.size w V:=by
 intro V;have hl:b.aJ.length=n:=by rw[<-il,Aiw,hn]
 have xF:Below w.heap.size w V:=(((hb.setCell (by simp) _).setCell (by simp) _).setCell (by simp) _).setCell (by simp) _
 have st:Still B w V:=Still.aK xF hB;have aI:B<=V.heap.size:=by have:=xF.size;omega
 have o6:V.ownsRow (w.heap.size+3) 3 1 v6 (dJ m n).length (lV m n):=mO (mO (mO (mO h6 (by simp)) (by simp)) (by simp)) (by simp)
 have o7:V.ownsRow (w.heap.size+3) 95 3 v7 (dJ m n).length ((fL ts m n).flatMap eG):=mO (mO (mO (mO h7 (by simp)) (by simp)) (by simp)) (by simp)
 refine⟨⟨(ai.pieces.still st fun _ _ h=>h).more aI,(ai.aF.still st fun _ _ h=>?_).more aI,?_⟩,?_,xF⟩
 ·obtain⟨k,e1,e2,e3⟩:=h.still st
  exact⟨k,e1,e2,e3.more aI⟩
 ·rw[<-Pc ts m n (by omega)] at o7
  have:=lu (R:=fun p cs=>cs=eG p) o7 (fun _=>rfl) (fun p hm=>rfl)
  have e:(mM b m).aJ=(fL ts m n).map Ajc:=by
   show fL b.aJ m b.aJ.length=_;rw[hl,<-il,ajE]
  rw[e];refine yY this (fun p hm cs hc=>⟨p.2,hc,((rS p ?_).still st fun _ _ h=>h).more aI⟩)
  unfold fL at hm;obtain⟨k,_,hk⟩:=List.mem_filterMap.1 hm;exact Agg hk
 ·rw[hl]
  have e:(lV m n)=((dJ m n).map Int.ofNat).flatMap (fun k=> [Value.int .i64 k]):=by
   unfold lV;rw[Td,List.map_map];rfl
  rw[e] at o6;have hlen:(dJ m n).length=((dJ m n).map Int.ofNat).length:=by simp
  rw[hlen] at o6;exact cW.vO o6 (fun _=>rfl) (fun _ _=>rfl) (fun k hk=>by omega)
theorem ZH:∀(m:Fin 16) (i:Fin 4),(bits BinOp.and Ack ((m.val:Int) / 2 ^ i.val) 1==1)=m.val.testBit i.val:=by decide+kernel
theorem only{w:Aa4}{b:ao}{pv bv tv:Value}{B m:Nat}(hB:B<=w.heap.size)(ai:bg w B b pv bv tv)(hv:b.aJ.length<=4)(hm:m<16):
 Af1 prog 138 #[.agg #[.int .i64 b.ag,pv,bv,tv],.int .i64 m] w fun e w'=>∃fD iv,e=.returned (.tuple #[.agg #[.int .i64 b.ag,pv,bv,fD],iv])/\bg w' w'.heap.size (mM b m) pv bv fD/\
  cW w' (fun k=>k<w.heap.size) 1 cH iv ((dJ m b.aJ.length).map Int.ofNat)/\Below w.heap.size w w':=by
 obtain⟨ts,il,pg⟩:=I1 (R':=fun(p:Tape×Value) cs=>cs=eG p/\Row w B 1 cH p.2 p.1.pieces) ai.aJ (fun x cs ⟨kv,h1,h3⟩=>⟨kv,h1,h3⟩)
 have rS:∀p∈ts,Row w B 1 cH p.2 p.1.pieces:=fun p hp=>by obtain⟨cs,h1,h2⟩:=pg.mem p hp;exact h2
 have qG:ts.length=b.aJ.length:=by rw[<-il,Aiw]
 have HM:=Af3 (Afx rS (Afx il qG));have bT:=Af3 ai;obtain⟨A1,n1,c1,rfl,-⟩:=ai.pieces.open_;obtain⟨A2,n2,c2,rfl,-⟩:=ai.aF.open_;obtain⟨A3,n3,c3,rfl,e3,h3,rD,r3⟩:=pg.open_;have R3:=Af3 r3;have lQ:n3<=4:=by omega
 have E3:=Af3 e3;unfold Af0 at rD;clear ai pg rS il qG r3 e3 hv;go_enter func138,Tryz.ntmps138;go_wp2;have L0:Hid (Bk (((w.alloc (.cells #[.int .i64 b.ag,.slice A1 n1 c1,.slice A2 n2 c2,.slice A3 n3 c3] 117)).alloc (.cells #[.int .i64 0,.slice none 0 0,.slice none 0 0,.slice none 0 0] 117)).alloc (.cells #[.int .i64 b.ag,.slice A1 n1 c1,.slice A2 n2 c2,.slice none 0 0] 117)) (w.heap.size+2) 117 #[.int .i64 b.ag,.slice A1 n1 c1,.slice A2 n2 c2,.slice none 0 0]):=Af3 (Bk.cG (by simp) _ _)
 go_loopw [6,17] (fun v6 u wr=>∃(i:Nat) (v7:Value),i<=n3/\u=.int .i64 i/\Hid (wr.ownsRow (w.heap.size+3) 3 1 v6 (dJ m i).length (lV m i))/\Hid (wr.ownsRow (w.heap.size+3) 95 3 v7 (dJ m i).length ((fL ts m i).flatMap eG))/\
  Hid (Bk wr (w.heap.size+1) 117 #[.int .i64 0,.slice none 0 0,.slice none 0 0,.slice none 0 0])/\Hid (Bk wr (w.heap.size+2) 117 #[.int .i64 b.ag,.slice A1 n1 c1,.slice A2 n2 c2,v7])/\Hid (Below w.heap.size w wr)) (fun _ u _=>n3 - (Ag7 u).toNat)
 case atStart=>exact⟨0,_,Agm _,rfl,Af3 ⟨rfl,.inl ⟨rfl,rfl⟩⟩,Af3 ⟨rfl,.inl ⟨rfl,rfl⟩⟩,Af3 ((Bk.cG (by simp) _ _).alloc _),L0,Af3 ((((Af6 _ _).alloc (Ac2 _) _).alloc (by simp) _).alloc (by simp<;>omega) _)⟩
 case round=>
  obtain⟨i,v7,hi,rfl,h6,h7,hr,hk,hb⟩:=hrel;obtain⟨A6,n6,c6,rfl⟩:=pw h6.out;obtain⟨A7,n7,c7,rfl⟩:=pw h7.out;by_cases al:i<n3
  ·obtain⟨ad,x,cs,kX,aC,hx,⟨rfl,Oj⟩,-,au⟩:=R3.out i al
   subst kX;have st:Still B w wr:=Still.aK hb.out hB;obtain⟨x,kv⟩:=x;simp only at Oj;obtain⟨m5,rN⟩:∃k,k=x.pieces.length:=⟨_,rfl⟩
   obtain⟨A5,c5,rfl,-⟩:=id Oj;rw[<-rN] at hx au;clear Oj rN;have g0:=cC au st aC rfl;have g1:=bK au st aC 0 rfl;have g2:=bK au st aC 1 rfl;have aI:=hb.out.size;have xD:(ad.add (i * 3)).block<wr.heap.size:=by rw[cq];omega
   have G9:=ZH ⟨m,hm⟩ ⟨i,by omega⟩
   simp only at G9;have HX:=Af3 hx;have sR:=Af3 (Afx h6.out (Afx h7.out (Afx hr.out (Afx hk.out hb.out))));clear hx au st;cases vb:m.testBit i with
   |false=>
    rw[vb] at G9;go_wp2;go_roundw;case rel=>exact⟨i+1,_,by omega,by go_num,Af3 (by unfold lV;rw[Ic vb];exact h6.out.alloc _),Af3 (by rw[Ic vb,Wy vb];exact h7.out.alloc _),Af3 (hr.out.alloc _),Af3 (hk.out.alloc _),Af3 (hb.out.alloc aI _)⟩
    case measure=>simp[Ag7];omega
   |true=>
    rw[vb] at G9;go_wp2;obtain⟨i3,fZ,jB,gQ,bD⟩:=Agw VG;obtain⟨i9,DC,Vu,N7,oZ⟩:=Agw Oq;have nW:=Af3 (Afx fZ (Afx jB (Afx gQ bD)));have nX:=Af3 (Afx DC (Afx Vu (Afx N7 oZ)));clear fZ jB gQ bD DC Vu N7 oZ h6 h7 hr hk hb g0 g1 g2 xD G9;have oC:OI w (wr.alloc (.cells #[.slice A5 m5 c5,.int .i64 x.sum.lo,.int .i64 x.sum.hi] 95)) w.heap.size wr.heap.size (.int .i64 b.ag) (.slice A1 n1 c1) (.slice A2 n2 c2) (.slice A7 n7 c7) (.slice A6 n6 c6) (.slice A7 n7 c7) #[.slice A5 m5 c5,.int .i64 x.sum.lo,.int .i64 x.sum.hi] (dJ m i).length (dJ m i).length (lV m i) ((fL ts m i).flatMap eG):=
     ⟨sR.out.1.alloc _,sR.out.2.1.alloc _,sR.out.2.2.1.alloc _,sR.out.2.2.2.1.alloc _,Bk.new wr _ _,sR.out.2.2.2.2.alloc aI _⟩
    have Vv:(wr.alloc (.cells #[.slice A5 m5 c5,.int .i64 x.sum.lo,.int .i64 x.sum.hi] 95)).heap.size=wr.heap.size+1:=by simp
    generalize (wr.alloc (.cells #[.slice A5 m5 c5,.int .i64 x.sum.lo,.int .i64 x.sum.hi] 95))=V at oC Vv |-
    have nZ:Hid (OI w V.drew w.heap.size wr.heap.size (.int .i64 b.ag) (.slice A1 n1 c1) (.slice A2 n2 c2) (.slice A7 n7 c7) (.slice A6 n6 c6) (.slice A7 n7 c7) #[.slice A5 m5 c5,.int .i64 x.sum.lo,.int .i64 x.sum.hi] (dJ m i).length (dJ m i).length (lV m i) ((fL ts m i).flatMap eG)):=Af3 ⟨oC.o6,oC.o7,oC.kr,oC.kk,oC.ke,iY oC.hb⟩;have q7: V.cell? ⟨w.heap.size+2,3,none⟩=some (.slice A7 n7 c7):=oC.kk.cell 3;have e0: V.cell? ⟨wr.heap.size,0,none⟩=some (.slice A5 m5 c5):=oC.ke.cell 0;have e1: V.cell? ⟨wr.heap.size,1,none⟩=some (.int .i64 x.sum.lo):=oC.ke.cell 1;have e2: V.cell? ⟨wr.heap.size,2,none⟩=some (.int .i64 x.sum.hi):=oC.ke.cell 2;have xR:=oC.kk.lt;have aeO:w.heap.size+2<=V.heap.size:=by omega
    have aeP:w.heap.size+2<V.heap.size+1:=by omega
    have aeQ:w.heap.size+2<=V.heap.size+1:=by omega
    have Ng:wr.heap.size<V.heap.size:=by omega
    have aep:wr.heap.size<=V.heap.size:=by omega
    have aer:wr.heap.size<V.heap.size+1:=by omega
    have aes:wr.heap.size<=V.heap.size+1:=by omega
    have afZ:w.heap.size+3<=V.heap.size:=xR;have rJ:(dJ m i).length<=4:=by have:=Ek m i;omega
    obtain⟨nl,Az⟩:∃k,k=(dJ m i).length:=⟨_,rfl⟩
    rw[<-Az] at nZ rJ;have Q8:=Af3 Az;clear oC sR Vv aI Az;refine Code.wp_mono (Q:=dP fun a W=>∃BT n61 Nh BU Ez CJ XY XZ,a={tmps:=#[Value.agg #[Value.int Ack b.ag,Value.slice A1 n1 c1,Value.slice A2 n2 c2,Value.slice (some ad) n3 c3],Value.int Ack (m:Int),Value.pointer (some {block:=w.heap.size,off:=0}),undef,Value.pointer (some {block:=w.heap.size+1,off:=0}),Value.slice none 0 0,Value.slice BT n61 Nh,Value.pointer (some {block:=w.heap.size+1+1,off:=0}),Value.int Ack (i:Int),Value.pointer (some {block:=wr.heap.size,off:=0}),Value.agg #[Value.int Ack b.ag,Value.slice A1 n1 c1,Value.slice A2 n2 c2,Value.slice (some ad) n3 c3],Value.pointer (some {block:=w.heap.size+1+1,off:=0}),Value.pointer (some {block:=w.heap.size+1+1,off:=3}),Value.pointer (some {block:=w.heap.size,off:=0}),Value.pointer (some {block:=w.heap.size,off:=3}),Value.slice (some ad) n3 c3,Value.int Ack (n3:Int),Value.int Ack (i:Int),Value.bool true,Value.int Ack (i:Int),Value.pointer (some (ad.add (i * 3))),Value.agg #[Value.slice A5 m5 c5,Value.int Ack x.sum.lo,Value.int Ack x.sum.hi],Value.int Ack (m:Int),Value.int Ack (i:Int),Value.int Ack ((m:Int) / 2 ^ i),Value.int Ack (bits BinOp.and Ack ((m:Int) / 2 ^ i) 1),Value.bool true,Value.slice A6 n6 c6,Value.int Ack (i:Int),XY,Value.slice BT n61 Nh,Value.pointer (some {block:=w.heap.size+1+1,off:=0}),Value.pointer (some {block:=w.heap.size+1+1,off:=3}),Value.slice A7 n7 c7,Value.agg #[Value.slice A5 m5 c5,Value.int Ack x.sum.lo,Value.int Ack x.sum.hi],XZ,Value.slice BU Ez CJ,Value.pointer (some {block:=w.heap.size+1+1,off:=0}),Value.pointer (some {block:=w.heap.size+1+1,off:=3}),u39,undef,undef],defers:=[]}/\
     Hid (W.ownsRow (w.heap.size+3) 3 1 (.slice BT n61 Nh) (nl+1) (lV m i++ [.int .i64 i])/\W.ownsRow (w.heap.size+3) 95 3 (.slice BU Ez CJ) (nl+1) ((fL ts m i).flatMap eG++ [.slice A5 m5 c5,.int .i64 x.sum.lo,.int .i64 x.sum.hi])/\
      Bk W (w.heap.size+1) 117 #[.int .i64 0,.slice none 0 0,.slice none 0 0,.slice none 0 0]/\Bk W (w.heap.size+2) 117 #[.int .i64 b.ag,.slice A1 n1 c1,.slice A2 n2 c2,.slice BU Ez CJ]/\Below w.heap.size w W)) ?post ?region
    case region=>
     go_region_law (first
      | (first
              |refine ug rfl (.tmp 27) (.tmp 29) 33 rfl (w.heap.size+3) 3 i3 (.int .i64 0) 1 8 (U Tryz.underlying33) nW.out.1 nW.out.2.1 nW.out.2.2.1 nW.out.2.2.2 rfl (by decide) _ nl (lV m i) rfl (nZ.out.alloc _).o6 ⟨V.heap.size,0,none⟩ 1 1 [.int .i64 i] rfl rfl ?c1 ?c2 ?c3 ?c4 ?c5 ?_
              |refine ug rfl (.tmp 27) (.tmp 29) 33 rfl (w.heap.size+3) 3 i3 (.int .i64 0) 1 8 (U Tryz.underlying33) nW.out.1 nW.out.2.1 nW.out.2.2.1 nW.out.2.2.2 rfl (by decide) _ nl (lV m i) rfl ((nZ.out.alloc _).alloc _).o6 ⟨V.heap.size,0,none⟩ 1 1 [.int .i64 i] rfl rfl ?c1 ?c2 ?c3 ?c4 ?c5 ?_
              |refine ug rfl (.tmp 27) (.tmp 29) 33 rfl (w.heap.size+3) 3 i3 (.int .i64 0) 1 8 (U Tryz.underlying33) nW.out.1 nW.out.2.1 nW.out.2.2.1 nW.out.2.2.2 rfl (by decide) _ nl (lV m i) rfl ((nZ.out.alloc _).alloc _).o6 ⟨V.heap.size+1,0,none⟩ 1 1 [.int .i64 i] rfl rfl ?c1 ?c2 ?c3 ?c4 ?c5 ?_
         case c1=>first|exact LN (Bk.new V.drew 3 _) |exact LN ((Bk.new V.drew 3 _).alloc _) |exact LN (Bk.cG (w:=V.drew.alloc _) (by simp) 3 _)
         case c2=>simp[Value.oneCell']
         case c3=>(simp only[Af0];omega)
         case c4=>omega
         case c5=>first| (simp;done) | (simp;omega)
         intro v6 w6 aG dS;have jM:Hid (OI w w6 w.heap.size wr.heap.size (.int .i64 b.ag) (.slice A1 n1 c1) (.slice A2 n2 c2) (.slice A7 n7 c7) v6 (.slice A7 n7 c7) #[.slice A5 m5 c5,.int .i64 x.sum.lo,.int .i64 x.sum.hi] (nl+1) nl (lV m i++ [.int .i64 i]) ((fL ts m i).flatMap eG)):=Af3 (by first|exact(nZ.out.alloc _).Rv aG dS|exact((nZ.out.alloc _).alloc _).Rv aG dS)
         have q7: w6.cell? ⟨w.heap.size+2,3,none⟩=some (.slice A7 n7 c7):=jM.out.kk.cell 3;have e0: w6.cell? ⟨wr.heap.size,0,none⟩=some (.slice A5 m5 c5):=jM.out.ke.cell 0;have e1: w6.cell? ⟨wr.heap.size,1,none⟩=some (.int .i64 x.sum.lo):=jM.out.ke.cell 1;have e2: w6.cell? ⟨wr.heap.size,2,none⟩=some (.int .i64 x.sum.hi):=jM.out.ke.cell 2;have jV:w.heap.size+2<w6.heap.size:=jM.out.kk.lt;have he6:wr.heap.size<w6.heap.size:=jM.out.ke.lt;have aoo:w.heap.size+2<=w6.heap.size:=by omega
         have aoc:wr.heap.size<=w6.heap.size:=by omega
         try(have HZ:Hid (Bk w6 (V.heap.size+1) 95 #[.slice A5 m5 c5,.int .i64 x.sum.lo,.int .i64 x.sum.hi]):=Af3 (afX nZ.out dS))
         try(have HY:Hid (Bk w6 V.heap.size 95 #[.slice A5 m5 c5,.int .i64 x.sum.lo,.int .i64 x.sum.hi]):=Af3 (afT nZ.out dS))
         obtain⟨BT,n61,Nh,rfl⟩:=pw aG;clear aG dS)
      | (first
              |refine ug rfl (.tmp 33) (.tmp 35) 24 rfl (w.heap.size+3) 95 i9 (.agg #[.slice none 0 0,.int .i64 0,.int .i64 0]) 3 40 (U Tryz.underlying24) nX.out.1 nX.out.2.1 nX.out.2.2.1 nX.out.2.2.2 rfl (by decide) _ nl ((fL ts m i).flatMap eG) rfl (jM.out.alloc _).o7 ⟨w6.heap.size,0,none⟩ 1 1 [.slice A5 m5 c5,.int .i64 x.sum.lo,.int .i64 x.sum.hi] rfl rfl ?c1 ?c2 ?c3 ?c4 ?c5 ?_
              |refine ug rfl (.tmp 33) (.tmp 35) 24 rfl (w.heap.size+3) 95 i9 (.agg #[.slice none 0 0,.int .i64 0,.int .i64 0]) 3 40 (U Tryz.underlying24) nX.out.1 nX.out.2.1 nX.out.2.2.1 nX.out.2.2.2 rfl (by decide) _ nl ((fL ts m i).flatMap eG) rfl jM.out.o7 ⟨V.heap.size+1,0,none⟩ 1 1 [.slice A5 m5 c5,.int .i64 x.sum.lo,.int .i64 x.sum.hi] rfl rfl ?c1 ?c2 ?c3 ?c4 ?c5 ?_
              |refine ug rfl (.tmp 33) (.tmp 35) 24 rfl (w.heap.size+3) 95 i9 (.agg #[.slice none 0 0,.int .i64 0,.int .i64 0]) 3 40 (U Tryz.underlying24) nX.out.1 nX.out.2.1 nX.out.2.2.1 nX.out.2.2.2 rfl (by decide) _ nl ((fL ts m i).flatMap eG) rfl jM.out.o7 ⟨V.heap.size,0,none⟩ 1 1 [.slice A5 m5 c5,.int .i64 x.sum.lo,.int .i64 x.sum.hi] rfl rfl ?c1 ?c2 ?c3 ?c4 ?c5 ?_
         case c1=>first|exact LO (Bk.new w6 95 _) |exact LO HZ.out|exact LO HY.out
         case c2=>simp[Value.oneCell']
         case c3=>(simp only[Af0];omega)
         case c4=>omega
         case c5=>first|omega| (simp;omega)
         intro v7 w7 aG dS;have KV:Hid (w7.ownsRow (w.heap.size+3) 3 1 _ (nl+1) (lV m i++ [.int .i64 i])/\w7.ownsRow (w.heap.size+3) 95 3 v7 (nl+1) ((fL ts m i).flatMap eG++ [.slice A5 m5 c5,.int .i64 x.sum.lo,.int .i64 x.sum.hi])/\Bk w7 (w.heap.size+1) 117 #[.int .i64 0,.slice none 0 0,.slice none 0 0,.slice none 0 0]/\Bk w7 (w.heap.size+2) 117 #[.int .i64 b.ag,.slice A1 n1 c1,.slice A2 n2 c2,.slice A7 n7 c7]/\Below w.heap.size w w7):=Af3 (by first|exact(jM.out.alloc _).Rw aG dS|exact jM.out.Rw aG dS)
         have q3: w7.cell? ⟨w.heap.size+2,3,none⟩=some (.slice A7 n7 c7):=KV.out.2.2.2.1.cell 3;have f3: w7.frozen? ⟨w.heap.size+2,3,none⟩=false:=KV.out.2.2.2.1.frozen 3;obtain⟨BU,Ez,CJ,rfl⟩:=pw aG;clear aG dS))
     all_goals
      show ∃_,_
      exact⟨_,_,_,_,_,_,_,_,rfl,Af3 (aja KV.out)⟩
    case post=>
     clear nZ q7 e0 e1 e2 xR aeO aeP aeQ Ng aep aer aes afZ nW nX;refine dP.imp ?_
     rintro a W ⟨BT,n61,Nh,BU,Ez,CJ,XY,XZ,rfl,hW⟩;have HW:=Af3 hW;clear hW;go_wp2;go_roundw;case rel=>exact⟨i+1,_,by omega,by go_num,Af3 (by unfold lV;rw[Ie vb];have:=HW.out.1;rw[Q8.out] at this;simpa [lV] using this),Af3 (by rw[Ie vb,Wz vb HX.out];have:=HW.out.2.1;rw[Q8.out] at this;simpa [eG] using this),Af3 HW.out.2.2.1,Af3 HW.out.2.2.2.1,Af3 HW.out.2.2.2.2⟩
     case measure=>simp[Ag7];omega
  ·obtain rfl:i=n3:=by omega
   have q0:=hk.out.cell 0;have q1:=hk.out.cell 1;have q2:=hk.out.cell 2;have q3:=hk.out.cell 3;have p0:=hr.out.cell 0;have p1:=hr.out.cell 1;have p2:=hr.out.cell 2;have p3:=hr.out.cell 3;have f0:=hr.out.frozen 0;have f1:=hr.out.frozen 1;have f2:=hr.out.frozen 2;have f3:=hr.out.frozen 3;have rV:w.heap.size+1<wr.heap.size:=hr.out.lt;have qz:=((((hr.out.set 0 (.int .i64 b.ag)).set 1 (.slice A1 n1 c1)).set 2 (.slice A2 n2 c2)).set 3 (.slice A7 n7 c7));have y0:=qz.cell 0;have y1:=qz.cell 1;have y2:=qz.cell 2;have y3:=qz.cell 3;clear qz;go_wp2;refine Ag1 (v:=.tuple #[.agg #[.int .i64 b.ag,.slice A1 n1 c1,.slice A2 n2 c2,.slice A7 n7 c7],.slice A6 n6 c6]) (by simp[results,Tryz.results138,go_sem,y0,y1,y2,y3]) rfl ⟨_,_,rfl,?_⟩
   exact ajc hB bT.out HM.out.1 HM.out.2.1 (by rw[E3.out]) h6.out h7.out hb.out
end Go.Tw
namespace Go.Jn
open Go Go.Proofs Go.Sim Go.Conc Go.Tw Go.RowKit
theorem acM{l:List Cut}:∀ {i:Nat} {c:Cut},l[i]?=some c->(l.flatMap Cut.vs)[i * 2]?=some (.int .i64 c.bp)/\(l.flatMap Cut.vs)[i * 2+1]?=some (.int .i64 c.from_):=by
 induction l with
 |nil=>intro i c h;simp at h
 |cons a l ih=>
  intro i c h;have e:(a::l).flatMap Cut.vs=.int .i64 a.bp:: .int .i64 a.from_::l.flatMap Cut.vs:=rfl;rw[e];cases i with
  |zero=>simp at h;subst h;simp
  |succ i=>
   simp at h;have:=ih h;rw[show(i+1) * 2=i * 2+1+1 by omega]
   simpa using this
theorem K0{l:List Cut}:∀ {i:Nat} {c:Cut} (g0:Int),l[i]?=some c->(l.set i ⟨c.bp,g0⟩).flatMap Cut.vs=(l.flatMap Cut.vs).set (i * 2+1) (.int .i64 g0):=by
 induction l with
 |nil=>intro i c g0 h;simp at h
 |cons a l ih=>
  intro i c g0 h;have e:∀(a:Cut) (l:List Cut),(a::l).flatMap Cut.vs=.int .i64 a.bp:: .int .i64 a.from_::l.flatMap Cut.vs:=fun _ _=>rfl
  cases i with
  |zero=>simp at h;subst h;rfl
  |succ i=>
   simp at h;rw[Ai7,e,e,ih g0 h,show(i+1) * 2+1=(i * 2+1)+1+1 by omega,Ai7,Ai7]
theorem EL{W:Aa4}{base n:Nat}{v:Value}{l:List Cut}(h:W.ownsRow base 56 2 v n (l.flatMap Cut.vs))(hl:l.length=n){i:Nat}{c:Cut}(hi:l[i]?=some c):
 ∃g cap,v=.slice (some ⟨g,0,none⟩) n cap/\base<=g/\g<W.heap.size/\ W.cell? ⟨g,i * 2+1,none⟩=some (.int .i64 c.from_)/\ W.frozen? ⟨g,i * 2+1,none⟩=false/\
  (∀g0:Int,(W.setCell ⟨g,i * 2+1,none⟩ (.int .i64 g0)).ownsRow base 56 2 v n ((l.set i ⟨c.bp,g0⟩).flatMap Cut.vs)):=by
 letI:=jg
 have qp:i<l.length:=(Agb.1 hi).1
 rcases h.2 with⟨rfl,h0⟩ | ⟨g,cap,cur,rfl,nC,hg,dX,kZ,fg,lT⟩
 ·omega
 ·have al:=(Aaf.1 hg).1
  have ql:(l.flatMap Cut.vs).length=n * 2:=h.1;have tB:cur[i * 2+1]?=some (.int .i64 c.from_):=by
   have:=(acM hi).2;rw[<-lT,List.getElem?_take,if_pos (by omega)] at this
   simpa using this
  have hb:Bk W g 56 cur:=hg;refine⟨g,cap,rfl,nC,al,(hb.cell _).trans tB,hb.frozen _,fun g0=>?_⟩
  have ak:=hb.set (i * 2+1) (.int .i64 g0);refine⟨by rw[K0 g0 hi,Ais];exact ql,.inr ⟨g,cap,_,rfl,nC,ak,dX,kZ,by rw[Aek];exact fg,?_⟩⟩
  rw[K0 g0 hi,<-lT,Array.toList_setIfInBounds,List.take_set]
theorem vT{w:Aa4}{base n:Nat}{v:Value}{xs:List Value}(h:w.ownsRow base 56 2 v n xs)(hn:0<n):∃g c,v=.slice (some ⟨g,0,none⟩) n c/\base<=g/\g<w.heap.size/\xs.length=n * 2/\∀W,Ahz w.heap.size w W->∀j u,xs[j]?=some u-> W.cell? ((⟨g,0,none⟩:Aay).add j)=some u:=by
 letI:=jg
 rcases h.2 with⟨rfl,h0⟩ | ⟨g,cap,cur,rfl,nC,hg,dX,kZ,fg,lT⟩
 ·omega
 ·have al:=(Aaf.1 hg).1
  refine⟨g,cap,rfl,nC,al,h.1,fun W hW j u hu=>?_⟩
  have hb:Bk W g 56 cur:=Bk.below (show Bk w g 56 cur from hg) hW al
  rw[nu];refine(hb.cell j).trans ?_
  rw[<-lT,List.getElem?_take] at hu
  split at hu
  ·simpa using hu
  ·cases hu
theorem ai1:stub.ntmps=1:=rfl
theorem akh:stub.results=#[.tmp 0]:=rfl
theorem P3(w:Aa4):Af1 lp 21 #[] w fun e w'=>e=.returned (.bool true)/\w=w':=by
 letI:=jg
 go_enter GO,ai1;unfold kg;go_wp2;exact Ag1 (v:=.bool true) (by simp[results,akh,go_sem]) rfl ⟨rfl,rfl⟩
@[go_sem] theorem call21(args:Array Value)(w:Aa4):(callFunc 21 args).run (@Tw.prog jg) w=.ok (.enter 21 args) w:=by
  obtain⟨c,hc,_⟩:=Je;have h:=CK (P:=lp) GO hc P4 args w;have:=congrArg Ajc h;rw[Sem.runT_fst] at this;exact this
theorem Px{α:Type}{w w':Aa4}{sz:Nat}{R:α->List Value->Prop}{v:Value}{xs:List α}(h:Row w w.heap.size sz R v xs)(hb:Ahz w.heap.size w w'):Row w' w'.heap.size sz R v xs:=
 (h.still (Still.aK hb (Ac2 _)) fun _ _ h=>h).more hb.size
theorem Sc{w:Aa4}{B B':Nat}{b:ao}{pv bv tv:Value}(h:bg w B b pv bv tv)(hB:B<=B'):bg w B' b pv bv tv:=
 ⟨h.pieces.more hB,(h.aF.still (Still.refl _) fun x cs ⟨kv,h1,h2,h3⟩=>⟨kv,h1,h2,h3.more hB⟩).more hB,(h.aJ.still (Still.refl _) fun x cs ⟨kv,h1,h3⟩=>⟨kv,h1,h3.more hB⟩).more hB⟩
theorem S4{w w':Aa4}{b:ao}{mI:List Cut->Int}{e:Ending}(hn:fA b mI=none)(h:wM w b mI e w'):e=.returned (.tuple #[.slice none 0 0,.int .i64 0,.bool false,.int .i64 (cj b 0)])/\Ahz w.heap.size w w':=by
 obtain⟨cv,mv,fv,rfl,aQ,hb⟩:=h;rw[hn] at aQ;obtain⟨rfl,rfl,rfl⟩:=aQ;exact⟨rfl,hb⟩
theorem Zy{b:ao}{mI:List Cut->Int}{x:List Cut×Int}(h:fA b mI=some x):cj b 0=0:=by
 unfold fA at h;split at h
 ·assumption
 ·cases h
theorem S6{w w':Aa4}{b:ao}{mI:List Cut->Int}{e:Ending}{x:List Cut}{m:Int}(hn:fA b mI=some (x,m))(h:wM w b mI e w'):∃A k c,e=.returned (.tuple #[.slice A k c,.int .i64 m,.bool true,.int .i64 0])/\w'.ownsRow w.heap.size 56 2 (.slice A k c) b.pieces.length (x.flatMap Cut.vs)/\Ahz w.heap.size w w':=by
 letI:=jg
 obtain⟨cv,mv,fv,rfl,aQ,hb⟩:=h;rw[hn] at aQ;obtain⟨ho,rfl,rfl⟩:=aQ;obtain⟨A,k,c,rfl⟩:=j8 ho;exact⟨A,k,c,by rw[Zy hn],ho,hb⟩
theorem acK{b:ao}(h:xk b=true):dF b=0:=by
 unfold xk at h;simp only[Bool.and_eq_true,decide_eq_true_eq] at h;exact h.2
noncomputable def c7:Ai1:=(Tryz.f7.body).getD .skip
def t7(v:Value)(p q:Nat):Array Value:=#[v,.int .u8 p,.int .u8 q,undef,undef,undef,undef,undef,undef,undef,undef,undef,undef,undef,undef,undef,undef,undef,undef,undef,undef,undef,undef,undef,undef,undef,undef,undef,undef,undef,undef,undef,undef,undef,undef,undef,undef,undef,undef,undef,undef,undef,undef,undef,undef,undef,undef,undef,undef,undef,undef,undef,undef,undef,undef,undef,undef,undef,undef,undef,undef,undef,undef,undef,undef,undef,undef,undef,undef,undef,undef,undef,undef,undef,undef,undef,undef,undef,undef,undef,undef,undef,undef,undef,undef,undef,undef,undef,undef,undef,undef,undef,undef,undef,undef,undef,undef,undef,undef,undef,undef,undef,undef,undef,undef,undef,undef,undef,undef,undef,undef,undef,undef,undef,undef,undef,undef,undef,undef,undef,undef]
def Za(r:Nat)(e:Exit)(a:Act)(_:Aa4):Prop:=e=.ret/\a.defers=[cQ]/\a.tmps[r]?=some (.bool true)
set_option maxRecDepth 100000 in
theorem agX{b:ao}{pv bv tv:Value}{w:Aa4}{B:Nat}(ai:bg w B b pv bv tv)(hB:B<=w.heap.size)(hm:gI w){p q:Nat}(hp:p<256)(hq:q<256):
 c7.wp lp (Za 6) ⟨t7 (.agg #[.int .i64 b.ag,pv,bv,tv]) p q,[cQ]⟩ w:=by
 letI:=jg
 have bT:=Af3 ai;obtain⟨PA,np,pc,rfl,-⟩:=ai.pieces.open_;obtain⟨TA,nt,tc,rfl,-⟩:=ai.aJ.open_;obtain⟨A,m,c,rfl,-⟩:=ai.aF.open_;have kb:Bk (w.alloc (.cells #[.int .i64 b.ag,.slice PA np pc,.slice A m c,.slice TA nt tc] 26)) w.heap.size 26 #[.int .i64 b.ag,.slice PA np pc,.slice A m c,.slice TA nt tc]:=Bk.new _ _ _;have KB:=Af3 kb;have fS:Hid (Below w.heap.size w (w.alloc (.cells #[.int .i64 b.ag,.slice PA np pc,.slice A m c,.slice TA nt tc] 26))):=Af3 ((Af6 _ _).alloc (Ac2 _) _);have mG:(w.alloc (.cells #[.int .i64 b.ag,.slice PA np pc,.slice A m c,.slice TA nt tc] 26)).heap.size=w.heap.size+1:=by simp
 have Ke:Hid (Af1 lp 40 #[.agg #[.int .i64 b.ag,.slice PA np pc,.slice A m c,.slice TA nt tc]] (w.alloc (.cells #[.int .i64 b.ag,.slice PA np pc,.slice A m c,.slice TA nt tc] 26)) fun e w'=>e=.returned (.bool (xk b))/\Below (w.heap.size+1) (w.alloc (.cells #[.int .i64 b.ag,.slice PA np pc,.slice A m c,.slice TA nt tc] 26)) w'):=Af3 (by
  have:=fit (bT.out.still (Still.aK fS.out hB)) (by rw[mG];omega)
  rw[mG] at this;exact this)
 have HM:=Af3 hm;clear ai kb hm;unfold c7 t7;simp only[Tryz.f7,Option.getD_some];cases hf:xk b with
 |false=>
  go_wp2
  go_at_call 40
  refine Ke.out.mono ?_
  rintro e w1 ⟨rfl,ae⟩;rw[hf];clear ae;go_wp2
  go_at_call 21
  refine(P3 _).mono ?_
  rintro e w' ⟨rfl,rfl⟩;go_wp2;exact⟨rfl,rfl,rfl⟩
 |true=>
  have ic:=acK hf;have hzB:B<=w.heap.size+1:=by omega
  have ST:∀W,Ahz (w.heap.size+1) (w.alloc (.cells #[.int .i64 b.ag,.slice PA np pc,.slice A m c,.slice TA nt tc] 26)) W->Still B w W/\Bk W w.heap.size 26 #[.int .i64 b.ag,.slice PA np pc,.slice A m c,.slice TA nt tc]/\gI W/\w.heap.size+1<=W.heap.size:=fun W hW=>by
   have hb:Ahz w.heap.size w W:=fS.out.trans (hW.mono (by omega))
   exact⟨Still.aK hb hB,KB.out.below hW (by omega),HM.out.below hb HM.out.lt,by have:=hW.size;omega⟩
  have SX:=Af3 ST;have QK:Hid (∀W,Ahz (w.heap.size+1) (w.alloc (.cells #[.int .i64 b.ag,.slice PA np pc,.slice A m c,.slice TA nt tc] 26)) W->Af1 lp 33 #[.agg #[.int .i64 b.ag,.slice PA np pc,.slice A m c,.slice TA nt tc]] W (wM W b j6)):=Af3 fun W hW=>
   Md (by have:=(ST W hW).2.2.2;omega) (bT.out.still (ST W hW).1) (ST W hW).2.2.1
  have QM:Hid (∀W,Ahz (w.heap.size+1) (w.alloc (.cells #[.int .i64 b.ag,.slice PA np pc,.slice A m c,.slice TA nt tc] 26)) W->Af1 lp 36 #[.agg #[.int .i64 b.ag,.slice PA np pc,.slice A m c,.slice TA nt tc]] W (wM W b (qM b))):=Af3 fun W hW=>
   Xm (by have:=(ST W hW).2.2.2;omega) (bT.out.still (ST W hW).1) (ST W hW).2.2.1
  clear ST;rcases ae:fA b j6 with _| ⟨x,m1⟩
  ·have ak:fA b (qM b)=none:=by
    have:=RM b j6 (qM b);rw[ae] at this;cases h:fA b (qM b) with
    |none=>rfl
    |some y=>rw[h] at this;cases this
   have HN:=Af3 (Afx ae ak);clear ae ak;obtain⟨o,ho⟩:∃o,o=cj b 0:=⟨_,rfl⟩
   have HO:=Af3 ho;clear ho;have DU:(o==o)=true:=by simp
   by_cases h0:o=0
   case' pos=>subst h0
   case' neg=>have hd:(o !=0)=true:=by simpa using h0
   all_goals
    go_wp2
    go_at_call 40
    refine Ke.out.mono ?_
    rintro e w1 ⟨rfl,ae⟩;rw[hf];obtain⟨-,dg,-,-⟩:=SX.out w1 ae;have r0:=dg.cell 0;have r1:=dg.cell 1;have r2:=dg.cell 2;have r3:=dg.cell 3;have yF:w.heap.size<w1.heap.size:=dg.lt;have H1:=Af3 ae;clear ae dg;go_wp2
    go_at_call 33
    refine(QK.out w1 H1.out).mono ?_
    intro e w2 jY;obtain⟨rfl,jS⟩:=S4 HN.out.1 jY;rw[<-HO.out];have ak:=H1.out.trans (jS.mono (by have:=yF;omega))
    obtain⟨-,cP,-,-⟩:=SX.out w2 ak;have r0:=cP.cell 0;have r1:=cP.cell 1;have r2:=cP.cell 2;have r3:=cP.cell 3;have V2:w.heap.size<w2.heap.size:=cP.lt;have H2:=Af3 ak;clear ak cP jS jY;go_wp2
    go_at_call 36
    refine(QM.out w2 H2.out).mono ?_
    intro e w3 jY;obtain⟨rfl,jS⟩:=S4 HN.out.2 jY;rw[<-HO.out];clear jS jY;go_wp2
    go_at_call 21
    refine(P3 _).mono ?_
    rintro e w' ⟨rfl,rfl⟩;go_wp2;exact⟨rfl,rfl,rfl⟩
  ·rcases ak:fA b (qM b) with _| ⟨y,m2⟩
   ·have:=RM b j6 (qM b)
    rw[ae,ak] at this;cases this
   obtain⟨Dx,Am,hv⟩:=RP ae;obtain⟨Dy,An,-⟩:=RP ak;have kH:=hv.np;have HN:=Af3 (Afx ae ak);have HG:=Af3 (Afx Dx (Afx Am (Afx Dy An)));obtain⟨n,hn⟩:∃n,n=b.pieces.length:=⟨_,rfl⟩
   rw[<-hn] at kH;have nk:=Af3 hn;clear ae ak Dx Am Dy An hv hn;go_wp2
   go_at_call 40
   refine Ke.out.mono ?_
   rintro e w1 ⟨rfl,ae⟩;rw[hf];obtain⟨-,dg,-,-⟩:=SX.out w1 ae;have r0:=dg.cell 0;have r1:=dg.cell 1;have r2:=dg.cell 2;have r3:=dg.cell 3;have yF:w.heap.size<w1.heap.size:=dg.lt;have H1:=Af3 ae;clear ae dg;go_wp2
   go_at_call 33
   refine(QK.out w1 H1.out).mono ?_
   intro e w2 jY;obtain⟨A7,n7,xa,rfl,U0,jS⟩:=S6 HN.out.1 jY;have ak:=H1.out.trans (jS.mono (by have:=yF;omega))
   obtain⟨-,cP,-,-⟩:=SX.out w2 ak;have r0:=cP.cell 0;have r1:=cP.cell 1;have r2:=cP.cell 2;have r3:=cP.cell 3;have V2:w.heap.size<w2.heap.size:=cP.lt;have H2:=Af3 ak;have O7:=Af3 U0;clear ak cP jS jY U0;go_wp2
   go_at_call 36
   refine(QM.out w2 H2.out).mono ?_
   intro e w3 jY;obtain⟨JY,V9,wY,rfl,NO,jS⟩:=S6 HN.out.2 jY;have bD:=H2.out.trans (jS.mono (by have:=V2;omega))
   obtain⟨HU,fh,-,-⟩:=SX.out w3 bD;have r0:=fh.cell 0;have r1:=fh.cell 1;have r2:=fh.cell 2;have r3:=fh.cell 3;have lt3:w.heap.size<w3.heap.size:=fh.lt;have AQ:Row w3 w3.heap.size 2 Cut.R (.slice A7 n7 xa) x:=by
    have h1:Row w2 w2.heap.size 2 Cut.R (.slice A7 n7 xa) x:=lu (l:=x) (f:=Cut.vs) (by rw[HG.out.1.1];exact O7.out) (fun _=>rfl) (fun _ _=>rfl)
    exact Px h1 jS
   have H8:Row w3 w3.heap.size 2 Cut.R (.slice JY V9 wY) y:=lu (l:=y) (f:=Cut.vs) (by rw[HG.out.2.2.1.1];exact NO) (fun _=>rfl) (fun _ _=>rfl)
   obtain rfl:n7=n:=by
    obtain⟨A',c',e,_⟩:=id AQ;injection e with _ e2 _
    rw[e2,nk.out];exact HG.out.1.1
   obtain rfl:n7=V9:=by
    obtain⟨A',c',e,_⟩:=id H8;injection e with _ e2 _
    rw[e2,nk.out];exact HG.out.2.2.1.1.symm
   have VU:=Af3 NO;have wN:=Af3 jS;have H3:=Af3 bD;have RX:=Af3 (Afx AQ H8);have QN:Hid (∀W,Ahz w3.heap.size w3 W->Af1 lp 44 #[.agg #[.int .i64 b.ag,.slice PA np pc,.slice A m c,.slice TA nt tc],.slice A7 n7 xa] W (fun e w'=>e=.returned (.int .i64 0)/\Ahz W.heap.size W w')/\
    Af1 lp 44 #[.agg #[.int .i64 b.ag,.slice PA np pc,.slice A m c,.slice TA nt tc],.slice JY n7 wY] W (fun e w'=>e=.returned (.int .i64 0)/\Ahz W.heap.size W w')):=Af3 fun W hW=>by
    have cF:=H3.out.trans (hW.mono (by have:=lt3;omega))
    obtain⟨aQ,-,-,aI⟩:=SX.out W cF;have ai:=Sc (bT.out.still aQ) (show B<=W.heap.size by omega)
    have g1:=Sn ai (Px RX.out.1 hW) (Ac2 _);have g2:=Sn ai (Px RX.out.2 hW) (Ac2 _);rw[HG.out.2.1] at g1;rw[HG.out.2.2.2] at g2;exact⟨g1,g2⟩
   clear bD fh jS jY NO AQ H8 HU;have NN:((n7:Int)==0)=false:=by simp;omega
   have aoq:(n7:Int)≠0:=by omega
   go_wp2
   go_at_call 44
   refine(QN.out w3 (Ai4 _ _)).1.mono ?_
   rintro e w4 ⟨rfl,cO⟩;obtain⟨-,xQ,-,-⟩:=SX.out w4 (H3.out.trans (cO.mono (by omega)))
   have r0:=xQ.cell 0;have r1:=xQ.cell 1;have r2:=xQ.cell 2;have r3:=xQ.cell 3;have lt4:w.heap.size<w4.heap.size:=xQ.lt;have H4:=Af3 cO;clear cO xQ;go_wp2
   go_at_call 44
   refine(QN.out w4 H4.out).2.mono ?_
   rintro e w5 ⟨rfl,eR⟩;have H5:=Af3 (H4.out.trans (eR.mono H4.out.size));clear eR;go_wp2;have cR:((p:Int) % (n7:Int))=((p % n7:Nat):Int):=by simp
   obtain⟨i,hi⟩:∃i,i=p % n7:=⟨_,rfl⟩
   have dL:i<n7:=by rw[hi];exact Nat.mod_lt _ (by omega)
   rw[<-hi] at cR;clear hi;simp only[cR];obtain⟨g7,d7,e7,hg7,hl7,AQ,TW⟩:=vT O7.out (by rw[<-nk.out];omega)
   obtain⟨g11,d11,H9,aev,aeR,U2,Tf⟩:=vT VU.out (by rw[<-nk.out];omega)
   have f7:A7=some ⟨g7,0,none⟩:=by injection e7
   have f11:JY=some ⟨g11,0,none⟩:=by injection H9
   clear e7 H9;subst f7 f11;have AX:Hid (∀W,Ahz w5.heap.size w5 W->∀j u,(x.flatMap Cut.vs)[j]?=some u-> W.cell? ((⟨g7,0,none⟩:Aay).add j)=some u):=Af3 fun W hW=>
    TW W ((wN.out.trans (H5.out.mono wN.out.size)).trans (hW.mono (Ac3 wN.out.size H5.out.size)))
   have AY:Hid (∀W,Ahz w5.heap.size w5 W->∀j u,(y.flatMap Cut.vs)[j]?=some u-> W.cell? ((⟨g11,0,none⟩:Aay).add j)=some u):=Af3 fun W hW=>
    Tf W (H5.out.trans (hW.mono H5.out.size))
   have zq:Hid ((x.flatMap Cut.vs).length=n7 * 2/\(y.flatMap Cut.vs).length=n7 * 2):=Af3 ⟨by rw[nk.out];exact AQ,by rw[nk.out];exact U2⟩
   clear TW Tf AQ U2 hg7 aev hl7 aeR;obtain⟨i0,NV,cT,aN,ba⟩:=Agw VH;have bI:=Af3 (Afx NV (Afx cT (Afx aN ba)));clear NV cT aN ba;have L1:Hid (∀c g0,x[i]?=some c->0<=g0->g0<c.from_->cj b (ey b (x.set i ⟨c.bp,g0⟩))=0/\zP b (x.set i ⟨c.bp,g0⟩)≠1):=Af3 fun c g0 h1 h2 h3=>Vo HN.out.1 h1 h2 h3
   have L2:Hid (∀c g0,y[i]?=some c->0<=g0->g0<c.from_->cj b (ey b (y.set i ⟨c.bp,g0⟩))=0/\zP b (y.set i ⟨c.bp,g0⟩)≠1):=Af3 fun c g0 h1 h2 h3=>Vo HN.out.2 h1 h2 h3
   have QI:Hid (∀W z v,Ahz w5.heap.size w5 W->Row W W.heap.size 2 Cut.R v z->cj b (ey b z)=0->zP b z≠1->Af1 lp 28 #[.agg #[.int .i64 b.ag,.slice PA np pc,.slice A m c,.slice TA nt tc],v] W fun e w'=>∃o,e=.returned (.tuple #[.int .i64 o,.int .i64 0])/\(o==1)=false/\Ahz W.heap.size W w'):=Af3 fun W z v hW hr h0 h1=>by
    have cF:=H3.out.trans ((H5.out.trans (hW.mono H5.out.size)).mono (by omega))
    obtain⟨aQ,-,-,aI⟩:=SX.out W cF;have g:=L4 (Ac2 _) (Sc (bT.out.still aQ) (show B<=W.heap.size by omega)) hr h0
    refine g.mono fun e w' h=>⟨_,h.1,?_,h.2⟩
    unfold zP at h1;rw[if_neg (by rw[h0];simp)] at h1
    simpa using h1
   obtain⟨cx,Am⟩:∃c,x[i]?=some c:=⟨x[i]'(by rw[HG.out.1.1,<-nk.out];exact dL),Aga _⟩
   obtain⟨cy,An⟩:∃c,y[i]?=some c:=⟨y[i]'(by rw[HG.out.2.2.1.1,<-nk.out];exact dL),Aga _⟩
   have hfx:=(HG.out.1.2 cx (Agg Am)).from_;have hfy:=(HG.out.2.2.1.2 cy (Agg An)).from_;have zl:=Af3 (Afx Am An);have zo:Hid (x.length=n7/\y.length=n7):=Af3 ⟨by rw[nk.out];exact HG.out.1.1,by rw[nk.out];exact HG.out.2.2.1.1⟩
   clear Am An;go_loopw [6,16,17,18,19] (fun r kv cu dv sv wr=>∃kk:Nat,kk<=2/\kv=.int .i64 kk/\Ahz w5.heap.size w5 wr) (fun _ kv _ _ _ _=>2 - (Ag7 kv).toNat)
   case atStart=>exact⟨0,by omega,rfl,Ai4 _ _⟩
   case round=>
    obtain⟨kk,rI,rfl,hb⟩:=hrel;by_cases al:kk<2
    ·obtain rfl|rfl:kk=0\/kk=1:=by omega
     ·have HB:=Af3 hb
      have yl:w5.heap.size<=wr.heap.size:=hb.size;have Oh:w.heap.size<w5.heap.size:=by have:=H5.out.size;omega
      have HO:Hid ((wr.alloc (.cells #[] 56)).ownsRow wr.heap.size 56 2 (.slice (some ⟨wr.heap.size,0,none⟩) 0 0) 0 []):=Af3 ⟨rfl,.inr ⟨wr.heap.size,0,#[],rfl,Ac2 _,Ai0 wr _,Ac2 _,by unfold Af0;omega,rfl,rfl⟩⟩
      have Ca:Hid (∀j u,(x.flatMap Cut.vs)[j]?=some u->(wr.alloc (.cells #[] 56)).cell? ((⟨g7,0,none⟩:Aay).add j)=some u):=Af3 (AX.out _ (hb.alloc yl _))
      clear hb;obtain⟨f,hf⟩:∃f:Nat,cx.from_=(f:Int):=⟨cx.from_.toNat,by omega⟩
      by_cases h0:f=0
      ·have GF:cx.from_=0:=by rw[hf,h0];rfl
       go_wp2_with (first
        | (at_builtin
           refine Agx _ rfl (.tmp 82) (.tmp 83) 27 rfl wr.heap.size 56 i0 (.agg #[.int .i64 0,.int .i64 0]) 2 16 (U Tryz.underlying27) bI.out.1 bI.out.2.1 bI.out.2.2.1 bI.out.2.2.2 rfl (by decide) _ 0 [] rfl HO.out ⟨g7,0,none⟩ n7 xa (x.flatMap Cut.vs) rfl zq.out.1 Ca.out ?c2 ?c3 ?c4 ?c5 ?_
           case c2=>(intro u hu;obtain⟨a,_,hu⟩:=Ai6.1 hu;simp only[Cut.vs,Aef,Aeg,or_false] at hu;rcases hu with rfl|rfl<;>rfl)
           case c3=>(simp only[Af0];omega)
           case c4=>omega
           case c5=>simp
           intro v' w6 aG dS _;have jM:Hid (w6.ownsRow wr.heap.size 56 2 v' n7 (x.flatMap Cut.vs)):=Af3 (by simpa using aG)
           have mo:Ahz w5.heap.size w5 w6:=(HB.out.alloc yl _).grown dS (by simp;omega) (fun k hk=>by have:=ei HO.out k hk;omega)
           obtain⟨g,cap,rfl,dB,kG,yc,H7,jy⟩:=EL jM.out zo.out.1 zl.out.1;have HS:=Af3 (Afx dB jy);obtain⟨-,jV,-,-⟩:=SX.out w6 (H3.out.trans ((H5.out.trans (mo.mono H5.out.size)).mono (by omega)))
           rw[GF] at yc;have wF:=Af3 mo;clear aG dS dB jy mo jV))
       go_roundw;case rel=>exact⟨1,by omega,rfl,wF.out⟩
       case measure=>simp[Ag7]
      ·have Hh:((f:Int)==0)=false:=by simp;omega
       have xN:(f:Int)≠0:=by omega
       have LL:=Af3 (L1.out cx ((q:Int) % (f:Int)) zl.out.1 (Int.emod_nonneg _ xN) (by rw[hf];exact Int.emod_lt_of_pos _ (by omega)))
       go_wp2_with (first
        | (at_builtin
           refine Agx _ rfl (.tmp 82) (.tmp 83) 27 rfl wr.heap.size 56 i0 (.agg #[.int .i64 0,.int .i64 0]) 2 16 (U Tryz.underlying27) bI.out.1 bI.out.2.1 bI.out.2.2.1 bI.out.2.2.2 rfl (by decide) _ 0 [] rfl HO.out ⟨g7,0,none⟩ n7 xa (x.flatMap Cut.vs) rfl zq.out.1 Ca.out ?c2 ?c3 ?c4 ?c5 ?_
           case c2=>(intro u hu;obtain⟨a,_,hu⟩:=Ai6.1 hu;simp only[Cut.vs,Aef,Aeg,or_false] at hu;rcases hu with rfl|rfl<;>rfl)
           case c3=>(simp only[Af0];omega)
           case c4=>omega
           case c5=>simp
           intro v' w6 aG dS _;have jM:Hid (w6.ownsRow wr.heap.size 56 2 v' n7 (x.flatMap Cut.vs)):=Af3 (by simpa using aG)
           have mo:Ahz w5.heap.size w5 w6:=(HB.out.alloc yl _).grown dS (by simp;omega) (fun k hk=>by have:=ei HO.out k hk;omega)
           obtain⟨g,cap,rfl,dB,kG,yc,H7,jy⟩:=EL jM.out zo.out.1 zl.out.1;have HS:=Af3 (Afx dB jy);obtain⟨-,jV,-,-⟩:=SX.out w6 (H3.out.trans ((H5.out.trans (mo.mono H5.out.size)).mono (by omega)))
           rw[hf] at yc;have R0:∀u,(w6.setCell ⟨g,i * 2+1,none⟩ u).cell? ⟨w.heap.size,0,none⟩=some (.int .i64 b.ag):=fun u=>(jV.dn (p:=⟨g,i * 2+1,none⟩) (show w.heap.size≠g by omega) u).cell 0
           have R1:∀u,(w6.setCell ⟨g,i * 2+1,none⟩ u).cell? ⟨w.heap.size,1,none⟩=some (.slice PA np pc):=fun u=>(jV.dn (p:=⟨g,i * 2+1,none⟩) (show w.heap.size≠g by omega) u).cell 1
           have R2:∀u,(w6.setCell ⟨g,i * 2+1,none⟩ u).cell? ⟨w.heap.size,2,none⟩=some (.slice A m c):=fun u=>(jV.dn (p:=⟨g,i * 2+1,none⟩) (show w.heap.size≠g by omega) u).cell 2
           have R3:∀u,(w6.setCell ⟨g,i * 2+1,none⟩ u).cell? ⟨w.heap.size,3,none⟩=some (.slice TA nt tc):=fun u=>(jV.dn (p:=⟨g,i * 2+1,none⟩) (show w.heap.size≠g by omega) u).cell 3
           have Io:w.heap.size<w6.heap.size:=jV.lt;have wF:=Af3 mo;clear aG dS dB jy mo jV))
       have cF:Ahz w5.heap.size w5 (w6.setCell ⟨g,i * 2+1,none⟩ (.int .i64 ((q:Int) % (f:Int)))):=wF.out.setCell (show w5.heap.size<=g by have:=HS.out.1;omega) _
       have eI:Row (w6.setCell ⟨g,i * 2+1,none⟩ (.int .i64 ((q:Int) % (f:Int)))) (w6.setCell ⟨g,i * 2+1,none⟩ (.int .i64 ((q:Int) % (f:Int)))).heap.size 2 Cut.R (.slice (some ⟨g,0,none⟩) n7 cap) (x.set i ⟨cx.bp,(q:Int) % (f:Int)⟩):=
        lu (f:=Cut.vs) (by rw[Ais,zo.out.1];exact HS.out.2 _) (fun _=>rfl) (fun _ _=>rfl)
       refine(QI.out _ _ _ cF eI LL.out.1 LL.out.2).mono ?_
       rintro e w7 ⟨o,rfl,ho,jx⟩;have F1:=Af3 (cF.trans (jx.mono cF.size));clear cF eI jx;go_wp2;go_roundw;case rel=>exact⟨1,by omega,rfl,F1.out⟩
       case measure=>simp[Ag7]
     ·have HB:=Af3 hb
      have yl:w5.heap.size<=wr.heap.size:=hb.size;have Oh:w.heap.size<w5.heap.size:=by have:=H5.out.size;omega
      have HO:Hid ((wr.alloc (.cells #[] 56)).ownsRow wr.heap.size 56 2 (.slice (some ⟨wr.heap.size,0,none⟩) 0 0) 0 []):=Af3 ⟨rfl,.inr ⟨wr.heap.size,0,#[],rfl,Ac2 _,Ai0 wr _,Ac2 _,by unfold Af0;omega,rfl,rfl⟩⟩
      have Ca:Hid (∀j u,(x.flatMap Cut.vs)[j]?=some u->(wr.alloc (.cells #[] 56)).cell? ((⟨g7,0,none⟩:Aay).add j)=some u):=Af3 (AX.out _ (hb.alloc yl _))
      clear hb;obtain⟨f,hf⟩:∃f:Nat,cy.from_=(f:Int):=⟨cy.from_.toNat,by omega⟩
      by_cases h0:f=0
      ·have GF:cy.from_=0:=by rw[hf,h0];rfl
       go_wp2_with (first
        | (at_builtin
           refine Agx _ rfl (.tmp 82) (.tmp 83) 27 rfl wr.heap.size 56 i0 (.agg #[.int .i64 0,.int .i64 0]) 2 16 (U Tryz.underlying27) bI.out.1 bI.out.2.1 bI.out.2.2.1 bI.out.2.2.2 rfl (by decide) _ 0 [] rfl HO.out ⟨g7,0,none⟩ n7 xa (x.flatMap Cut.vs) rfl zq.out.1 Ca.out ?c2 ?c3 ?c4 ?c5 ?_
           case c2=>(intro u hu;obtain⟨a,_,hu⟩:=Ai6.1 hu;simp only[Cut.vs,Aef,Aeg,or_false] at hu;rcases hu with rfl|rfl<;>rfl)
           case c3=>(simp only[Af0];omega)
           case c4=>omega
           case c5=>simp
           intro v0 w8 aG dS _;have re:Ahz w5.heap.size w5 w8:=(HB.out.alloc yl _).grown dS (by simp;omega) (fun k hk=>by have:=ei HO.out k hk;omega)
           have B8:=Af3 re;have tN:w5.heap.size<=w8.heap.size:=re.size;have B2:Hid ((w8.alloc (.cells #[] 56)).ownsRow w8.heap.size 56 2 (.slice (some ⟨w8.heap.size,0,none⟩) 0 0) 0 []):=Af3 ⟨rfl,.inr ⟨w8.heap.size,0,#[],rfl,Ac2 _,Ai0 w8 _,Ac2 _,by unfold Af0;omega,rfl,rfl⟩⟩
           have F2:Hid (∀j u,(y.flatMap Cut.vs)[j]?=some u->(w8.alloc (.cells #[] 56)).cell? ((⟨g11,0,none⟩:Aay).add j)=some u):=Af3 (AY.out _ (re.alloc tN _))
           clear aG dS re)
        | (at_builtin
           refine Agx _ rfl (.tmp 87) (.tmp 88) 27 rfl w8.heap.size 56 i0 (.agg #[.int .i64 0,.int .i64 0]) 2 16 (U Tryz.underlying27) bI.out.1 bI.out.2.1 bI.out.2.2.1 bI.out.2.2.2 rfl (by decide) _ 0 [] rfl B2.out ⟨g11,0,none⟩ n7 wY (y.flatMap Cut.vs) rfl zq.out.2 F2.out ?c2 ?c3 ?c4 ?c5 ?_
           case c2=>(intro u hu;obtain⟨a,_,hu⟩:=Ai6.1 hu;simp only[Cut.vs,Aef,Aeg,or_false] at hu;rcases hu with rfl|rfl<;>rfl)
           case c3=>(simp only[Af0];omega)
           case c4=>omega
           case c5=>simp
           intro v' w6 aG dS _;have jM:Hid (w6.ownsRow w8.heap.size 56 2 v' n7 (y.flatMap Cut.vs)):=Af3 (by simpa using aG)
           have mo:Ahz w5.heap.size w5 w6:=(B8.out.alloc tN _).grown dS (by simp;omega) (fun k hk=>by have:=ei B2.out k hk;omega)
           obtain⟨g,cap,rfl,dB,kG,yc,H7,jy⟩:=EL jM.out zo.out.2 zl.out.2;have HS:=Af3 (Afx dB jy);obtain⟨-,jV,-,-⟩:=SX.out w6 (H3.out.trans ((H5.out.trans (mo.mono H5.out.size)).mono (by omega)))
           rw[GF] at yc;have wF:=Af3 mo;clear aG dS dB jy mo jV))
       go_roundw;case rel=>exact⟨2,by omega,rfl,wF.out⟩
       case measure=>simp[Ag7]
      ·have Hh:((f:Int)==0)=false:=by simp;omega
       have xN:(f:Int)≠0:=by omega
       have LL:=Af3 (L2.out cy ((q:Int) % (f:Int)) zl.out.2 (Int.emod_nonneg _ xN) (by rw[hf];exact Int.emod_lt_of_pos _ (by omega)))
       go_wp2_with (first
        | (at_builtin
           refine Agx _ rfl (.tmp 82) (.tmp 83) 27 rfl wr.heap.size 56 i0 (.agg #[.int .i64 0,.int .i64 0]) 2 16 (U Tryz.underlying27) bI.out.1 bI.out.2.1 bI.out.2.2.1 bI.out.2.2.2 rfl (by decide) _ 0 [] rfl HO.out ⟨g7,0,none⟩ n7 xa (x.flatMap Cut.vs) rfl zq.out.1 Ca.out ?c2 ?c3 ?c4 ?c5 ?_
           case c2=>(intro u hu;obtain⟨a,_,hu⟩:=Ai6.1 hu;simp only[Cut.vs,Aef,Aeg,or_false] at hu;rcases hu with rfl|rfl<;>rfl)
           case c3=>(simp only[Af0];omega)
           case c4=>omega
           case c5=>simp
           intro v0 w8 aG dS _;have re:Ahz w5.heap.size w5 w8:=(HB.out.alloc yl _).grown dS (by simp;omega) (fun k hk=>by have:=ei HO.out k hk;omega)
           have B8:=Af3 re;have tN:w5.heap.size<=w8.heap.size:=re.size;have B2:Hid ((w8.alloc (.cells #[] 56)).ownsRow w8.heap.size 56 2 (.slice (some ⟨w8.heap.size,0,none⟩) 0 0) 0 []):=Af3 ⟨rfl,.inr ⟨w8.heap.size,0,#[],rfl,Ac2 _,Ai0 w8 _,Ac2 _,by unfold Af0;omega,rfl,rfl⟩⟩
           have F2:Hid (∀j u,(y.flatMap Cut.vs)[j]?=some u->(w8.alloc (.cells #[] 56)).cell? ((⟨g11,0,none⟩:Aay).add j)=some u):=Af3 (AY.out _ (re.alloc tN _))
           clear aG dS re)
        | (at_builtin
           refine Agx _ rfl (.tmp 87) (.tmp 88) 27 rfl w8.heap.size 56 i0 (.agg #[.int .i64 0,.int .i64 0]) 2 16 (U Tryz.underlying27) bI.out.1 bI.out.2.1 bI.out.2.2.1 bI.out.2.2.2 rfl (by decide) _ 0 [] rfl B2.out ⟨g11,0,none⟩ n7 wY (y.flatMap Cut.vs) rfl zq.out.2 F2.out ?c2 ?c3 ?c4 ?c5 ?_
           case c2=>(intro u hu;obtain⟨a,_,hu⟩:=Ai6.1 hu;simp only[Cut.vs,Aef,Aeg,or_false] at hu;rcases hu with rfl|rfl<;>rfl)
           case c3=>(simp only[Af0];omega)
           case c4=>omega
           case c5=>simp
           intro v' w6 aG dS _;have jM:Hid (w6.ownsRow w8.heap.size 56 2 v' n7 (y.flatMap Cut.vs)):=Af3 (by simpa using aG)
           have mo:Ahz w5.heap.size w5 w6:=(B8.out.alloc tN _).grown dS (by simp;omega) (fun k hk=>by have:=ei B2.out k hk;omega)
           obtain⟨g,cap,rfl,dB,kG,yc,H7,jy⟩:=EL jM.out zo.out.2 zl.out.2;have HS:=Af3 (Afx dB jy);obtain⟨-,jV,-,-⟩:=SX.out w6 (H3.out.trans ((H5.out.trans (mo.mono H5.out.size)).mono (by omega)))
           rw[hf] at yc;have R0:∀u,(w6.setCell ⟨g,i * 2+1,none⟩ u).cell? ⟨w.heap.size,0,none⟩=some (.int .i64 b.ag):=fun u=>(jV.dn (p:=⟨g,i * 2+1,none⟩) (show w.heap.size≠g by omega) u).cell 0
           have R1:∀u,(w6.setCell ⟨g,i * 2+1,none⟩ u).cell? ⟨w.heap.size,1,none⟩=some (.slice PA np pc):=fun u=>(jV.dn (p:=⟨g,i * 2+1,none⟩) (show w.heap.size≠g by omega) u).cell 1
           have R2:∀u,(w6.setCell ⟨g,i * 2+1,none⟩ u).cell? ⟨w.heap.size,2,none⟩=some (.slice A m c):=fun u=>(jV.dn (p:=⟨g,i * 2+1,none⟩) (show w.heap.size≠g by omega) u).cell 2
           have R3:∀u,(w6.setCell ⟨g,i * 2+1,none⟩ u).cell? ⟨w.heap.size,3,none⟩=some (.slice TA nt tc):=fun u=>(jV.dn (p:=⟨g,i * 2+1,none⟩) (show w.heap.size≠g by omega) u).cell 3
           have Io:w.heap.size<w6.heap.size:=jV.lt;have wF:=Af3 mo;clear aG dS dB jy mo jV))
       have cF:Ahz w5.heap.size w5 (w6.setCell ⟨g,i * 2+1,none⟩ (.int .i64 ((q:Int) % (f:Int)))):=wF.out.setCell (show w5.heap.size<=g by have:=HS.out.1;omega) _
       have eI:Row (w6.setCell ⟨g,i * 2+1,none⟩ (.int .i64 ((q:Int) % (f:Int)))) (w6.setCell ⟨g,i * 2+1,none⟩ (.int .i64 ((q:Int) % (f:Int)))).heap.size 2 Cut.R (.slice (some ⟨g,0,none⟩) n7 cap) (y.set i ⟨cy.bp,(q:Int) % (f:Int)⟩):=
        lu (f:=Cut.vs) (by rw[Ais,zo.out.2];exact HS.out.2 _) (fun _=>rfl) (fun _ _=>rfl)
       refine(QI.out _ _ _ cF eI LL.out.1 LL.out.2).mono ?_
       rintro e w7 ⟨o,rfl,ho,jx⟩;have F1:=Af3 (cF.trans (jx.mono cF.size));clear cF eI jx;go_wp2;go_roundw;case rel=>exact⟨2,by omega,rfl,F1.out⟩
       case measure=>simp[Ag7]
    ·obtain rfl:kk=2:=by omega
     clear hb;go_wp2
     go_at_call 21
     refine(P3 _).mono ?_
     rintro e w' ⟨rfl,rfl⟩;go_wp2;exact⟨rfl,rfl,rfl⟩
end Go.Jn
namespace Go.Jn
open Go Go.Proofs Go.Sim Go.Tw Go.Conc Go.ChangeShapes Go.WideShapes Go.ChangeAt Go.RowKit
open YtfifdjajcogccaaGreatDoor
theorem Z1:Tryz.f7.body=some c7:=by
 unfold c7;rfl
theorem Z2:cr Tryz.prog G0 c7=true:=by decide+kernel
set_option maxRecDepth 100000 in
theorem alF(v:Value)(p q:Nat):t7 v p q=#[v,.int .u8 p,.int .u8 q]++Aeo 118 undef:=by kernel_rfl
theorem aj2{W:Aa4}{b:ao}{pv bv tv:Value}(q1:Pv (fH W) pv)(q2:Pv (fH W) bv)(q3:Pv (fH W) tv):ah (rW W) (.agg #[.int .i64 b.ag,pv,bv,tv]) (.agg #[.int .i64 b.ag,pv,bv,tv]):=
 .agg rfl fun i h1 h2=>by
  match i,h1,h2 with
  |0,_,_=>exact .int _ _
  |1,_,_=>exact q1.self
  |2,_,_=>exact q2.self
  |3,_,_=>exact q3.self
theorem aj7(ρ:Ren)(n:Nat):aP ρ (Aeo n undef) (Aeo n undef):=
 bU.refl fun a ha=>by
  rw[(Array.mem_replicate.1 ha).2];exact ah.tuple' .empty
theorem ajJ{ρ:Ren}{a b c a' b' c':Value}(h1:ah ρ a a')(h2:ah ρ b b')(h3:ah ρ c c'):aP ρ #[a,b,c] #[a',b',c']:=
 ⟨rfl,fun i k1 k2=>by
   match i,k1,k2 with
   |0,_,_=>exact h1
   |1,_,_=>exact h2
   |2,_,_=>exact h3⟩
set_option maxRecDepth 100000 in
theorem agF(yj:Cq)(os:Os)(started:os.Started)(H:Type)(enc:Aa1×Value->H):
 ReturnsInLeavingWide {} Tryz.checked os 7 .any (fun w args=>(Rows.mouldLeastSpec.pre enc Tryz.prog Tryz.f7 [] false w args/\laidMetH Tryz.prog Et w)/\sizedMet enc Tryz.prog Tryz.f7 (OpenSpec.ofChange Rows.mouldLeastSpec) false w args)
  (Rows.mouldLeastSpec.post enc Tryz.prog Tryz.f7 false true false false):=by
 refine ag2 (C:=Tryz.checked) (X:=fun w _=>laidMetH Tryz.prog Et w) (fun _ _ _ hh h=>laidMetH.of_heap hh h) ajr started Tryz.func7
  (ChangeSpec.witness_shaped (enc:=enc) (C:=Tryz.checked) (os:=os) (X:=fun w _=>laidMetH Tryz.prog Et w) false (World.doorLaid Tryz.prog 600 os) #[.agg #[.int .i64 0,.slice none 0 0,.slice none 0 0,.slice none 0 0],.int .u8 0,.int .u8 0] 8 rfl (alp os _) (by kernel_rfl) (by kernel_rfl) (by kernel_rfl) (abi os _)) ?_
 intro W base args ds gs before Vn hW hS hL;have AM:∀(j:Nat) t v,Tryz.f7.params[j]?=some t->args[j]?=some v->Value.okWide Tryz.prog W .any base t v:=Vn
 have MJ:=hW;obtain⟨p,q,TK,hV,rfl,Hh,nH⟩:=hW;have hA:DataW.TrodAll enc Tryz.prog W 0 (fun _=>true) true Tryz.f7.params.toList args.toList ds p:=TK
 rw[Tryz.params7] at hA AM;obtain⟨v0,v1,v2,d0,d1,d2,p0,p1,p2,rfl,rfl,rfl,h0,h1,h2⟩:=trodAll_three hA;obtain⟨rfl,rfl⟩:=trodVars_none hV;obtain⟨x,rfl,rfl,rfl,wx⟩:=open_int Tryz.underlying5 (AM 1 5 v1 rfl rfl) h1;obtain⟨z,rfl,rfl,rfl,wz⟩:=open_int Tryz.underlying5 (AM 2 5 v2 rfl rfl) h2;have Og:=AM 0 26 v0 rfl rfl;unfold Value.okWide at Og;rw[Tryz.underlying26] at Og;obtain⟨cs,rfl,_,_⟩:=Og;have h0k:=h0;obtain⟨fuel,hf⟩:=h0;obtain⟨b,pv,bv,tv,fg,ai⟩:=ZP (enc:=enc) (W:=W) hf;have aeh:cs=#[.int .i64 b.ag,pv,bv,tv]:=by
  have:cs.toList=_:=fg;rw[<-Array.toList_inj,this]
 subst aeh;clear TK Vn;simp only[List.append_nil] at MJ;have al:∀y∈p0,y.block<W.heap.size:=fun y hy=>MJ.lt y (by simpa using hy)
 have hm:=ah0 hS hL;obtain⟨hM,h00⟩:=acW hm;obtain⟨hB,q1,q2,q3⟩:=acS ai;obtain⟨xn,rfl,hx⟩:∃m:Nat,x=m/\m<256:=by
  simp[Lit.wf,IntKind.min,IntKind.max,IntKind.signed,IntKind.bits] at wx;exact⟨x.toNat,by omega,by omega⟩
 obtain⟨zn,rfl,hz⟩:∃m:Nat,z=m/\m<256:=by
  simp[Lit.wf,IntKind.min,IntKind.max,IntKind.signed,IntKind.bits] at wz;exact⟨z.toNat,by omega,by omega⟩
 obtain⟨M,last,o,w',t',r1,r2,r3,r4⟩:=agQ yj (f:=7) (r:=6) (fn:=Tryz.f7) (c:=c7) Tryz.func7 Z1 Z2 rfl (by omega) (ρ:=rW W) (wl:=nA W) (W:=W) (args:=#[.agg #[.int .i64 b.ag,pv,bv,tv],.int .u8 xn,.int .u8 zn]) (tl:=t7 (.agg #[.int .i64 b.ag,pv,bv,tv]) xn zn)
  (fun T=>agX (w:=aZ (nA W) T) (B:=W.heap.size) ⟨hB.pieces,hB.aF,hB.aJ⟩ (Ago Tk.symm) hM hx hz) (acU C1) h00 acX (by rw[alF];exact(ajJ (aj2 q1 q2 q3) (.int _ _) (.int _ _)).append (aj7 _ 118)) acV hm
 refine⟨M,last,o,w',t',r1,r2,r3,Conc.Good.mono r4 fun v hF=>?_⟩
 obtain⟨rfl,hb⟩:=hF;refine⟨_,_,_,[],p0++([]++ []),[],MJ,?_,?_,rfl,hb.frame _,fun h=>by cases h⟩
 ·exact trodAll_mk1 (shut_bool Tryz.underlying4 _)
 ·exact trodAll_mk3 (Below.trod agN (by kernel_rfl) (of_decide_eq_true (by kernel_rfl)) h0k hb al) (shut_int Tryz.underlying5 wx) (shut_int Tryz.underlying5 wz)
end Go.Jn
namespace Go.Jn
open Go Go.Proofs Go.Conc
open YtfifdjajcogccaaGreatDoor
theorem ahS:joinedFacts Tryz.prog 7 Tryz.f7 Rows.mouldLeastSpec Rows.mouldLeastRow=true:=by
 unfold joinedFacts;exact fc (fc (fc (fc (fc (fc (fc (fc (fc (fc (fc (fc (fc (fc (fc (fc (fc (fc (fc (fc (fc (fc (fc (fc (fc (fc (fc (fc (fc (fc (fc ah9 aid) aip) aix) aiA) aiB) aiE) aiC) aiG) aiD) aia) aib) aic) aie) aif) aih) aii) aij) aik) ail) aim) ain) aio) air) aiu) aiv) ais) ait) (by kernel_rfl)) aiw) aiy) aiz
theorem agW(yj:Cq):Rows.MouldLeastSaid:=
 OpenClaim.holds_of_wide_leaving 7 Tryz.f7 rfl rfl rfl rfl rfl rfl rfl ⟨rfl,rfl,rfl,rfl,rfl⟩ rfl rfl rfl rfl rfl (by kernel_rfl) Tryz.func7 ahS
  (of_decide_eq_true (by kernel_rfl)) (by unfold Func.isWrapper;first| (rw[if_pos (by decide+kernel)];kernel_rfl) | (rw[if_neg (by decide+kernel)];exact⟨rfl,rfl⟩))
  (fun os started H enc _=>agF yj os started H enc)
end Go.Jn
namespace Go.Jn
open Go Go.Proofs
open YtfifdjajcogccaaGreatDoor
theorem ame(Lk:Looks){p:Pinned}{s:OpenSpec}{c:OpenClaim}(kinds:List LaidKind)(P7:Bool)(xE:Bool×String)(lk:Bool)
 (hc:c.holds p s)(hw:c.wfByText s=true)(afH:c.laidByTextAt Lk p kinds P7)(aQ:c.start=.entering)(gy:c.noBlocks=false/\c.again=false)(hm:p.checked.prog.mainIs=some (xE.1,xE.2.toList))(hn:(!xE.1 && xE.2.isEmpty && !lk)=false)
 (hl:∀f fn,p.checked.prog.funcNamed c.func=some f->p.checked.prog.funcs[f]?=some fn->lk=p.checked.prog.looks []/\∀(j:Nat) t,fn.params[j]?=some t->p.checked.prog.wantsStandIn t=false)
 (hg:true=c.goesBy p.checked.prog):
 Claim7.holds p (.plain s) {stood:={row:=c,standIns:=[],harness:=xE,looks:=lk},kinds:=[],alts:=[],goes:=true,laidByText:=true,laidKinds:=kinds,laidTests:=P7,laidLooks:=Lk}:=by
 have h6:Claim7.isSixth {stood:={row:=c,standIns:=[],harness:=xE,looks:=lk},kinds:=[]}=false:=by simpa [Claim7.isSixth] using hn
 exact⟨Claim7.tied_new_at Lk kinds P7 (Claim7.new_of_sixth hc xE lk aQ gy hm h6 hl) hw,(fun D hD=>by cases hD),afH,(fun h=>by cases h),hg⟩
set_option maxRecDepth 100000
theorem ak9:Tryz.prog.laidByTextLater Rows.mouldLeastRow.laid [.funcs] true:=
 Program.laidByTextLater_by_one 16 8 2 (by kernel_rfl) (by kernel_rfl) (by kernel_rfl) (by kernel_rfl) (by kernel_rfl) (by kernel_rfl) (fun _ _=>by kernel_rfl)
theorem ajx:Tryz.pinned.checked.prog.headLifts.contains "ownunsafe" =false:=by kernel_rfl
theorem ah8:Rows.mouldLeastRow.wfByText (OpenSpec.ofChange Rows.mouldLeastSpec)=true:=by kernel_rfl
theorem ahV:Tryz.pinned.checked.prog.mainIs=some (true,"8b4c60804a89a2dc1775d2d899c432f4b3d9a7cd22d2b16114beb87ecc832d7f".toList):=by kernel_rfl
theorem ahT:true=Rows.mouldLeastRow.goesBy Tryz.pinned.checked.prog:=by kernel_rfl
theorem ahU:Tryz.prog.funcNamed Rows.mouldLeastRow.func=some 7:=by kernel_rfl
theorem aiZ:false=Tryz.pinned.checked.prog.looks []:=by kernel_rfl
theorem ah7:Tryz.f7.params=#[26,5,5]:=by kernel_rfl
theorem aiH:([26,5].all fun u=> !Tryz.prog.wantsStandIn u)=true:=by kernel_rfl
theorem agE(h:Rows.MouldLeastSaid):Rows.MouldLeastCardSaid:=
 ame .later [.funcs] true (true,"8b4c60804a89a2dc1775d2d899c432f4b3d9a7cd22d2b16114beb87ecc832d7f") false h ah8 (OpenClaim.laidByTextAt_later rfl rfl ak9 ajx) rfl ⟨rfl,rfl⟩ ahV rfl
  (fun f fn hf Du=>by
    obtain rfl:f=7:=(Ac5 (ahU.symm.trans hf)).symm;obtain rfl:fn=Tryz.f7:=(Ac5 (Tryz.func7.symm.trans Du)).symm;refine⟨aiZ,fun j t ht=>?_⟩
    rw[ah7] at ht;have hm:t∈ [26,5]:=by
     have:= Array.mem_of_getElem? ht;simp at this;simp[this]
    have:=List.all_eq_true.1 aiH t hm;exact(show Tryz.prog.wantsStandIn t=false by simpa using this)) ahT
end Go.Jn
namespace Go.Jn
open Go Go.Proofs Go.Sim Go.Conc Go.Tw
set_option maxRecDepth 100000
def akg(w:Aa4)(cN cL:Nat):Sim.aaa:=⟨fun q=>q<w.heap.size/\q≠cN/\q≠cL,fun _=>False⟩
theorem alJ{b:ao}{ρ:Ren}{wl wB w1 w2:Aa4}{pv bv tv:Value}{B lb bk n NB cN cL p6 p7:Nat}{t1 t:Array Value}{M:Sim.aaa}(hP:Le b ρ wl pv bv tv B lb bk n NB wB w1)(h4:R4 t1 (allM w1) w1 cN cL p6 p7 t M w2):
 ∃ej Qt l6 l7,St b ej Qt pv bv tv B lb l6 l7 bk p6 p7 cN cL n NB wB (akg w2 cN cL) w2/\(∀a q,ej a q->q<max p6 p7+1)/\NB<=max p6 p7+1:=by
 obtain⟨core,gL,Wc,fixed,rb,hB,book,c0,c1,c2,c3,⟨bc,e,fb,A,c,ae,ak⟩,old,gy⟩:=hP;have kept:∀q,q<w1.heap.size->w2.heap[q]?=w1.heap[q]?:=fun q hq=>h4.kept q (.inl hq)
 have aa1:=ta core h4.size fun a q hq=>kept q (core.dc a q hq)
 have jk:∀(σ:Ren) (c:Nat),aP σ #[.tuple #[]] #[.chan (some c)]:=fun σ c=>⟨rfl,fun j h1 h2=>by
  have:j=0:=by simp at h1;omega
  subst this;exact .junk rfl (by simp) (by simp)⟩
 have eJ:=uP (o:=.cells #[.tuple #[]] 154 (0,1)) aa1 h4.vn.2.2.2 (fun a ha=>by have:=core.dc a _ ha;have:=h4.vn.2.2.1;omega) (.cells 154 (jk _ _) (.inr ⟨rfl,by simp⟩))
 have jw:=uP (o:=.cells #[.tuple #[]] 155 (0,1)) eJ h4.vl.2.2.2 (fun a ha=>by
  rcases ha with ha| ⟨_,e⟩
  ·have:=core.dc a _ ha;have:=h4.vl.2.2.1;omega
  ·exact h4.np e.symm) (.cells 155 (jk _ _) (.inr ⟨rfl,by simp⟩))
 have st1:=(Still.refl wl).alloc hB (.cells #[.tuple #[]] 154 (0,1));have om:B<=(wl.alloc (.cells #[.tuple #[]] 154 (0,1))).heap.size:=by rw[fa];exact Nat.le_succ_of_le hB
 have mT:=st1.alloc om (.cells #[.tuple #[]] 155 (0,1));have cl:∀ {j:Nat} {v:Value},wl.cell? ⟨lb,j,none⟩=some v->((wl.alloc (.cells #[.tuple #[]] 154 (0,1))).alloc (.cells #[.tuple #[]] 155 (0,1))).cell? ⟨lb,j,none⟩=some v:=fun hv=>
  (Af7 _ _ ⟨lb,_,none⟩ (by show lb<_;rw[fa];have:=core.dA _ _ rb;omega)).trans ((Af7 wl _ _ (core.dA _ _ rb)).trans hv)
 have yF:∀ {q:Nat},q<w1.heap.size->q<w2.heap.size/\q≠cN/\q≠cL:=fun {q} hq=>⟨Aeh hq h4.size,by have:=h4.n.2.2.1;omega,by have:=h4.l.2.2.1;omega⟩
 have Io:p6<w2.heap.size/\p6≠cN/\p6≠cL:=⟨h4.low _ (.inl h4.vn.2.1),(by rintro rfl;have:=h4.vn.2.2.2;rw[h4.n.2.2.2] at this;cases this),(by rintro rfl;have:=h4.vn.2.2.2;rw[h4.l.2.2.2] at this;cases this)⟩
 have V3:p7<w2.heap.size/\p7≠cN/\p7≠cL:=⟨h4.low _ (.inl h4.vl.2.1),(by rintro rfl;have:=h4.vl.2.2.2;rw[h4.n.2.2.2] at this;cases this),(by rintro rfl;have:=h4.vl.2.2.2;rw[h4.l.2.2.2] at this;cases this)⟩
 refine⟨_,_,_,_,⟨⟨jw,.inl (.inl gL),bJ.push (bJ.push Wc (o:=.cells #[.tuple #[]] 154 (0,1)) (fun h=>h)) (o:=.cells #[.tuple #[]] 155 (0,1)) (fun h=>h),?_,?_,.inl (.inl rb),.inl (.inr ⟨rfl,rfl⟩),.inr ⟨rfl,rfl⟩,by rw[fa];exact Nat.le_succ_of_le om,book.still mT,cl c0,cl c1,cl c2,cl c3⟩,?_,.inl Io,.inl V3,.inl (yF (core.dc _ _ rb)),h4.vn.2.2.2,h4.vl.2.2.2,
  ⟨bc,e,fb,A,c,(kept _ (core.dc _ _ rb)).trans ae,ak⟩,fun q hq=>⟨.inl (yF (by omega)),(kept q (by omega)).trans (old q hq)⟩,Ac3 gy h4.size,⟨?_,?_⟩,⟨h4.low _ (.inl h4.n.2.1),h4.low _ (.inl h4.l.2.1)⟩⟩,?_,by have:=h4.vn.2.2.1;omega⟩
 ·rintro a q ((ha| ⟨_,rfl⟩) | ⟨_,rfl⟩)
  ·exact .inl (yF (core.dc _ _ ha))
  ·exact .inl Io
  ·exact .inl V3
 ·rintro a q ((ha| ⟨rfl,_⟩) | ⟨rfl,_⟩)
  ·obtain⟨o,k1,k2⟩:=fixed a q ha
   have:=core.dA _ _ ha;exact⟨o,(kB (by rw[fa];omega)).trans ((kB this).trans k1),k2⟩
  ·exact⟨_,(kB (by rw[fa];omega)).trans jO,⟨rfl,by simp⟩⟩
  ·exact⟨_,jO,⟨rfl,by simp⟩⟩
 ·rintro q (hq|hq)
  ·exact hq.1
  ·exact hq.elim
 ·rintro(hq|hq)
  ·exact hq.2.1 rfl
  ·exact hq
 ·rintro(hq|hq)
  ·exact hq.2.2 rfl
  ·exact hq
 ·rintro a q ((ha| ⟨_,rfl⟩) | ⟨_,rfl⟩)
  ·have:=core.dc _ _ ha;have:=h4.vn.2.2.1;omega
  ·omega
  ·omega
section
variable {b:ao}{ρ:Ren}{wl wB:Aa4}{pv bv tv:Value}{B lb l6 l7 bk p6 p7 cN cL n N0 NB NR:Nat}{eU:Nat->Bool}{cs:List Frame}
theorem hears(hr:∀a q,ρ a q->q<NR)(hN:NB<=NR)(hn:n<=1000)(t:Array Value)(M:Sim.aaa)(w:Aa4)(hs:jN bk p6 p7 t)(hS:(St b ρ wl pv bv tv B lb l6 l7 bk p6 p7 cN cL n NB wB) M w)(Df:NR<=w.heap.size):
 Walk Tryz.prog true (nj (Pm.mk Tryz.prog n N0 cL cN eU X0 (Kn NR NB wB cs)) n []) M (rg 38 t [.code (.seq (.region 11 Bf false) ub)] [] .normal cs) w:=by
 refine fF (gH ?_)
 rw[s11];obtain⟨o,ho,ab,hd,hg⟩:=ahw;refine du (v:=.slice none 0 0) ho (cf hg) rfl (fun aa _=>⟨_,run_assign t aa ab,eo⟩) ?_
 rw[hd];have h9:(ay t (some 9) (.slice none 0 0))[9]?=some (.slice none 0 0):=eM (by rw[hs.sz];omega)
 have cZ:jN bk p6 p7 (ay t (some 9) (.slice none 0 0)):=hs.put ⟨by omega,by omega,by omega⟩
 revert h9 cZ
 generalize ay t (some 9) (.slice none 0 0)=t1;intro h9 cZ;refine iA ?_
 rw[akd];refine fF (fF (gH ?_))
 rw[s12];obtain⟨o,ho,ab,hd,hg⟩:=ahx;obtain⟨dir,hu⟩:=BG;refine du (v:=.chan (some cN)) ho (cf hg) rfl (fun aa hk=>⟨_,v8 _ aa ab (cJ cZ.t6) hu rfl (lL ((hk.kept _ hS.m6).trans hS.h6) rfl rfl),vY hS.m6 _ rfl⟩) ?_
 rw[hd];refine iA (BL (Qp ?_))
 refine recvs hr hN hn n [] _ M w (by simp) (by simp[ay,cZ.sz]) (eM (by rw[cZ.sz];omega)) ⟨⟨.slice none 0 0,(bL (by omega)).trans h9,⟨rfl,.inl ⟨rfl,rfl⟩⟩,fun g k c e=>by cases e⟩,Df,fun _=>(bL (by omega)).trans h9⟩ hS
theorem alL(vt:∀i,eU i=(search b (cz (aD b)) (fun k=>decide (k=i)) b.pieces.length []).isNone)(ab:cj b 0=0)(hr:∀a q,ρ a q->q<NR)(hN:NB<=NR)(hn:n<=1000)(t:Array Value)(M:Sim.aaa)(w:Aa4)(hs:jN bk p6 p7 t)(hS:(St b ρ wl pv bv tv B lb l6 l7 bk p6 p7 cN cL n NB wB) M w)(Df:NR<=w.heap.size)
 (De:∀M w,(St b ρ wl pv bv tv B lb l6 l7 bk p6 p7 cN cL n NB wB) M w->NR<=w.heap.size):
 Walk Tryz.prog true (StopA (Pm.mk Tryz.prog n N0 cL cN eU X0 (Kn NR NB wB cs)) n) M (rg 38 t [.code nP] [] .normal cs) w:=by
 rw[akf];refine fF (fF (gH ?_))
 rw[s5];obtain⟨bc,e,fb,A,c,ae,ak⟩:=hS.hb;obtain⟨o,ho,bG,hd,hg⟩:=m50;obtain⟨fs,fd,fi,hu,hf,NT,hi,aI⟩:=XU;refine du ho (cf hg) rfl (fun aa _=>⟨_,WN t aa bG (cJ hs.t1) hu hf hi aI,eo⟩) ?_
 rw[hd,NT];have cZ:jN bk p6 p7 (ay t (some 21) (.pointer (some ((⟨bk,0,none⟩:Aay).add 2)))):=hs.put ⟨by omega,by omega,by omega⟩
 have rC:(ay t (some 21) (.pointer (some ((⟨bk,0,none⟩:Aay).add 2)))).getD 21 undef=.pointer (some ((⟨bk,0,none⟩:Aay).add 2)):=ib (by rw[hs.sz];omega)
 revert cZ rC
 generalize ay t (some 21) (.pointer (some ((⟨bk,0,none⟩:Aay).add 2)))=t1;intro cZ rC;obtain⟨o,ho,bG,hd,hg⟩:=m51;obtain⟨e23,D7⟩:=XT;refine du ho (cf hg) rfl (fun aa hk=>⟨_,v8 _ aa bG rC D7 rfl (lL ((hk.kept _ hS.mb).trans ae) rfl ak),vY hS.mb _ rfl⟩) ?_
 rw[hd];have dD:jN bk p6 p7 (ay t1 (some 22) (.slice A n c)):=cZ.put ⟨by omega,by omega,by omega⟩
 have Mq:(ay t1 (some 22) (.slice A n c)).getD 22 undef=.slice A n c:=ib (by rw[cZ.sz];omega)
 revert dD Mq
 generalize ay t1 (some 22) (.slice A n c)=t2;intro dD Mq;obtain⟨o,ho,bG,hd,hg⟩:=m52;refine du ho (cf hg) rfl (fun aa _=>⟨_,WQ _ aa bG Mq D7,eo⟩) ?_
 rw[hd];have gQ:jN bk p6 p7 (ay t2 (some 23) (goInt n)):=dD.put ⟨by omega,by omega,by omega⟩
 have xx:(ay t2 (some 23) (goInt n))[23]?=some (.int .i64 n):=eM (by rw[dD.sz];omega)
 revert gQ xx
 generalize ay t2 (some 23) (goInt n)=t3;intro gQ xx;obtain⟨o,ho,bG,hd,hg⟩:=m53;refine du (v:=.int .i64 0) ho (cf hg) rfl (fun aa _=>⟨_,run_move _ aa bG,eo⟩) ?_
 rw[hd];refine iA (BL (Qp ?_))
 refine spawns vt ab (by omega) (fun t M w hs hS=>hears hr hN hn t M w hs hS (De M w hS)) n _ M w (Ac2 _) (gQ.put ⟨by omega,by omega,by omega⟩) ((bL (by omega)).trans xx) ((eM (by rw[gQ.sz];omega)).trans (by simp)) hS
end
end Go.Jn
namespace Go.Jn
open Go Go.Proofs Go.Sim Go.Conc Go.Tw
set_option maxRecDepth 100000
theorem results2{P:Program}{fn:Func}(hr:fn.results=#[.tmp 2,.tmp 3])(t:Array Value)(w:Aa4):(results fn t).runT P w #[]=(.ok (.tuple #[t.getD 2 undef,t.getD 3 undef]) w,#[]):=by
 have e:results fn t=Sem.pure (.tuple #[t.getD 2 undef,t.getD 3 undef]):=by
  unfold results;rw[hr];simp only[Array.mapM_eq_mapM_toList,List.mapM_cons,List.mapM_nil];rfl
 rw[e];rfl
theorem am3{P:Program}{main:Bool}{Stop:Sim.aaa->Goroutine->Aa4->Prop}{M:Sim.aaa}{w:Aa4}{f:FuncId}{t:Array Value}{k:List Item}{fr:Frame}{cs:List Frame}{fn:Func}(hf:P.funcs[f]?=some fn)(hr:fn.results=#[.tmp 2,.tmp 3])
 (h:Walk P main Stop M (aO (fr.finish (.tuple #[t.getD 2 undef,t.getD 3 undef])) cs) w):Walk P main Stop M (aO ⟨f,t,k,[],.returning,.normal,none⟩ (fr::cs)) w:=
 kM rfl (fun aa=>by
  have e:unwind P main ⟨f,t,k,[],.returning,.normal,none⟩ (fr::cs) none aa=.go (aO (fr.finish (.tuple #[t.getD 2 undef,t.getD 3 undef])) cs) aa #[]:=by
   unfold unwind;simp only[hf,results2 hr,ud,GStep.after,doReturn];rfl
  exact e) h
theorem ag5{σ:Ren}{wl w:Aa4}{NR:Nat}(hW:bV C0 σ wl w)(hr:∀a q,σ a q->q<NR)(hn:bJ wl.heap){n:Nat}{zs:List Int}{ov:Value}(ho:w.ownsRow NR 3 1 ov n (zs.map (Value.int .i64))):
 ∃(bM:Ren) (fR:Aa4) (ol:Value),bV C0 bM fR w/\σ.le bM/\(∀a p,bM a p->σ a p\/(wl.heap.size<=a/\NR<=p))/\ah bM ol ov/\fR.ownsRow wl.heap.size 3 1 ol n (zs.map (Value.int .i64))/\
  (∀(a:Nat) (o:Obj),wl.heap[a]?=some o->fR.heap[a]?=some o)/\wl.heap.size<=fR.heap.size/\bJ fR.heap:=by
 rcases ho.2 with⟨rfl,h0⟩ | ⟨g,cap,cur,rfl,nC,hg,dX,kZ,fg,lT⟩
 ·exact⟨σ,wl,.slice none 0 0,hW,σ.le_refl,fun a p h=>.inl h,.sliceNone 0 0,⟨ho.1,.inl ⟨rfl,h0⟩⟩,fun _ _ h=>h,Ac2 _,hn⟩
 ·obtain⟨u,hu,D9⟩:=Pt (ext σ wl.heap.size g) cur n zs lT
  have jw:=uP (o:=.cells u 3) hW hg (fun a ha=>by have:=hr a g ha;omega) (.cells 3 hu (.inl rfl))
  refine⟨_,_,.slice (some ⟨wl.heap.size,0,none⟩) n cap,jw,xj _ _ _,?_,.slice _ _ ⟨.inr ⟨rfl,rfl⟩,rfl,rfl⟩,⟨ho.1,.inr ⟨_,cap,u,rfl,Ac2 _,jO,dX,kZ,hu.1.trans fg,D9⟩⟩,
   fun a o ha=>(kB (Aaf.1 ha).1).trans ha,by rw[fa];omega,bJ.push hn (o:=.cells u 3) (fun h=>h)⟩
  rintro a p (ha| ⟨rfl,rfl⟩)
  ·exact .inl ha
  ·exact .inr ⟨Ac2 _,nC⟩
def Kp(NB:Nat)(wB:Aa4)(fr:Frame)(cs:List Frame)(zs:List Int)(_:Sim.aaa)(g:Goroutine)(w:Aa4):Prop:=
 ∃ov,g=aO (fr.finish (.tuple #[ov,.int .i64 0])) cs/\w.ownsRow NB 3 1 ov zs.length (zs.map (Value.int .i64))/\(∀q,q<NB->w.heap[q]?=wB.heap[q]?)/\NB<=w.heap.size
theorem Xp(zs:List Int):(ga zs).length=zs.length:=by simp[ga]
theorem acH{NR NB:Nat}{wB w:Aa4}{fr:Frame}{cs:List Frame}{az:List Nat}{M:Sim.aaa}{g:Goroutine}(hE:Kn NR NB wB (fr::cs) az M g w)(hN:NB<=NR){σ:Ren}{wl:Aa4}(hW:bV C0 σ wl wB)(tq:NB=wB.heap.size)(k7:σ 0 0)(lP:∀a q,σ a q->∃o,wl.heap[a]?=some o/\lC o)(gy:bJ wl.heap)(hg:az.length<=1000):
 Walk Tryz.prog true (Kp NB wB fr cs (ga (ints az))) (allM w) g w:=by
 letI:=iQ
 obtain⟨t,z,rfl,hs,zX,⟨⟨ov,h9,aG,_⟩,Df,NN⟩,hold,UU⟩:=hE;have Hy:∀a q,σ a q->q<NB:=fun a q h=>by rw[tq];exact hW.dc a q h
 obtain⟨o,ho,ab,hd,gx⟩:=V5;refine du (v:=.bool false) ho (cf gx) rfl (fun aa _=>⟨_,Ft t aa ab (cJ zX) rfl,eo⟩) ?_
 rw[hd];have cZ:(ay t (some 32) (.bool false)).size=41:=by simp[ay,hs]
 have j9:(ay t (some 32) (.bool false))[9]?=some ov:=(bL (by omega)).trans h9
 have Ow:(ay t (some 32) (.bool false)).getD 32 undef=.bool false:=ib (by omega)
 revert cZ j9 Ow
 generalize ay t (some 32) (.bool false)=t1;intro cZ j9 Ow;refine iA ?_
 rw[Ri];refine fF (BM (q:=false) Ow (Qm (k':=[.code sd]) rfl ?_))
 rw[ake];refine fF ?_
 have eJ:bV C0 σ wl w:=ta hW (by rw[<-tq];exact UU) fun a q hq=>hold q (Hy a q hq)
 obtain⟨bM,fR,ol,jw,hle,hinv,hv,lR,afh,afD,NI⟩:=ag5 eJ (fun a q h=>Aeh (Hy a q h) hN) gy aG
 obtain⟨u0,yn⟩:=Mb bM t1;have Od:=EM yn hv j9;have hus:(u0.setIfInBounds 9 ol).size=41:=by rw[Aek,yn.1,cZ]
 have hu9:(u0.setIfInBounds 9 ol)[9]?=some ol:=eM (by rw[yn.1,cZ];omega)
 refine piece (S:=⟨.skip,[.code (.seq (.region 17 yM false) .ret)],[],fr::cs,.normal⟩) (c:=.region 16 Bg false) (a:=⟨u0.setIfInBounds 9 ol,[cQ]⟩) aas rfl rfl (hl:=fun T=>alz (w:=aZ fR T) (base:=wl.heap.size) (n:=az.length) (zs:=ints az) lR (by omega) afD hus hu9) jw (hle _ _ k7) (zF jw) (fun q hq=>kA.1 hq) NI Od ?_
 rintro e bB aa bS aE eV aA ⟨rfl,aI,k9,tG⟩ bY iL xM UN vi lQ Vm;refine⟨fun _ _=>?_,fun he=>by cases he⟩
 have ht:eV.size=41:=Vm.1.symm.trans aI;obtain⟨v',hv9,vD⟩:=IZ Vm k9;have hb:∀a q,wl.heap.size<=a->aE a q->NR<=q:=by
  intro a q ha hq;rcases bY.new a q hq with hq| ⟨_,hq⟩
  ·rcases hinv a q hq with hq| ⟨_,hq⟩
   ·have:=hW.dA a q hq;omega
   ·exact hq
  ·omega
 have afl:aA.ownsRow NB 3 1 v' (ga (ints az)).length ((ga (ints az)).map (Value.int .i64)):=by
  rw[Xp];have qp:(ints az).length=az.length:=by simp[ints]
  rw[qp];by_cases h0:az.length=0
  ·have hz:ga (ints az)=[]:=Aio (by rw[Xp,qp,h0])
   have vv:ov=.slice none 0 0:=by
    have:=NN (Aio h0);rw[h9] at this;exact Ac5 this
   have hol:ol=.slice none 0 0:=by
    rcases lR.2 with⟨e,_⟩ | ⟨g,cap,cur,e,_⟩
    ·exact e
    ·rw[vv,e,h0] at hv;cases hv
   rw[hol] at vD;cases vD;rw[hz,h0];exact⟨rfl,.inl ⟨rfl,rfl⟩⟩
  ·exact World.ownsRow.base (Wv iL vD tG h0 hb).1 hN
 have kept:∀q,q<NB->aA.heap[q]?=wB.heap[q]?:=by
  intro q hq;refine(bY.im q (.inl (show q<w.heap.size by omega)) fun a ha=>?_).trans (hold q hq)
  rcases hinv a q ha with ha| ⟨_,hx⟩
  ·obtain⟨o,h1,h2⟩:=lP a q ha
   exact⟨o,afh a o h1,h2⟩
  ·omega
 have afC:NB<=aA.heap.size:=Ac3 UU bY.fQ;show Walk Tryz.prog true (Kp NB wB fr cs (ga (ints az))) bS (rg 38 eV [.code (.seq (.region 17 yM false) .ret)] [] .normal (fr::cs)) aA;have hOv:∀g k c,v'=.slice (some g) k c->bS.has g.block:=by
  intro g k c e;subst e;cases vD with
  |slice _ _ ha=>exact(xM _ _ ha.1).imp id (·.1)
  |sliceDead a1 b1=>
   rcases lR.2 with⟨e,_⟩ | ⟨g',cap,cur,e,_⟩
   ·cases e
   ·have h0:az.length=0:=by injection e with e1 e2 e3;exact e2.symm
    have:=NN (Aio h0);rw[h9] at this;rw[Ac5 this] at hv;cases hv
  |junk h _ _=>
   rcases lR.2 with⟨e,_⟩ | ⟨g,cap,cur,e,_⟩<;>cases e
 have hMq:∀q,q<NB->bS.has q:=fun q hq=>aaa.tx bY.R bY.O (.inl (show q<w.heap.size by omega))
 ·refine fF (gH ?_)
  rw[s17];obtain⟨o,ho,ab,hd,gx⟩:=ahF;have e9:aS eV (.tmp 9)=v':=cJ hv9;refine du (v:=v') ho (cf gx) rfl (fun aa _=>⟨_,(run_move eV aa ab).trans (by rw[e9]),eo⟩) ?_
  rw[hd];have L5:aS (ay eV (some 40) v') (.tmp 40)=v':=ib (by omega)
  have dD:(ay eV (some 40) v').size=41:=by simp[ay,ht]
  revert L5 dD
  generalize ay eV (some 40) v'=t2;intro L5 dD;obtain⟨o,ho,ab,hd,gx⟩:=ahG;refine du (v:=v') ho (cf gx) rfl (fun aa _=>⟨_,(run_assign t2 aa ab).trans (by rw[L5]),eo⟩) ?_
  rw[hd];have e2:(ay t2 (some 2) v')[2]?=some v':=eM (by omega)
  have gQ:(ay t2 (some 2) v').size=41:=by simp[ay,dD]
  revert e2 gQ
  generalize ay t2 (some 2) v'=t3;intro e2 gQ;obtain⟨o,ho,ab,hd,gx⟩:=ahH;refine du (v:=.int .i64 0) ho (cf gx) rfl (fun aa _=>⟨_,run_assign t3 aa ab,eo⟩) ?_
  rw[hd];have e3:(ay t3 (some 3) (.int .i64 0)).getD 3 undef=.int .i64 0:=ib (by omega)
  have SS:(ay t3 (some 3) (.int .i64 0)).getD 2 undef=v':=cJ ((bL (by omega)).trans e2)
  refine iA (am2 (am3 Tryz.func38 akb ?_))
  rw[e3,SS];refine .stop fun aq hk=>⟨v',rfl,?_,?_,Ac3 afC hk.size⟩
  ·exact Pb afl fun g k c e=>hk.kept _ (hOv g k c e)
  ·exact fun q hq=>(hk.kept q (hMq q hq)).trans (kept q hq)
end Go.Jn
namespace Go.Jn
open Go Go.Proofs Go.Sim Go.Conc Go.Tw
set_option maxRecDepth 100000
theorem ajM{t0 t:Array Value}{M0 M:Sim.aaa}{w0 w aa:Aa4}{cN cL p6 p7:Nat}(h:R4 t0 M0 w0 cN cL p6 p7 t M w)(k:bN M w aa):R4 t0 M0 w0 cN cL p6 p7 t M aa:=
 ⟨h.n.keep k,h.l.keep k,h.vn.keep k,h.vl.keep k,h.nl,h.np,h.nR,h.same,h.O,h.On,h.R,fun b hb=>(k.kept b (hb.imp (h.O b) fun x=>by rw[h.R];exact x)).trans (h.kept b hb),Ac3 h.size k.size,fun b hb=>Aeh (h.low b hb) k.size,k.tape.trans h.tape,k.os.trans h.os,k.out.trans h.out⟩
theorem Ba{n:Nat}{l:List Nat}(hd:l.Nodup)(h:∀i∈l,i<n):l.length<=n:=by
 have:=hd.length_le_of_subset (l₂:=Af9 n) fun i hi=>List.mem_range.2 (h i hi)
 simpa using this
def ED(b:ao)(i:Nat):Bool:=(search b (cz (aD b)) (fun k=>decide (k=i)) b.pieces.length []).isNone
def yH(b:ao):List Nat:=(Af9 b.aF.length).filter (ED b)
theorem aiP{b:ao}{σ:Ren}{wl:Aa4}{pv bv tv arg:Value}{B:Nat}{w:Aa4}(hb:J5 b σ wl pv bv tv B arg w)(ab:cj b 0=0){fr:Frame}{cs:List Frame}
 {gs:Array Goroutine}{t:Trace}{q:Nat->Nat}(hF:Fr Tryz.prog gs w t q (aO (Frame.enter Tryz.prog 38 #[arg] .normal) (fr::cs)))(sl:Option (Nat×Nat)):
 ∃N aT w' bm t' q' g' az M',runNT Tryz.prog N (crowd gs w sl) t=(.next (crowd aT w' bm),t')/\Fr Tryz.prog aT w' t' q' g'/\Kp w.heap.size w fr cs (ga (ints az)) M' g' w'/\az.Nodup/\(∀i,i∈az↔i<b.aF.length/\ED b i=true)/\Base w w':=by
 have he:Frame.enter Tryz.prog 38 #[arg] .normal=⟨38,#[arg]++Aeo 40 undef,[.code (.seq (.region 0 p0 false) (.seq pT (.seq (.region 4 iP true) nP)))],[],.run,.normal,none⟩:=
  zQ Tryz.func38 RG #[arg] .normal
 rw[he] at hF;have lQ:b.aF.length<=3:=by letI:=iQ;exact(iy (pq ab).1).nb
 obtain⟨N1,TG,M1,g1,w1,PQ,t1,q1,r1,z1,⟨⟨T,bk,lb,cw,lz,rfl,hT,xC,hP⟩,om⟩,lN⟩:=Cw (FM (stA (cs:=fr::cs) hb ab) (Gr w)) gs sl t q hF (fun q hq=>kA.1 hq)
 have hE:WalkE Tryz.prog true w1.heap.size (fun M g w2=>∃cN cL p6 p7 t2,R4 T (allM w1) w1 cN cL p6 p7 t2 M w2/\g=rg 38 t2 [.code nP] [] .normal (fr::cs)) (allM w1) (rg 38 T [.code (.seq (.region 4 iP true) nP)] [] .normal (fr::cs)) w1:=
  X8 rfl (fun aa=>by simp[stepG,stepG.exec]) (am1 rfl hT (fun b hb=>kA.1 hb) fun cN cL p6 p7 t2 M w2 h4=>.stop fun ky hk=>⟨cN,cL,p6,p7,t2,ajM h4 hk,rfl⟩)
 obtain⟨N2,GU,M2,g2,w2,PR,t2,q2,r2,z2,⟨⟨cN,cL,p6,p7,T2,h4,rfl⟩,Mu⟩,GY,MH⟩:=Zw (amR hE om) TG PQ t1 q1 lN (fun q hq=>kA.1 hq) (lK.of_low lN.gD.seen)
 obtain⟨ej,Qt,l6,l7,hS,AG,TQ⟩:=alJ hP h4;have hs:jN bk p6 p7 T2:=⟨h4.nR,(h4.same 1 (by omega) (by omega) (by omega) (by omega)).trans xC,h4.vn.1,h4.vl.1⟩
 have De:∀(M:Sim.aaa) (w':Aa4),St b ej Qt pv bv tv B lb l6 l7 bk p6 p7 cN cL b.aF.length w.heap.size w M w'->max p6 p7+1<=w'.heap.size:=fun M w' h=>by
  have:=h.low _ h.m6;have:=h.low _ h.m7;omega
 have hW:=alL (N0:=GU.size) (eU:=ED b) (cs:=fr::cs) (fun _=>rfl) ab AG TQ (by omega) T2 _ w2 hs hS (De _ _ hS) De
 obtain⟨G,hG⟩:=acE (X:=Pm.mk Tryz.prog b.aF.length GU.size cL cN (ED b) X0 (Kn (max p6 p7+1) w.heap.size w (fr::cs))) GY rfl
  (fun q hq=>by
    rcases hq with hq|hq
    ·exact⟨hq.1,hq.2.2,hq.2.1⟩
    ·exact hq.elim) rfl hW h4.l.2.2.2 h4.n.2.2.2 (Ne.symm h4.nl) MH h4.n.2.2.1
 obtain⟨N3,Mo,w3,PS,t3,r3,⟨q3,g3,M3,az,My,hE3,nH,mB,MO,UN⟩⟩:=acx PR hG;have k7:az.length<=1000:=by
  have:az.length<=b.aF.length:=Ba nH fun i hi=>((mB i).1 hi).1
  omega
 have Nj:=acH hE3 TQ hb.core rfl hb.gL hb.fixed hb.nb k7;obtain⟨N4,gs4,M4,g4,w4,sl4,t4,q4,r4,z4,⟨adG,hB4⟩,hF4⟩:=Cw (FM Nj (rn Mu MO)) Mo PS t3 q3 My (fun q hq=>kA.1 hq)
 exact⟨N1+(N2+(N3+N4)),gs4,w4,sl4,t4,q4,g4,az,M4,uc _ _ _ r1 (uc _ _ _ r2 (uc _ _ _ r3 r4)),hF4,adG,nH,mB,hB4⟩
theorem aly{b:ao}{az:List Nat}(hd:az.Nodup)(hm:∀i,i∈az↔i<b.aF.length/\ED b i=true):ga (ints az)=ints (yH b):=by
 have hp:az.Perm (yH b):=(List.perm_ext_iff_of_nodup hd (List.nodup_range.filter _)).2 fun i=>by rw[hm i];simp[yH]
 have hs:(ints (yH b)).Pairwise (fun x y=>decide (x<=y)=true):=by
  unfold ints yH;rw[List.pairwise_map];refine(List.Pairwise.filter _ List.pairwise_lt_range).imp fun h=>?_
  simp only[decide_eq_true_eq];omega
 have h1:(ga (ints az)).Perm (ints (yH b)):=(Ai9 _ _).trans (hp.map _);refine h1.eq_of_pairwise (le:=fun x y=>decide (x<=y)=true) (fun a c _ _ h k=>by simp only[decide_eq_true_eq] at h k;omega) ?_ hs
 exact Aja (fun a b c h k=>by simp only[decide_eq_true_eq] at *;omega) (fun a b=>by simp;omega) _
end Go.Jn
namespace Go.Tw
variable [Go.Tw.aR]
open Go Go.Proofs Go.RowKit
def uS:List Cut:=[⟨1,0⟩,⟨0,0⟩,⟨0,6⟩]
def te:bR:=⟨EA,8,[⟨3,3⟩]⟩
theorem xh:dF aW=0:=by decide+kernel
theorem CS:cj aW 0=0:=by decide+kernel
theorem abZ:GB te=[⟨0,2⟩,⟨4,7⟩]:=by decide+kernel
theorem ab7:Im te 0=4:=by decide+kernel
theorem ab8:Im te 1=8:=by decide+kernel
theorem acd:scan (fun _ s=>s) [] [qL aW [4,3,3],ey aW dQ]=0:=by decide+kernel
theorem ace:scan (fun _ s=>s) [] [qL aW [4,3,3],ey aW uS]=0:=by decide+kernel
theorem ab4:fp aW (fK [4,3,3]) dQ=true:=by decide+kernel
theorem ab5:fp aW (fK [4,3,3]) uS=false:=by decide+kernel
theorem abX:Gt aW=2:=by decide+kernel
theorem ack:oK (aD aW)=⟨10,10⟩:=by decide+kernel
theorem aca:cj aW (Bh aW 0)=0:=by decide+kernel
theorem ab0:(aD aW).map (·.at 0)=[4,5]:=by decide+kernel
theorem S0:cj aW (ey aW dQ)=0:=by decide+kernel
theorem S3:cj aW (ey aW uS)=0:=by decide+kernel
theorem ab1:za (iI (fun L=>fp aW L dQ) (aD aW)) (aD aW).length=1:=by decide+kernel
theorem ab2:za (iI (fun L=>fp aW L uS) (aD aW)) (aD aW).length=0:=by decide+kernel
theorem ach:FJ aW (aD aW) dQ=true:=by decide+kernel
theorem aci:FJ aW (aD aW) uS=false:=by decide+kernel
theorem acg:BB aW dQ=[1,1]:=by decide+kernel
theorem Fy{xs ys:List Int}(hp:xs.Perm ys)(hs:ys.Pairwise (fun x y=>decide (x<=y)=true)):ga xs=ys:=by
 have h1:(ga xs).Perm ys:=(Ai9 _ _).trans hp;refine h1.eq_of_pairwise (le:=fun x y=>decide (x<=y)=true) (fun a c _ _ h k=>by simp only[decide_eq_true_eq] at h k;omega) ?_ hs
 exact Aja (fun a b c h k=>by simp only[decide_eq_true_eq] at *;omega) (fun a b=>by simp;omega) _
theorem RL(mI:List Cut->Int):fA aW mI=some (dQ,mI dQ):=by
 have s0:search aW (cz (aD aW)) (jf 0) aW.pieces.length []=none:=by decide+kernel
 have s1:search aW (cz (aD aW)) (jf 1) aW.pieces.length []=none:=by decide+kernel
 have s2:search aW (cz (aD aW)) (jf 2) aW.pieces.length []=none:=by decide+kernel
 have s3:search aW (cz (aD aW)) (jf 3) aW.pieces.length []=some dQ:=by decide+kernel
 unfold fA;rw[if_pos CS];show iG aW (cz (aD aW)) mI 4=_;rw[kS,kS,kS,kS];simp only[iG,List.range_zero,List.foldl_nil,sY,s0,s1,s2,s3,nw]
theorem PY:ga (dQ.map (·.bp))=[0,0,1]:=Fy (by decide) (by decide)
theorem ab3:fA aW j6=some (dQ,2):=by
 rw[RL];unfold j6 jG;rw[PY];rfl
theorem acf:fA aW (qM aW)=some (dQ,14):=by
 rw[RL];unfold qM jG;rw[PY]
 have:lY aW (Lib.compact [0,0,1])=14:=by decide+kernel
 rw[this]
theorem abW:Cu aW=(0,1):=by decide+kernel
def O1:ByteArray:={data:=#[97,115,104]}
def gh:bR:=⟨O1,13,[]⟩
theorem abU:dF (fj aW gh)=0:=by decide+kernel
def mr:List Cut:=[⟨2,0⟩,⟨2,6⟩,⟨2,10⟩]
theorem abV:fA (fj aW gh) j6=some (mr,1):=by
 have s0:search (fj aW gh) (cz (aD (fj aW gh))) (jf 0) 3 []=none:=by decide+kernel
 have s1:search (fj aW gh) (cz (aD (fj aW gh))) (jf 1) 3 []=none:=by decide+kernel
 have s2:search (fj aW gh) (cz (aD (fj aW gh))) (jf 2) 3 []=none:=by decide+kernel
 have s3:search (fj aW gh) (cz (aD (fj aW gh))) (jf 3) 3 []=some dQ:=by decide+kernel
 have s4:search (fj aW gh) (cz (aD (fj aW gh))) (jf 4) 3 []=some mr:=by decide+kernel
 have s5:search (fj aW gh) (cz (aD (fj aW gh))) (jf 5) 3 []=some [⟨2,0⟩,⟨0,0⟩,⟨0,4⟩]:=by decide+kernel
 have s6:search (fj aW gh) (cz (aD (fj aW gh))) (jf 6) 3 []=some [⟨1,0⟩,⟨2,0⟩,⟨2,4⟩]:=by decide+kernel
 have s7:search (fj aW gh) (cz (aD (fj aW gh))) (jf 7) 3 []=some dQ:=by decide+kernel
 have m3:j6 dQ=2:=by unfold j6 jG;rw[PY];rfl
 have m4:j6 mr=1:=by unfold j6 jG;rw[Fy (ys:=[2,2,2]) (by decide) (by decide)];rfl
 have m5:j6 [⟨2,0⟩,⟨0,0⟩,⟨0,4⟩]=2:=by unfold j6 jG;rw[Fy (ys:=[0,0,2]) (by decide) (by decide)];rfl
 have m6:j6 [⟨1,0⟩,⟨2,0⟩,⟨2,4⟩]=2:=by unfold j6 jG;rw[Fy (ys:=[1,2,2]) (by decide) (by decide)];rfl
 have ho:cj (fj aW gh) 0=0:=by decide+kernel
 unfold fA;rw[if_pos ho];show iG (fj aW gh) (cz (aD (fj aW gh))) j6 8=_;have hl:(fj aW gh).pieces.length=3:=rfl;rw[kS,kS,kS,kS,kS,kS,kS,kS];simp only[iG,List.range_zero,List.foldl_nil,sY,hl,s0,s1,s2,s3,s4,s5,s6,s7,nw,m3,m4,m5,m6]
 decide
theorem ab6:Il aW 0=[4,5]:=by
 unfold Il;rw[ab0,Fy (ys:=[4,5]) (by decide) (by decide)];rfl
def zS:ao:={aW with aJ:=aW.aJ++ [⟨[0],⟨4,4⟩⟩,⟨[2],⟨2,2⟩⟩]}
theorem acj:dF zS=0:=by decide+kernel
end Go.Tw
namespace Go.Jn
open Go Go.Proofs Go.Sim Go.Conc Go.Tw Go.RowKit
set_option maxRecDepth 100000
noncomputable def hJ:Ai1:=(Tryz.f21.body).getD .skip
noncomputable def gR:Ai1:=hJ
noncomputable def gS:Ai1:=a8 gR
noncomputable def gT:Ai1:=a8 gS
noncomputable def iB:Ai1:=a8 gT
noncomputable def iV:Ai1:=a8 iB
noncomputable def jl:Ai1:=a8 iV
noncomputable def jI:Ai1:=a8 jl
noncomputable def kz:Ai1:=a8 jI
noncomputable def kN:Ai1:=a8 kz
noncomputable def lA:Ai1:=a8 kN
noncomputable def mg:Ai1:=a8 lA
noncomputable def mX:Ai1:=a8 mg
noncomputable def nT:Ai1:=a8 mX
noncomputable def oM:Ai1:=a8 nT
noncomputable def pF:Ai1:=a8 oM
noncomputable def qX:Ai1:=a8 pF
noncomputable def sJ:Ai1:=a8 qX
noncomputable def uo:Ai1:=a8 sJ
noncomputable def wA:Ai1:=a8 uo
noncomputable def wC:Ai1:=a8 wA
noncomputable def zf:Ai1:=a8 wC
noncomputable def BP:Ai1:=a8 zf
noncomputable def FQ:Ai1:=a8 BP
noncomputable def JW:Ai1:=a8 FQ
noncomputable def JX:Ai1:=a8 JW
noncomputable def wD:Ai1:=a8 JX
noncomputable def ui:Ai1:=bO gR
noncomputable def uj:Ai1:=bO gS
noncomputable def uk:Ai1:=bO gT
noncomputable def sx:Ai1:=bO iB
noncomputable def sA:Ai1:=bO iV
noncomputable def sB:Ai1:=bO jl
noncomputable def sC:Ai1:=bO jI
noncomputable def sD:Ai1:=bO kz
noncomputable def sE:Ai1:=bO kN
noncomputable def sF:Ai1:=bO lA
noncomputable def si:Ai1:=bO mg
noncomputable def sj:Ai1:=bO mX
noncomputable def sk:Ai1:=bO nT
noncomputable def sn:Ai1:=bO oM
noncomputable def so:Ai1:=bO pF
noncomputable def sr:Ai1:=bO qX
noncomputable def ss:Ai1:=bO sJ
noncomputable def su:Ai1:=bO uo
noncomputable def Jf:Ai1:=bO wA
noncomputable def we:Ai1:=bO wC
noncomputable def wh:Ai1:=bO zf
noncomputable def wj:Ai1:=bO BP
noncomputable def wm:Ai1:=bO FQ
noncomputable def sw:Ai1:=bO JW
noncomputable def wu:Ai1:=bO JX
theorem Zr:Tryz.f21.body=some (chain [ui,uj,uk,sx,sA,sB,sC,sD,sE,sF,si,sj,sk,sn,so,sr,ss,su] (.seq Jf (chain [we,wh,wj,wm,sw,wu] wD))):=rfl
theorem aat:∀c∈ [ui,uj,uk,sx,sA,sB,sC,sD,sE,sF,si,sj,sk,sn,so,sr,ss,su],C0.clean c:=by
 have h: [ui,uj,uk,sx,sA,sB,sC,sD,sE,sF,si,sj,sk,sn,so,sr,ss,su].all (cr Tryz.prog G0)=true:=by decide+kernel
 intro c hc;exact List.all_eq_true.1 h c hc
end Go.Jn
namespace Go.Jn
open Go Go.Proofs Go.Sim Go.Conc Go.Tw Go.RowKit
theorem FN{P:Program}{jQ:List Ai1}{F:Act->Aa4->Prop}{Q:Exit->Act->Aa4->Prop}(h2:∀a w,F a w->eX P jQ Q a w):∀(uQ:List Ai1) {a:Act} {w:Aa4},eX P uQ (dP F) a w->eX P (uQ++jQ) Q a w
 | [],a,w,h=>h2 a w h
 |c::cs,a,w,h=>by
  show c.wp P (Exit.then (eX P (cs++jQ) Q) Q) a w;have h:c.wp P (Exit.then (eX P cs (dP F)) (dP F)) a w:=h;refine Code.wp_mono (fun e a w hq=>?_) h
  cases e with
  |normal=>exact FN h2 cs hq
  |_=>exact(hq:False).elim
structure jo(w0 w:Aa4)(gE gp gb gk gt gl gc g3:Nat):Prop where
 ex:wL w w0.heap.size gp gb gk gt gl
 bE:Bk w gE 26 #[.int .i64 1,.slice (some ⟨gp,0,none⟩) 3 3,.slice (some ⟨gb,0,none⟩) 2 2,.slice (some ⟨gt,0,none⟩) 1 1]
 bc:Bk w gc 56 #[.int .i64 1,.int .i64 0,.int .i64 0,.int .i64 0,.int .i64 0,.int .i64 4]
 b3:Bk w g3 56 #[.int .i64 1,.int .i64 0,.int .i64 0,.int .i64 0,.int .i64 0,.int .i64 6]
 below:Ahz w0.heap.size w0 w
 lE:w0.heap.size<=gE
section
variable [Go.Tw.aR]
theorem jo.grown{w0 w w':Aa4}{gE gp gb gk gt gl gc g3:Nat}(h:jo w0 w gE gp gb gk gt gl gc g3)(hb:Ahz w.heap.size w w'):jo w0 w' gE gp gb gk gt gl gc g3:=
 ⟨⟨h.ex.p.below hb h.ex.p.lt,h.ex.b.below hb h.ex.b.lt,h.ex.k.below hb h.ex.k.lt,h.ex.t.below hb h.ex.t.lt,h.ex.l.below hb h.ex.l.lt,h.ex.hp,h.ex.hb,h.ex.hk,h.ex.ht,h.ex.hl⟩,h.bE.below hb h.bE.lt,h.bc.below hb h.bc.lt,h.b3.below hb h.b3.lt,h.below.trans (hb.mono h.below.size),h.lE⟩
theorem acs{w0 V:Aa4}{gE gp gb gk gt gl gc:Nat}{o:Obj}(h0:wL V w0.heap.size gp gb gk gt gl)(hE:Bk V gE 26 #[.int .i64 1,.slice (some ⟨gp,0,none⟩) 3 3,.slice (some ⟨gb,0,none⟩) 2 2,.slice (some ⟨gt,0,none⟩) 1 1])
 (hc:Bk V gc 56 #[.int .i64 1,.int .i64 0,.int .i64 0,.int .i64 0,.int .i64 0,.int .i64 4])(hb:Ahz w0.heap.size w0 V)(hl:w0.heap.size<=gE):
 jo w0 ((V.drew.alloc o).alloc (.cells #[.int .i64 1,.int .i64 0,.int .i64 0,.int .i64 0,.int .i64 0,.int .i64 6] 56)) gE gp gb gk gt gl gc (V.heap.size+1):=by
 have hx:Ahz V.heap.size V ((V.drew.alloc o).alloc (.cells #[.int .i64 1,.int .i64 0,.int .i64 0,.int .i64 0,.int .i64 0,.int .i64 6] 56)):=((iY (Ai4 _ _)).alloc (Ac2 _) o).alloc (by simp) _
 exact⟨⟨h0.p.below hx h0.p.lt,h0.b.below hx h0.b.lt,h0.k.below hx h0.k.lt,h0.t.below hx h0.t.lt,h0.l.below hx h0.l.lt,h0.hp,h0.hb,h0.hk,h0.ht,h0.hl⟩,hE.below hx hE.lt,hc.below hx hc.lt,Bk.cG (by simp) _ _,hb.trans (hx.mono hb.size),hl⟩
def FA(w0:Aa4)(a:Act)(w:Aa4):Prop:=a.defers=[cQ]/\a.tmps.size=349/\a.tmps[0]?=some (.bool false)/\∃gE gp gb gk gt gl gc g3,a.tmps[1]?=some (.pointer (some ⟨gE,0,none⟩))/\a.tmps[2]?=some (.slice (some ⟨gc,0,none⟩) 3 3)/\a.tmps[3]?=some (.slice (some ⟨g3,0,none⟩) 3 3)/\jo w0 w gE gp gb gk gt gl gc g3
end
end Go.Jn
namespace Go.Jn
open Go Go.Proofs Go.Sim Go.Conc Go.Tw Go.RowKit
set_option maxRecDepth 400000 in
def lit(x:Nat->Value):List Value:=x 0::x 1::x 2::x 3::x 4::x 5::x 6::x 7::x 8::x 9::x 10::x 11::x 12::x 13::x 14::x 15::x 16::x 17::x 18::x 19::x 20::x 21::x 22::x 23::x 24::x 25::x 26::x 27::x 28::x 29::x 30::x 31::x 32::x 33::x 34::x 35::x 36::x 37::x 38::x 39::x 40::x 41::x 42::x 43::x 44::x 45::x 46::x 47::x 48::x 49::x 50::x 51::x 52::x 53::x 54::x 55::x 56::x 57::x 58::x 59::x 60::x 61::x 62::x 63::x 64::x 65::x 66::x 67::x 68::x 69::x 70::x 71::x 72::x 73::x 74::x 75::x 76::x 77::x 78::x 79::x 80::x 81::x 82::x 83::x 84::x 85::x 86::x 87::x 88::x 89::x 90::x 91::x 92::x 93::x 94::x 95::x 96::x 97::x 98::x 99::x 100::x 101::x 102::x 103::x 104::x 105::x 106::x 107::x 108::x 109::x 110::x 111::x 112::x 113::x 114::x 115::x 116::x 117::x 118::x 119::x 120::x 121::x 122::x 123::x 124::x 125::x 126::x 127::x 128::x 129::x 130::x 131::x 132::x 133::x 134::x 135::x 136::x 137::x 138::x 139::x 140::x 141::x 142::x 143::x 144::x 145::x 146::x 147::x 148::x 149::x 150::x 151::x 152::x 153::x 154::x 155::x 156::x 157::x 158::x 159::x 160::x 161::x 162::x 163::x 164::x 165::x 166::x 167::x 168::x 169::x 170::x 171::x 172::x 173::x 174::x 175::x 176::x 177::x 178::x 179::x 180::x 181::x 182::x 183::x 184::x 185::x 186::x 187::x 188::x 189::x 190::x 191::x 192::x 193::x 194::x 195::x 196::x 197::x 198::x 199::x 200::x 201::x 202::x 203::x 204::x 205::x 206::x 207::x 208::x 209::x 210::x 211::x 212::x 213::x 214::x 215::x 216::x 217::x 218::x 219::x 220::x 221::x 222::x 223::x 224::x 225::x 226::x 227::x 228::x 229::x 230::x 231::x 232::x 233::x 234::x 235::x 236::x 237::x 238::x 239::x 240::x 241::x 242::x 243::x 244::x 245::x 246::x 247::x 248::x 249::x 250::x 251::x 252::x 253::x 254::x 255::x 256::x 257::x 258::x 259::x 260::x 261::x 262::x 263::x 264::x 265::x 266::x 267::x 268::x 269::x 270::x 271::x 272::x 273::x 274::x 275::x 276::x 277::x 278::x 279::x 280::x 281::x 282::x 283::x 284::x 285::x 286::x 287::x 288::x 289::x 290::x 291::x 292::x 293::x 294::x 295::x 296::x 297::x 298::x 299::x 300::x 301::x 302::x 303::x 304::x 305::x 306::x 307::x 308::x 309::x 310::x 311::x 312::x 313::x 314::x 315::x 316::x 317::x 318::x 319::x 320::x 321::x 322::x 323::x 324::x 325::x 326::x 327::x 328::x 329::x 330::x 331::x 332::x 333::x 334::x 335::x 336::x 337::x 338::x 339::x 340::x 341::x 342::x 343::x 344::x 345::x 346::x 347::x 348:: []
set_option maxRecDepth 400000 in
theorem ahd(x:Nat->Value):lit x=(Af9 349).map x:=rfl
theorem VX(u:Array Value)(h:u.size=349):∃x:Nat->Value,u=(lit x).toArray/\∀i v,u[i]?=some v->x i=v:=by
 refine⟨fun i=>u.getD i undef,?_,fun i v hv=>?_⟩
 ·rw[ahd]
  apply Array.ext
  ·simp[h]
  ·intro i h1 h2
   simp[Aaa,h1]
 ·simp[Aaa,hv]
def Sl(m:List (Nat×Value))(a:Act):Prop:=a.defers=[cQ]/\a.tmps.size=349/\∀p∈m,a.tmps[p.1]?=some p.2
theorem Sl.get{m:List (Nat×Value)}{a:Act}(h:Sl m a){i:Nat}{v:Value}(hm:(i,v)∈m):a.tmps[i]?=some v:=h.2.2 (i,v) hm
theorem eN{α:Type}{p:α->Prop}{a:α}{l:List α}(h1:p a)(h2:∀x∈l,p x):∀x∈a::l,p x:=fun x hx=>(Aef.1 hx).elim (fun e=>e▸h1) (h2 x)
theorem iT{α:Type}{p:α->Prop}:∀x∈([]:List α),p x:=fun _ h=>absurd h Aeg
def Al:List (Nat×Value)->(Nat->Value)->Prop
 | [],_=>True
 |p::m,x=>x p.1=p.2/\Al m x
theorem Sl.lit{m:List (Nat×Value)}{a:Act}(h:Sl m a):∃x,a=⟨(lit x).toArray,[cQ]⟩/\Al m x:=by
 obtain⟨u,d⟩:=a;obtain⟨hd,hz,hm⟩:=h;simp only at hd hz hm;subst hd;obtain⟨x,rfl,hx⟩:=VX u hz;refine⟨x,rfl,?_⟩
 clear hz;induction m with
 |nil=>trivial
 |cons p m ih=>exact⟨hx _ _ (hm p (by simp)),ih fun q hq=>hm q (by simp[hq])⟩
theorem jj{P:Program}{c:Ai1}{cs:List Ai1}{F:Act->Aa4->Prop}{Q:Exit->Act->Aa4->Prop}{a:Act}{w:Aa4}(h:c.wp P (dP F) a w)(h2:∀a w,F a w->eX P cs Q a w):eX P (c::cs) Q a w:=by
 show c.wp P (Exit.then (eX P cs Q) Q) a w;refine Code.wp_mono (fun e a w hq=>?_) h
 cases e with
 |normal=>exact h2 a w hq
 |_=>exact(hq:False).elim
end Go.Jn
