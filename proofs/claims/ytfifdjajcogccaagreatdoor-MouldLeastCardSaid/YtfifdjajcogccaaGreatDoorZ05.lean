import Derived.Test.YtfifdjajcogccaaGreatDoorZ03
import Derived.Test.YtfifdjajcogccaaGreatDoorZ04
import Derived.Shelf.Small.Bits
import Derived.Shelf.Small.Wraps
import Derived.Shelf.Strconv.Itoa0
import Derived.Shelf.Sort.Plain
import Derived.Ground.Names2Prog
import Derived.Shelf.Slices.Clone
import Derived.Shelf.Slices.CompactI
import Derived.Shelf.Slices.SearchI
import Derived.Shelf.Slices.Cells
import Derived.Shelf.Slices.In.SortNone
import Derived.Ground.SlgnProg
import Derived.Shelf.SlicesE.Clone
import Derived.Lib.OwnBridge
import Derived.OwnWalk
import Derived.Maps.AppendAt
import Derived.RangeFuncIn
import Derived.RangeFuncCalls
import Derived.LoopIn
import Derived.OwnWalkIn
import Derived.TacticsInMore
import Derived.Laws.EntriesVeiled
import Derived.DeepKeys5
import Derived.Maps.OwnSet
import Derived.Maps.OwnOps
import Derived.BigRegion
import Derived.ChangeAlike
import Derived.WalkMore
import Derived.Lib.SliceRun
import Derived.Carry
set_option linter.all false
set_option maxHeartbeats 64000000
set_option maxRecDepth 20000
open And renaming intro -> Afx
open Array renaming getElem?_eq_some_iff -> Aaf, replicate_succ -> Agt, replicate_zero -> Agu, getElem?_toList -> Agv
open Go renaming TypeId -> Aa1, World -> Aa4, Calls -> Af1, info_parts -> Agw, maxLen -> Af0, wpList_append_own -> Agx, callsIn_of_wp -> Agy, Program -> Aa6, grownBy_putObj' -> Agz, run_takeDeferred -> Ag0, bodyPost_ret -> Ag1
open Go.Addr renaming add -> Ag2
open Go.Fence renaming wide -> Ag3
open Go.Instr renaming index -> Af2, lookup -> Ab8, mapUpdate -> Acb
open Go.IntKind renaming i64 -> Ack
open Go.Lib renaming compact -> Ag4, hid -> Af3
open Go.Obj renaming cells -> Af4
open Go.Oper renaming semAt_some -> Ag5
open Go.Result renaming andThen -> Ag6
open Go.RowKit renaming intOf -> Ag7
open Go.RowKit.Below renaming refl -> Af6, heap_setCell -> Ag8, heap_alloc -> Ag9, setCell -> Aha, alloc -> Ahb
open Go.World renaming putObj_heap_same -> Ahc, putObj_heap_other -> Ahd, setCell -> Ac0, cell?_alloc_lt -> Af7, grownBy_alloc -> Ahe
open List renaming take_of_length_le -> Agf, length_filter_le -> Ahf, range -> Af9, size_toArray -> Ahg, length_cons -> Ahh, length_nil -> Ahi, push_toArray -> Ahj, append_toArray -> Ahk, nil_append -> Ahl, cons_append -> Ahm, getElem?_eq_some_iff -> Agb, take_append_drop -> Ahn, flatMap_append -> Aho, flatMap_cons -> Ahp, length_append -> Ahq, mem_of_getElem? -> Agg, flatMap_singleton -> Ahr, take_succ_cons -> Agi, take_zero -> Agj, drop_succ_cons -> Agk, drop_zero -> Agl, length_singleton -> Afr
open Nat renaming le_refl -> Ac2, le_trans -> Ac3, zero_le -> Agm, le_of_eq -> Ago, reduceAdd -> Ahs, reduceSub -> Aht, add_mul -> Ahu, mul_le_mul_right -> Ahv, lt_succ_iff_lt_or_eq -> Agn
namespace Go.Tw
variable [Go.Tw.aR]
open Go Go.Proofs
theorem U{t:Aa1}{d:Option TypeDesc}(h:Tryz.prog.underlying t=d):Tw.prog.underlying t=d:=(Jh t).trans h
theorem A{t:Aa1}{b:Bool}(h:∀w:Aa4,(isAgg t).run Tryz.prog w=.ok b w):∀w:Aa4,(isAgg t).run Tw.prog w=.ok b w:=fun w=>(amn t w).trans (h w)
theorem Z{t:Aa1}{b:Nat}(h:∀w:Aa4,(sizeOf t).run Tryz.prog w=.ok b w):∀w:Aa4,(sizeOf t).run Tw.prog w=.ok b w:=fun w=>(amo t w).trans (h w)
theorem V{t:Aa1}{b:Value}(h:∀w:Aa4,(zeroValue t).run Tryz.prog w=.ok b w):∀w:Aa4,(zeroValue t).run Tw.prog w=.ok b w:=fun w=>(Qb t w).trans (h w)
end Go.Tw
namespace Go.Proofs
variable [Go.Tw.aR]
open Go.Shelf
def Sh.agT:Go.Shelf.Ren:=⟨fun|122=>181|215=>203|n=>n,fun|3=>3|4=>4|n=>n,fun|n=>n⟩
theorem Sh.agS:Go.Proofs.Lays.n122 Tw.prog Sh.agT:={
 mixed:=by kernel_rfl
 f122:=Tw.func181.trans (congrArg some (by kernel_rfl))
 f215:=Tw.func203.trans (congrArg some (by kernel_rfl))
 t3:=Tw.U Tryz.underlying3
 a3:=Tw.A Tryz.isAgg3
 z3:=Tw.Z Tryz.sizeOf3
 v3:=Tw.V Tryz.zeroValue3
 t4:=Tw.U Tryz.underlying4
 a4:=Tw.A Tryz.isAgg4
 z4:=Tw.Z Tryz.sizeOf4
 v4:=Tw.V Tryz.zeroValue4}
open Go.RowKit in
theorem Sh.cmp_Compare_int(x y:Int)(w:Aa4):
 Af1 Tw.prog 181 #[.int .i64 x,.int .i64 y] w fun e w'=>e=.returned (.int .i64 (Lib.compareInt x y))/\w'=w:=Any.cmp_Compare_int Sh.agS x y w
def Sh.agU:Go.Shelf.Ren:=⟨fun|189=>101|125=>164|257=>163|128=>199|129=>200|294=>190|295=>191|296=>192|297=>193|298=>194|299=>195|216=>196|300=>197|301=>198|328=>210|329=>211|330=>212|331=>213|332=>214|215=>203|343=>217|n=>n,fun|28=>33|3=>3|46=>194|0=>0|51=>220|53=>222|4=>4|183=>213|182=>212|131=>87|5=>5|9=>9|218=>234|222=>238|228=>242|229=>62|n=>n,fun|n=>n⟩
theorem Sh.VS:Go.Proofs.Lays.n189 Tw.prog Sh.agU:={
 mixed:=by kernel_rfl
 f125:=Tw.func164.trans (congrArg some (by kernel_rfl))
 f128:=Tw.func199.trans (congrArg some (by kernel_rfl))
 f129:=Tw.func200.trans (congrArg some (by kernel_rfl))
 f189:=Tw.func101.trans (congrArg some (by kernel_rfl))
 f215:=Tw.func203.trans (congrArg some (by kernel_rfl))
 f216:=Tw.func196.trans (congrArg some (by kernel_rfl))
 f257:=Tw.func163.trans (congrArg some (by kernel_rfl))
 f294:=Tw.func190.trans (congrArg some (by kernel_rfl))
 f295:=Tw.func191.trans (congrArg some (by kernel_rfl))
 f296:=Tw.func192.trans (congrArg some (by kernel_rfl))
 f297:=Tw.func193.trans (congrArg some (by kernel_rfl))
 f298:=Tw.func194.trans (congrArg some (by kernel_rfl))
 f299:=Tw.func195.trans (congrArg some (by kernel_rfl))
 f300:=Tw.func197.trans (congrArg some (by kernel_rfl))
 f301:=Tw.func198.trans (congrArg some (by kernel_rfl))
 f328:=Tw.func210.trans (congrArg some (by kernel_rfl))
 f329:=Tw.func211.trans (congrArg some (by kernel_rfl))
 f330:=Tw.func212.trans (congrArg some (by kernel_rfl))
 f331:=Tw.func213.trans (congrArg some (by kernel_rfl))
 f332:=Tw.func214.trans (congrArg some (by kernel_rfl))
 f343:=Tw.func217.trans (congrArg some (by kernel_rfl))
 t0:=Tw.U Tryz.underlying0
 a0:=Tw.A Tryz.isAgg0
 z0:=Tw.Z Tryz.sizeOf0
 v0:=Tw.V Tryz.zeroValue0
 t3:=Tw.U Tryz.underlying3
 a3:=Tw.A Tryz.isAgg3
 z3:=Tw.Z Tryz.sizeOf3
 v3:=Tw.V Tryz.zeroValue3
 t4:=Tw.U Tryz.underlying4
 a4:=Tw.A Tryz.isAgg4
 z4:=Tw.Z Tryz.sizeOf4
 v4:=Tw.V Tryz.zeroValue4
 t5:=Tw.U Tryz.underlying5
 a5:=Tw.A Tryz.isAgg5
 z5:=Tw.Z Tryz.sizeOf5
 v5:=Tw.V Tryz.zeroValue5
 t9:=Tw.U Tryz.underlying9
 a9:=Tw.A Tryz.isAgg9
 z9:=Tw.Z Tryz.sizeOf9
 v9:=Tw.V Tryz.zeroValue9
 t28:=Tw.U Tryz.underlying33
 a28:=Tw.A Tryz.isAgg33
 z28:=Tw.Z Tryz.sizeOf33
 v28:=Tw.V Tryz.zeroValue33
 t46:=Tw.U Tryz.underlying194
 a46:=Tw.A Tryz.isAgg194
 z46:=Tw.Z Tryz.sizeOf194
 v46:=Tw.V Tryz.zeroValue194
 t51:=Tw.U Tryz.underlying220
 a51:=Tw.A Tryz.isAgg220
 z51:=Tw.Z Tryz.sizeOf220
 v51:=Tw.V Tryz.zeroValue220
 t53:=Tw.U Tryz.underlying222
 a53:=Tw.A Tryz.isAgg222
 z53:=Tw.Z Tryz.sizeOf222
 v53:=Tw.V Tryz.zeroValue222
 t131:=Tw.U Tryz.underlying87
 a131:=Tw.A Tryz.isAgg87
 z131:=Tw.Z Tryz.sizeOf87
 v131:=Tw.V Tryz.zeroValue87
 t182:=Tw.U Tryz.underlying212
 a182:=Tw.A Tryz.isAgg212
 z182:=Tw.Z Tryz.sizeOf212
 v182:=Tw.V Tryz.zeroValue212
 t183:=Tw.U Tryz.underlying213
 a183:=Tw.A Tryz.isAgg213
 z183:=Tw.Z Tryz.sizeOf213
 v183:=Tw.V Tryz.zeroValue213
 t218:=Tw.U Tryz.underlying234
 a218:=Tw.A Tryz.isAgg234
 z218:=Tw.Z Tryz.sizeOf234
 v218:=Tw.V Tryz.zeroValue234
 t222:=Tw.U Tryz.underlying238
 a222:=Tw.A Tryz.isAgg238
 z222:=Tw.Z Tryz.sizeOf238
 v222:=Tw.V Tryz.zeroValue238
 t228:=Tw.U Tryz.underlying242
 a228:=Tw.A Tryz.isAgg242
 z228:=Tw.Z Tryz.sizeOf242
 v228:=Tw.V Tryz.zeroValue242
 t229:=Tw.U Tryz.underlying62
 a229:=Tw.A Tryz.isAgg62
 z229:=Tw.Z Tryz.sizeOf62
 v229:=Tw.V Tryz.zeroValue62}
open Go.Sort Go.RowKit in
theorem Sh.slices_Sort_int(blk off cap:Nat)(zs:List Int)(w:Aa4)(hH:Holds (Value.int .i64) w blk off zs.toArray)(ad5:blk<w.heap.size)(aI:zs.length<4611686018427387904):
 Af1 Tw.prog 101 #[.slice (some ⟨blk,off,none⟩) zs.length cap] w fun e w'=>
  e=.returned (.tuple #[])/\∃n os,w'=grow (putRow (Value.int .i64) (Sort.ahead w n) blk off (zs.mergeSort fun x y=>decide (x<=y)).toArray) os:=Any.slices_Sort_int Sh.VS blk off cap zs w hH ad5 aI
def Sh.agV:Go.Shelf.Ren:=⟨fun|20=>102|n=>n,fun|22=>33|3=>3|4=>4|0=>0|n=>n,fun|n=>n⟩
theorem Sh.VT:Go.Proofs.Lays2.n20 Tw.prog Sh.agV:={
 mixed:=by kernel_rfl
 f20:=Tw.func102.trans (congrArg some (by kernel_rfl))
 t0:=Tw.U Tryz.underlying0
 a0:=Tw.A Tryz.isAgg0
 z0:=Tw.Z Tryz.sizeOf0
 v0:=Tw.V Tryz.zeroValue0
 t3:=Tw.U Tryz.underlying3
 a3:=Tw.A Tryz.isAgg3
 z3:=Tw.Z Tryz.sizeOf3
 v3:=Tw.V Tryz.zeroValue3
 t4:=Tw.U Tryz.underlying4
 a4:=Tw.A Tryz.isAgg4
 z4:=Tw.Z Tryz.sizeOf4
 v4:=Tw.V Tryz.zeroValue4
 t22:=Tw.U Tryz.underlying33
 a22:=Tw.A Tryz.isAgg33
 z22:=Tw.Z Tryz.sizeOf33
 v22:=Tw.V Tryz.zeroValue33
 i3:=by kernel_rfl}
open Go.RowKit Go.Lib Go.Sort in
theorem Sh.slices_Compact_int(blk off cap:Nat)(zs:List Int)(w:Aa4)(hH:Holds (Value.int .i64) w blk off zs.toArray)(aI:zs.length<=9223372036854775807)(M6:zs.length<=cap):
 Af1 Tw.prog 102 #[.slice (some ⟨blk,off,none⟩) zs.length cap] w fun e w'=>e=.returned (.slice (some ⟨blk,off,none⟩) (Ag4 zs).length cap)/\∃q,w'=putRow (Value.int .i64) (Sort.ahead w q) blk off (Ag4 zs++List.replicate (zs.length - (Ag4 zs).length) 0).toArray:=Any.slices_Compact_int Sh.VT blk off cap zs w hH aI M6
open Go.RowKit Go.Lib Go.Sort in
theorem Sh.slices_Compact_int_empty(a:Option Addr)(cap:Nat)(w:Aa4):
 Af1 Tw.prog 102 #[.slice a 0 cap] w fun e w'=>e=.returned (.slice a 0 cap)/\w'=w:=Any.slices_Compact_int_empty Sh.VT a cap w
open Go.RowKit Go.Sort in
theorem Sh.slices_Sort_int_none(p:Option Addr)(cap:Nat)(w:Aa4):
 Af1 Tw.prog 101 #[.slice p 0 cap] w fun e w'=>e=.returned (.tuple #[])/\w'=w:=Any.slices_Sort_int_none Sh.VS p cap w
end Go.Proofs
namespace Go.Tw
variable [Go.Tw.aR]
open Go Go.Proofs Go.RowKit Go.Sort Go.Lib
theorem Zv{B:Nat}{w0 w:Aa4}{os:Array Obj}(h:Below B w0 w)(hB:B<=w.heap.size):Below B w0 (Sort.grow w os):=
 ⟨h.os,h.tape,h.output,by have:=h.size;simp[Sort.grow];omega,fun k hk=>by rw[<-h.block k hk];exact heap_grow_old w os (by omega)⟩
theorem aju{w:Aa4}{base:Nat}{e:Aa1}{sz n:Nat}{v:Value}{xs:List Value}{os:Array Obj}(h:w.ownsRow base e sz v n xs):(Sort.grow w os).ownsRow base e sz v n xs:=by
 refine⟨h.1,?_⟩
 rcases h.2 with h0| ⟨g,cap,cur,h1,h2,h3,h4⟩
 ·exact .inl h0
 ·exact .inr ⟨g,cap,cur,h1,h2,(heap_grow_old w os (Aaf.1 h3).1).trans h3,h4⟩
def ga(l:List Int):List Int:=l.mergeSort fun x y=>decide (x<=y)
theorem PW{base n:Nat}{v:Value}{zs:List Int}{w:Aa4}(h:w.ownsRow base 3 1 v n (zs.map (Value.int .i64)))(hn:n<=100000)(hb:base<=w.heap.size):
 Af1 prog 101 #[v] w fun e w'=>e=.returned (.tuple #[])/\w'.ownsRow base 3 1 v n ((ga zs).map (Value.int .i64))/\Below base w w':=by
 by_cases hv:v=.slice none 0 0
 ·subst hv
  have h0:n=0/\zs=[]:=by
   rcases h.2 with⟨_,e⟩ | ⟨g,cap,cur,e,_⟩
   ·have:=h.1;simp at this;cases zs with
    |nil=>simp at this;exact⟨by omega,rfl⟩
    |cons=>simp_all
   ·cases e
  obtain⟨rfl,rfl⟩:=h0;refine(Sh.slices_Sort_int_none none 0 w).mono ?_
  rintro e w' ⟨rfl,rfl⟩;exact⟨rfl,by simpa [ga] using h,Af6 _ _⟩
 ·obtain⟨g,cap,rfl,jU,al,dX,kZ,hl,hH⟩:=holds_of_ownsRow h hv
  subst hl;refine(Sh.slices_Sort_int g 0 cap zs w hH al (by omega)).mono ?_
  rintro e w' ⟨rfl,q,os,rfl⟩;have hs:(ga zs).length=zs.length:=by simp[ga]
  refine⟨rfl,aju ?_,Zv (below_putRow (Af6 _ _) jU) (by simp;exact hb)⟩
  have:=ownsRow_putRow (q:=q) (k:=zs.length) (ys:=ga zs) h hs (Ac2 _);rwa[Agf (by omega)] at this
theorem SA(zs:List Int):(Ag4 zs).length<=zs.length:=by
 unfold Ag4 compactUpTo;rw[List.length_map];exact Ac3 (Ahf _ _) (by simp)
theorem Sz{base n:Nat}{v:Value}{zs:List Int}{w:Aa4}(h:w.ownsRow base 3 1 v n (zs.map (Value.int .i64)))(hn:n<=100000):
 Af1 prog 102 #[v] w fun e w'=>∃u,e=.returned u/\w'.ownsRow base 3 1 u (Ag4 zs).length ((Ag4 zs).map (Value.int .i64))/\Below base w w':=by
 by_cases hv:v=.slice none 0 0
 ·subst hv
  have h0:n=0/\zs=[]:=by
   rcases h.2 with⟨_,e⟩ | ⟨g,cap,cur,e,_⟩
   ·have:=h.1;simp at this;cases zs with
    |nil=>simp at this;exact⟨by omega,rfl⟩
    |cons=>simp_all
   ·cases e
  obtain⟨rfl,rfl⟩:=h0;refine(Sh.slices_Compact_int_empty none 0 w).mono ?_
  rintro e w' ⟨rfl,rfl⟩;exact⟨_,rfl,h,Af6 _ _⟩
 ·obtain⟨g,cap,rfl,jU,al,dX,kZ,hl,hH⟩:=holds_of_ownsRow h hv
  subst hl;refine(Sh.slices_Compact_int g 0 cap zs w hH (by omega) dX).mono ?_
  rintro e w' ⟨rfl,q,rfl⟩;have hk:(Ag4 zs).length<=zs.length:=SA zs;refine⟨_,rfl,?_,below_putRow (Af6 _ _) jU⟩
  have:=ownsRow_putRow (q:=q) (k:=(Ag4 zs).length) (ys:=Ag4 zs++List.replicate (zs.length - (Ag4 zs).length) 0) h (by simp;omega) hk
  simpa using this
end Go.Tw
namespace Go.Tw
variable [Go.Tw.aR]
open Go Go.Proofs Go.RowKit
def jG(l:List Cut):List Int:=Ag4 (ga (l.map (·.bp)))
theorem ei{w:Aa4}{base:Nat}{e:Aa1}{sz n:Nat}{v:Value}{xs:List Value}(h:w.ownsRow base e sz v n xs)(k:Nat)(hk:v.ownBlock=some k):base<=k:=by
 rcases h.2 with⟨rfl,_⟩ | ⟨g,cap,cur,rfl,jU,_⟩
 ·simp[Value.ownBlock] at hk
 ·simp[Value.ownBlock] at hk;omega
theorem Oo:(prog.info? 3).map (fun i=>(i.zero,i.size,i.bytes))=some (some (.int .i64 0),1,8):=by
 rw[pB];kernel_rfl
theorem taken{l:List Cut}{v:Value}{w:Aa4}{B:Nat}(hv:Row w B 2 Cut.R v l)(hB:B<=w.heap.size)(xv:l.length<=1000):
 Af1 prog 235 #[v] w fun e w'=>∃u,e=.returned u/\w'.ownsRow w.heap.size 3 1 u (jG l).length ((jG l).map (Value.int .i64))/\Below w.heap.size w w':=by
 obtain⟨i0,cR,cT,aN,ba⟩:=Agw Oo;obtain⟨A,n,c,rfl,hl,dX,cX,hr⟩:=hv.open_;have hn:n<=1000:=by omega
 unfold Af0 at cX;have nh:=Af3 hl;have H2:=Af3 hr;have HI:=Af3 (Afx cR (Afx cT (Afx aN ba)));clear hl hr hv xv cR cT aN ba;go_enter func235,Tryz.ntmps235;go_wp2;go_loopw [3,5,8] (fun o u k wr=>∃i:Nat,i<=n/\k=.int .i64 i/\wr.ownsRow w.heap.size 3 1 o i ((l.take i).map fun c=>.int .i64 c.bp)/\Below w.heap.size w wr) (fun _ _ k _=>n - (Ag7 k).toNat)
 case atStart=>exact⟨0,Agm _,rfl,⟨by simp,.inl ⟨rfl,rfl⟩⟩,Af6 _ _⟩
 case round=>
  obtain⟨i,hi,rfl,aG,hb⟩:=hrel;have HO:=Af3 aG;have HB:=Af3 hb;have aI:=hb.size;by_cases al:i<n
  ·obtain⟨ad,x,cs,rfl,aC,hx,rfl,-,au⟩:=H2.out i al
   have st:Still B w wr:=Still.aK hb hB;have h0:=cC au st aC rfl;have h1:=bK au st aC 0 rfl;have HX:=Af3 hx;clear hb hx au st aG;go_wp2_with (first
    | (at_builtin
       refine Agx _ rfl (.tmp 12) (.tmp 15) 33 rfl w.heap.size 3 i0 (.int .i64 0) 1 8 (U Tryz.underlying33) HI.out.1 HI.out.2.1 HI.out.2.2.1 HI.out.2.2.2 rfl (by decide) _ i _ rfl ((HO.out.alloc _).alloc _) ⟨wr.heap.size+1,0,none⟩ 1 1 [.int .i64 x.bp] rfl rfl ?c1 ?c2 ?c3 ?c4 ?c5 ?_
       case c1=>(intro j u hu;match j,hu with|0,hu=>(simp at hu;subst hu;simp[go_sem,Ag2]))
       case c2=>simp[Value.oneCell']
       case c3=>(simp only[Af0];omega)
       case c4=>omega
       case c5=>(simp;omega)
       intro v' w1 cK dT _;have gW:=Af3 cK;have gV:=Af3 dT;clear cK dT))
   go_roundw;case rel=>exact⟨i+1,by omega,by go_num,by rw[oJ HX.out,List.map_append];exact gW.out,
    ((HB.out.trans ((Af6 _ _).alloc aI _)).trans ((Af6 _ _).alloc (by simp;omega) _)).grown gV.out (by simp;omega) (fun k hk=>ei HO.out k hk)⟩
   case measure=>simp[Ag7];omega
  ·obtain rfl:i=n:=by omega
   have vq:((l.take i).map fun c=>Value.int .i64 c.bp)=(l.map (·.bp)).map (Value.int .i64):=by
    rw[Agf (Ago nh.out),List.map_map];rfl
   have rf:Hid (wr.ownsRow w.heap.size 3 1 u3 i ((l.map (·.bp)).map (Value.int .i64))):=Af3 (vq▸HO.out)
   clear hb aG vq HO;go_wp2_with (first
    | (go_at_call 101;refine(PW rf.out (by omega) aI).mono ?_;rintro e w1 ⟨rfl,cK,ae⟩;have uC:=Af3 cK;have fw:=Af3 ae;clear cK ae)
    | (go_at_call 102;refine(Sz uC.out (by omega)).mono ?_;rintro e w2 ⟨u,rfl,lR,ak⟩;have wQ:=Af3 lR;have jK:=Af3 ak;clear lR ak))
   go_ret;exact⟨_,rfl,wQ.out,HB.out.trans (fw.out.trans jK.out)⟩
theorem nothing{s:Int}{A1 A2 A3:Option Addr}{n1 c1 n2 c2 n3 c3:Nat}(w:Aa4):
 Af1 prog 107 #[.agg #[.int .i64 s,.slice A1 n1 c1,.slice A2 n2 c2,.slice A3 n3 c3]] w fun e w'=>e=.returned (.int .i64 0)/\Below w.heap.size w w':=by
 go_enter func107,Tryz.ntmps107;go_wp2;go_ret;exact⟨aX rfl,(Af6 _ _).alloc (Ac2 _) _⟩
end Go.Tw
namespace Go.Tw
variable [Go.Tw.aR]
open Go Go.Proofs Go.RowKit
theorem ze(f:FuncId):Ag3.fn f=True:=rfl
theorem zd:Ag3.depth=none:=rfl
attribute [local go_sem] ze zd Ag5
def an.set(L:an)(i:Nat)(k:Int):an:=if i=0 then {L with a:=k} else if i=1 then {L with b:=k} else {L with c:=k}
def mR(x:Span):List Int:=(Af9 (x.hi - x.lo+1).toNat).map fun(j:Nat)=>x.lo+j
def eu(b:ao):Nat->Nat->an->List an
 |0,_,n=>if Pw n b.aJ then [n] else []
 |f+1,i,n=>match b.pieces[i]? with
  |some p=>(mR p.len).flatMap fun k=>eu b f (i+1) (n.set i k)
  |none=> []
def aD(b:ao):List an:=eu b b.pieces.length 0 ⟨0,0,0⟩
def an.vs(L:an):List Value:=[.int .i64 L.a,.int .i64 L.b,.int .i64 L.c]
structure AI(w:Aa4)(b:ao)(pv bv tv:Value)(rec:Loop)(n:an)(out:List an)(W:Aa4):Prop where
 p:Bk W (w.heap.size+4) 117 #[.int .i64 b.ag,pv,bv,tv]
 y:Bk W (w.heap.size+5) 182 #[.func (.yield (w.heap.size+3)) #[] #[]]
 n:Bk W (w.heap.size+6) 128 n.cs
 x:Bk W (w.heap.size+7) 158 #[.func (.func 188) #[] #[.pointer (some ⟨w.heap.size+4,0,none⟩),.pointer (some ⟨w.heap.size+6,0,none⟩),.pointer (some ⟨w.heap.size+5,0,none⟩),.pointer (some ⟨w.heap.size+7,0,none⟩)]]
 o:∃v,Bk W (w.heap.size+1) 115 #[v]/\W.ownsRow (w.heap.size+8) 128 3 v out.length (out.flatMap an.vs)
 d:W.heap[w.heap.size+2]?=some (.deferred (some []))
 l:W.heap[w.heap.size+3]?=some (.loop rec)
 below:Below w.heap.size w W
theorem qO{B:Nat}{w w':Aa4}{base:Nat}{e:Aa1}{sz n:Nat}{v:Value}{xs:List Value}(h:w.ownsRow base e sz v n xs)(hb:Below B w w')(hB:w.heap.size<=B):w'.ownsRow base e sz v n xs:=by
 refine⟨h.1,?_⟩
 rcases h.2 with h0| ⟨g,cap,cur,h1,h2,h3,h4⟩
 ·exact .inl h0
 ·exact .inr ⟨g,cap,cur,h1,h2,(hb.block g (Nat.lt_of_lt_of_le (Aaf.1 h3).1 hB)).trans h3,h4⟩
theorem AI.later{w:Aa4}{b:ao}{pv bv tv:Value}{rec:Loop}{n:an}{out:List an}{W W':Aa4}(h:AI w b pv bv tv rec n out W)(hb:Below W.heap.size W W'):AI w b pv bv tv rec n out W':=by
 have h1:=h.x.lt;refine⟨h.p.below hb (by omega),h.y.below hb (by omega),h.n.below hb (by omega),h.x.below hb (by omega),?_,(hb.block _ (by omega)).trans h.d,(hb.block _ (by omega)).trans h.l,h.below.trans (hb.mono (by omega))⟩
 obtain⟨v,v1,v2⟩:=h.o;exact⟨v,v1.below hb (by omega),qO v2 hb (Ac2 _)⟩
def Lg(w:Aa4)(b:ao)(pv bv tv:Value)(rec:Loop):Prop:=∀(m:Nat) (n:an) (out:List an) (W:Aa4),out.length<1000->AI w b pv bv tv rec n out W->
 YieldAt Ag3 m prog (w.heap.size+3) #[.agg n.cs] W fun e W'=>e=.returned (.bool true)/\AI w b pv bv tv rec n (out++ [n]) W'
theorem aiW{w:Aa4}{b:ao}{pv bv tv:Value}{rec:Loop}{B:Nat}(hB:B<=w.heap.size)(ai:bg w B b pv bv tv)(dh:zz b)(hY:Lg w b pv bv tv rec){n:an}(hL:n.Ok){out:List an}{W:Aa4}
 (h:AI w b pv bv tv rec n out W)(hK:out.length+(eu b 0 b.pieces.length n).length<=1000)(m:Nat):
 CallsIn Ag3 m prog 188 #[.int .i64 b.pieces.length,.pointer (some ⟨w.heap.size+4,0,none⟩),.pointer (some ⟨w.heap.size+6,0,none⟩),.pointer (some ⟨w.heap.size+5,0,none⟩),.pointer (some ⟨w.heap.size+7,0,none⟩)] W
  fun e W'=>e=.returned (.bool true)/\AI w b pv bv tv rec n (out++eu b 0 b.pieces.length n) W':=by
 have HK:=Af3 hK;clear hK;have HY:=Af3 hY;have HI:=Af3 h;have Yv:b.pieces.length<=9223372036854775807:=by
  obtain⟨A1,n1,c1,rfl,e1,h1,ez,-⟩:=ai.pieces.open_;unfold Af0 at ez;omega
 obtain⟨A1,n1,c1,rfl,e1,h1,ez,-⟩:=ai.pieces.open_;have p0:=h.p.cell 0;have p1:=h.p.cell 1;have p2:=h.p.cell 2;have p3:=h.p.cell 3;have y0:=h.y.cell 0;have n0: W.cell? ⟨w.heap.size+6,0,none⟩=some (.int .i64 n.a):=h.n.cell 0;have n1': W.cell? ⟨w.heap.size+6,1,none⟩=some (.int .i64 n.b):=h.n.cell 1;have n2: W.cell? ⟨w.heap.size+6,2,none⟩=some (.int .i64 n.c):=h.n.cell 2;have call:=right (w:=W) (B:=B) (L:=n) (ai.still (Still.aK h.below hB)) (by have:=h.below.size;omega) dh hL
 have aB:=Af3 call;clear hY h ai call;rw[e1] at Yv |-
 have E1:=Af3 e1;clear e1;unfold Af0 at ez;cases NZ:Pw n b.aJ with
 |false=>
  refine Agy func188 rfl trivial ?_
  simp only[Tryz.ntmps188,Ahg,Ahh,Ahi,Ahs,Aht,Agt,Agu,Ahj,Ahk,Ahl,Ahm]
  gi_wp2_with (first
   | (gi_at_call 189;refine(callsIn_wide.2 aB.out).mono ?_;rintro e w1 ⟨rfl,ae⟩))
  go_ret;exact⟨b9 rfl,by simpa [eu,NZ] using HI.out.later (ae.mono (Ac2 _))⟩
 |true=>
  refine Agy func188 rfl trivial ?_
  simp only[Tryz.ntmps188,Ahg,Ahh,Ahi,Ahs,Aht,Agt,Agu,Ahj,Ahk,Ahl,Ahm]
  gi_wp2_with (first
   | (gi_at_call 189;refine(callsIn_wide.2 aB.out).mono ?_;rintro e w1 ⟨rfl,ae⟩
      have B6:=Af3 (HI.out.later ae);obtain⟨f1,t1,a1,b1,jA,oq⟩:=HY.out (m - 1) n out w1 (by have:=HK.out;simp[eu,NZ] at this;omega) B6.out
      have KX:=Af3 oq;have n0: w1.cell? ⟨w.heap.size+6,0,none⟩=some (.int .i64 n.a):=B6.out.n.cell 0;have n1': w1.cell? ⟨w.heap.size+6,1,none⟩=some (.int .i64 n.b):=B6.out.n.cell 1;have n2: w1.cell? ⟨w.heap.size+6,2,none⟩=some (.int .i64 n.c):=B6.out.n.cell 2;have y0: w1.cell? ⟨w.heap.size+5,0,none⟩=some (.func (.yield (w.heap.size+3)) #[] #[]):=B6.out.y.cell 0;have hyy:Sem.run prog (Instr.yield (w.heap.size+3) #[.agg #[.int .i64 n.a,.int .i64 n.b,.int .i64 n.c]]) w1=.ok (.round (w.heap.size+3) f1 t1 a1 b1) w1:=jA;clear jA oq))
  refine KX.out.mono ?_
  rintro e W' ⟨rfl,h2⟩;have H2:=Af3 h2;clear h2
  gi_wp2
  go_ret;exact⟨b9 rfl,by simpa [eu,NZ] using H2.out⟩
theorem R7{b:ao}{f i:Nat}{n:an}{p:Piece}(h:b.pieces[i]?=some p):eu b (f+1) i n=(mR p.len).flatMap fun k=>eu b f (i+1) (n.set i k):=by
 conv=>lhs;unfold eu
 rw[h]
theorem acL{α β:Type}{f:α->List β}{l:List α}{j:Nat}{x:α}(h:l[j]?=some x):((l.take j).flatMap f).length+(f x).length<=(l.flatMap f).length:=by
 have e:l=l.take j++x::l.drop (j+1):=by
  obtain⟨hj,rfl⟩:=Agb.1 h
  rw[List.getElem_cons_drop,Ahn]
 conv=>rhs;rw[e]
 simp only[Aho,Ahp,Ahq];omega
def B0(i f:Nat)(n m:an):Prop:=∀q,q<3->(q<i\/i+f<=q)->n.at q=m.at q
theorem an.acv{n m:an}(h:∀q,q<3->n.at q=m.at q):n=m:=by
 have h0:=h 0 (by omega)
 have h1:=h 1 (by omega)
 have h2:=h 2 (by omega)
 cases n;cases m
 simp[an.at] at h0 h1 h2;simp[h0,h1,h2]
theorem an.at_set{n:an}{i q:Nat}{k:Int}(hi:i<3)(hq:q<3):(n.set i k).at q=if q=i then k else n.at q:=by
 match i,hi,q,hq with
 |0,_,0,_=>simp[an.set,an.at]
 |0,_,1,_=>simp[an.set,an.at]
 |0,_,2,_=>simp[an.set,an.at]
 |1,_,0,_=>simp[an.set,an.at]
 |1,_,1,_=>simp[an.set,an.at]
 |1,_,2,_=>simp[an.set,an.at]
 |2,_,0,_=>simp[an.set,an.at]
 |2,_,1,_=>simp[an.set,an.at]
 |2,_,2,_=>simp[an.set,an.at]
theorem an.Zq{n:an}{q:Nat}(hq:2<=q):n.at q=n.c:=by unfold an.at;rw[if_neg (by omega),if_neg (by omega)]
theorem an.Ok.set{n:an}(h:n.Ok){i:Nat}{k:Int}(hi:i<3)(h0:0<=k)(h1:k<=1000):(n.set i k).Ok:=by
 intro q;by_cases hq:q<3
 ·rw[an.at_set hi hq];split
  ·exact⟨h0,h1⟩
  ·exact h q
 ·rw[an.Zq (by omega)]
  have:(n.set i k).c=(n.set i k).at 2:=rfl;rw[this,an.at_set hi (by omega)];split
  ·exact⟨h0,h1⟩
  ·exact h 2
theorem an.aa5{n:an}{i:Nat}{k:Int}(hi:i<3):n.cs.setIfInBounds i (.int .i64 k)=(n.set i k).cs:=by
 match i,hi with
 |0,_=>rfl
 |1,_=>rfl
 |2,_=>rfl
theorem an.uR{n:an}{i:Nat}(hi:i<3):n.cs[i]?=some (.int .i64 (n.at i)):=by
 match i,hi with
 |0,_=>rfl
 |1,_=>rfl
 |2,_=>rfl
theorem RV{b:ao}:∀(f i:Nat) (n m:an),i+f<=3->B0 i f n m->eu b f i n=eu b f i m
 |0,i,n,m,hi,h=>by
  have:n=m:=an.acv fun q hq=>h q hq (by omega)
  rw[this]
 |f+1,i,n,m,hi,h=>by
  unfold eu;cases b.pieces[i]? with
  |none=>rfl
  |some p=>
   simp only;congr 1;funext k;refine RV f (i+1) _ _ (by omega) fun q hq pe=>?_
   rw[an.at_set (by omega) hq,an.at_set (by omega) hq]
   split
   ·rfl
   ·exact h q hq (by omega)
theorem AI.aln{w:Aa4}{b:ao}{pv bv tv:Value}{rec:Loop}{n:an}{out:List an}{W:Aa4}(h:AI w b pv bv tv rec n out W){i:Nat}(hi:i<3)(k:Int):AI w b pv bv tv rec (n.set i k) out (W.setCell ⟨w.heap.size+6,i,none⟩ (.int .i64 k)):=by
 have h1:=h.x.lt;refine⟨h.p.dn (by simp) _,h.y.dn (by simp) _,by rw[<-an.aa5 hi];exact h.n.set i _,h.x.dn (by simp) _,?_,(Ag8 _ _ _ _ (by simp)).trans h.d,(Ag8 _ _ _ _ (by simp)).trans h.l,h.below.setCell (by simp) _⟩
 obtain⟨v,v1,v2⟩:=h.o;refine⟨v,v1.dn (by simp) _,v2.1,?_⟩
 rcases v2.2 with h0| ⟨g,cap,cur,h1,h2,h3,h4⟩
 ·exact .inl h0
 ·exact .inr ⟨g,cap,cur,h1,h2,(Ag8 _ _ _ _ (by simp;omega)).trans h3,h4⟩
theorem PZ(x:Span):(mR x).length=(x.hi - x.lo+1).toNat:=by simp[mR]
theorem Xq{x:Span}{j:Nat}(h:x.lo+j<=x.hi):(mR x)[j]?=some (x.lo+j):=by
 unfold mR;rw[List.getElem?_map,List.getElem?_range (by omega)]
 rfl
theorem aiX{w:Aa4}{b:ao}{pv bv tv:Value}{rec:Loop}{B:Nat}(hB:B<=w.heap.size)(ai:bg w B b pv bv tv)(nI:∀p∈b.pieces,0<=p.len.lo/\p.len.hi<=1000){f i:Nat}(eK:i+(f+1)=b.pieces.length)(h3:b.pieces.length<=3)
 (ih:∀(n:an) (out:List an) (W:Aa4) (m:Nat),n.Ok->out.length+(eu b f (i+1) n).length<=1000->AI w b pv bv tv rec n out W->
   CallsIn Ag3 m prog 188 #[.int .i64 (i+1:Int),.pointer (some ⟨w.heap.size+4,0,none⟩),.pointer (some ⟨w.heap.size+6,0,none⟩),.pointer (some ⟨w.heap.size+5,0,none⟩),.pointer (some ⟨w.heap.size+7,0,none⟩)] W
    fun e W'=>e=.returned (.bool true)/\∃n',n'.Ok/\B0 (i+1) f n' n/\AI w b pv bv tv rec n' (out++eu b f (i+1) n) W')
 {n:an}(hL:n.Ok){out:List an}(hK:out.length+(eu b (f+1) i n).length<=1000){W:Aa4}(h:AI w b pv bv tv rec n out W)(m:Nat):
 CallsIn Ag3 m prog 188 #[.int .i64 i,.pointer (some ⟨w.heap.size+4,0,none⟩),.pointer (some ⟨w.heap.size+6,0,none⟩),.pointer (some ⟨w.heap.size+5,0,none⟩),.pointer (some ⟨w.heap.size+7,0,none⟩)] W
  fun e W'=>e=.returned (.bool true)/\∃n',n'.Ok/\B0 i (f+1) n' n/\AI w b pv bv tv rec n' (out++eu b (f+1) i n) W':=by
 have HI:=Af3 h;have HK:=Af3 hK;clear hK;obtain⟨A1,n1,c1,rfl,e1,hn,hc,hr⟩:=ai.pieces.open_;have fZ:i<3:=by omega
 have dL:i<n1:=by omega
 obtain⟨ad,p,cs,rfl,aC,hp,⟨rfl,dH⟩,-,au⟩:=hr i dL;have DW:=nI p (Agg hp);have aoH:0<=p.len.lo:=DW.1;have aoI:p.len.hi<=1000:=DW.2;have st:Still B w W:=Still.aK h.below hB;have q1: W.cell? ⟨(ad.add (i * 4)).block,(ad.add (i * 4)).off+1,none⟩=some (.int .i64 p.len.lo):=bK au st aC 0 rfl;have q2: W.cell? ⟨(ad.add (i * 4)).block,(ad.add (i * 4)).off+2,none⟩=some (.int .i64 p.len.hi):=bK au st aC 1 rfl;have HC:=Af3 au;have HAD:(ad.add (i * 4)).block<w.heap.size:=by rw[cq];omega
 have p1: W.cell? ⟨w.heap.size+4,1,none⟩=some (.slice (some ad) n1 c1):=h.p.cell 1;have qy:((i:Int)==(n1:Int))=false:=by simp;omega
 have HE:=Af3 e1;have HP:=Af3 hp;have YE:=Af3 eK;have YF:=Af3 ih;unfold Af0 at hc;clear ai h hr nI hp au st dH ih e1 eK DW;refine Agy func188 rfl trivial ?_
 simp only[Tryz.ntmps188,Ahg,Ahh,Ahi,Ahs,Aht,Agt,Agu,Ahj,Ahk,Ahl,Ahm]
 gi_wp2
 gi_loopw [7] (fun k wr=>∃(j:Nat) (n':an),j<=(mR p.len).length/\k=.int .i64 (p.len.lo+j)/\n'.Ok/\B0 i (f+1) n' n/\Hid (AI w b (.slice (some ad) n1 c1) bv tv rec n' (out++((mR p.len).take j).flatMap fun k=>eu b f (i+1) (n.set i k)) wr)) (fun k _=>(p.len.hi+1 - Ag7 k).toNat)
 case atStart=>exact⟨0,n,Agm _,by simp,hL,fun _ _ _=>rfl,by simpa using HI⟩
 case round=>
  obtain⟨j,n',hj,rfl,TP,Ad,hI⟩:=hrel;have st:Still B w wr:=Still.aK hI.out.below hB;have q1: wr.cell? ⟨(ad.add (i * 4)).block,(ad.add (i * 4)).off+1,none⟩=some (.int .i64 p.len.lo):=bK HC.out st aC 0 rfl;have q2: wr.cell? ⟨(ad.add (i * 4)).block,(ad.add (i * 4)).off+2,none⟩=some (.int .i64 p.len.hi):=bK HC.out st aC 1 rfl;have p1: wr.cell? ⟨w.heap.size+4,1,none⟩=some (.slice (some ad) n1 c1):=hI.out.p.cell 1;have Ks:=Af3 Ad;have HJ:Hid (j<=(mR p.len).length):=Af3 hj;clear st Ad hj;by_cases al:p.len.lo+j<=p.len.hi
  ·have g6: wr.cell? ⟨w.heap.size+6,i,none⟩=some (.int .i64 (n'.at i)):=(hI.out.n.cell i).trans (an.uR fZ)
   have z6: wr.frozen? ⟨w.heap.size+6,i,none⟩=false:=hI.out.n.frozen i;have x7: wr.cell? ⟨w.heap.size+7,0,none⟩=some (.func (.func 188) #[] #[.pointer (some ⟨w.heap.size+4,0,none⟩),.pointer (some ⟨w.heap.size+6,0,none⟩),.pointer (some ⟨w.heap.size+5,0,none⟩),.pointer (some ⟨w.heap.size+7,0,none⟩)]):=hI.out.x.cell 0;have HS:=Af3 (hI.out.aln fZ (p.len.lo+j));have ik:eu b f (i+1) (n'.set i (p.len.lo+j))=eu b f (i+1) (n.set i (p.len.lo+j)):=by
    refine RV _ _ _ _ (by have:=YE.out;omega) fun q hq pe=>?_
    rw[an.at_set fZ hq,an.at_set fZ hq];split
    ·rfl
    ·exact Ks.out q hq (by omega)
   have Rc:=Af3 ik;clear ik;have Uc:(out++((mR p.len).take j).flatMap fun k=>eu b f (i+1) (n.set i k)).length+(eu b f (i+1) (n'.set i (p.len.lo+j))).length<=1000:=by
    have h1:=HK.out;rw[R7 HP.out] at h1;have h2:=acL (f:=fun k=>eu b f (i+1) (n.set i k)) (Xq al)
    rw[Rc.out,Ahq];omega
   have aB:=Af3 (fun m=>YF.out _ _ _ m (TP.set fZ (k:=p.len.lo+j) (by omega) (by omega)) Uc HS.out)
   clear Uc
   gi_wp2_with (first
    | (gi_at_call 188;refine(aB.out _).mono ?_;rintro e w1 ⟨rfl,n2,nB,G5,xz⟩;have KC:=Af3 xz;have Yw:=Af3 G5;clear xz G5))
   have hlen:j<(mR p.len).length:=by rw[PZ];omega
   have hj1:(mR p.len)[j]?=some (p.len.lo+j):=Xq al;refine⟨⟨j+1,n2,hlen,by go_num,nB,fun q hq pe=>?_,?_⟩,by simp[Ag7];omega⟩
   ·rw[Yw.out q hq (by omega),an.at_set fZ hq]
    split
    ·omega
    ·exact Ks.out q hq (by omega)
   ·rw[oJ hj1,Aho,Ahr,<-List.append_assoc]
    rw[<-Rc.out];exact KC
  ·gi_wp2
   go_ret;refine⟨b9 rfl,n',TP,Ks.out,?_⟩
   rw[R7 HP.out];have:=hI.out;rwa[Agf (by rw[PZ];omega)] at this
theorem Wg{w:Aa4}{b:ao}{pv bv tv:Value}{rec:Loop}{B:Nat}(hB:B<=w.heap.size)(ai:bg w B b pv bv tv)(dh:zz b)(nI:∀p∈b.pieces,0<=p.len.lo/\p.len.hi<=1000)(h3:b.pieces.length<=3)(hY:Lg w b pv bv tv rec):
 ∀(f i:Nat) (n:an) (out:List an) (W:Aa4) (m:Nat),i+f=b.pieces.length->n.Ok->out.length+(eu b f i n).length<=1000->AI w b pv bv tv rec n out W->
  CallsIn Ag3 m prog 188 #[.int .i64 i,.pointer (some ⟨w.heap.size+4,0,none⟩),.pointer (some ⟨w.heap.size+6,0,none⟩),.pointer (some ⟨w.heap.size+5,0,none⟩),.pointer (some ⟨w.heap.size+7,0,none⟩)] W
    fun e W'=>e=.returned (.bool true)/\∃n',n'.Ok/\B0 i f n' n/\AI w b pv bv tv rec n' (out++eu b f i n) W'
 |0,i,n,out,W,m,hi,hL,hK,h=>by
  obtain rfl:i=b.pieces.length:=by omega
  exact(aiW hB ai dh hY hL h hK m).mono fun e W' ⟨h1,h2⟩=>⟨h1,n,hL,fun _ _ _=>rfl,h2⟩
 |f+1,i,n,out,W,m,hi,hL,hK,h=>
  aiX hB ai nI hi h3 (fun n out W m hL hK h=>Wg hB ai dh nI h3 hY f (i+1) n out W m (by omega) hL hK h) hL hK h m
end Go.Tw
namespace Go.Tw
variable [Go.Tw.aR]
open Go Go.Proofs Go.RowKit
attribute [local go_sem] ze zd Ag5
theorem uI{w:Aa4}{o:Obj}{g:Nat}(h:g=w.heap.size):(w.alloc o).heap[g]?=some o:=by subst h;exact heap_alloc_new w _
theorem mm{w:Aa4}{o o':Obj}{g:Nat}(h:w.heap[g]?=some o'):(w.alloc o).heap[g]?=some o':=(Ag9 w o g (Aaf.1 h).1).trans h
theorem ZM{w:Aa4}{b:ao}{pv bv tv:Value}{rec:Loop}{B:Nat}(hB:B<=w.heap.size)(ai:bg w B b pv bv tv)(dh:zz b)(nI:∀p∈b.pieces,0<=p.len.lo/\p.len.hi<=1000)(h3:b.pieces.length<=3)(hK:(aD b).length<=1000)(hY:Lg w b pv bv tv rec)
 {W:Aa4}(hs:W.heap.size=w.heap.size+4)(hc:Bk W (w.heap.size+1) 115 #[.slice none 0 0])(hd:W.heap[w.heap.size+2]?=some (.deferred (some [])))(hl:W.heap[w.heap.size+3]?=some (.loop rec))(hb:Below w.heap.size w W)(m:Nat):
 CallsIn Ag3 m prog 162 #[.agg #[.int .i64 b.ag,pv,bv,tv],.func (.yield (w.heap.size+3)) #[] #[]] W
  fun e W'=>(∃v,e=.returned v)/\∃n',AI w b pv bv tv rec n' (aD b) W':=by
 obtain⟨W2,jw⟩:∃W2,W2=((((W.alloc (.cells #[.int .i64 b.ag,pv,bv,tv] 117)).alloc (.cells #[.func (.yield (w.heap.size+3)) #[] #[]] 182)).alloc (.cells #[.int .i64 0,.int .i64 0,.int .i64 0] 128)).alloc (.cells #[.func (.func 188) #[] #[.pointer (some ⟨W.heap.size,0,none⟩),.pointer (some ⟨W.heap.size+1+1,0,none⟩),.pointer (some ⟨W.heap.size+1,0,none⟩),.pointer (some ⟨W.heap.size+1+1+1,0,none⟩)]] 158)):=⟨_,rfl⟩
 have e4:w.heap.size+4=W.heap.size:=by omega
 have e5:w.heap.size+5=W.heap.size+1:=by omega
 have e6:w.heap.size+6=W.heap.size+1+1:=by omega
 have e7:w.heap.size+7=W.heap.size+1+1+1:=by omega
 have G6:AI w b pv bv tv rec ⟨0,0,0⟩ [] W2:=by
  subst jw;refine⟨?_,?_,?_,?_,⟨.slice none 0 0,?_,by simp,.inl ⟨rfl,rfl⟩⟩,?_,?_,?_⟩
  ·rw[e4];exact(((Bk.cG rfl _ _).alloc _).alloc _).alloc _
  ·rw[e5];exact((Bk.cG (by simp) _ _).alloc _).alloc _
  ·rw[e6];exact(Bk.cG (by simp) _ _).alloc _
  ·rw[e4,e5,e6,e7];exact Bk.cG (by simp) _ _
  ·exact(((hc.alloc _).alloc _).alloc _).alloc _
  ·exact mm (mm (mm (mm hd)))
  ·exact mm (mm (mm (mm hl)))
  ·exact(((hb.alloc (by omega) _).alloc (by simp;omega) _).alloc (by simp;omega) _).alloc (by simp;omega) _
 have eA:=Wg hB ai dh nI h3 hY b.pieces.length 0 ⟨0,0,0⟩ [] W2 (m - 1) (by omega) (fun q=>by unfold an.at;simp) (by simpa [aD] using hK) G6
 rw[e4,e5,e6,e7,show((0:Nat):Int)=0 from rfl,Ahl] at eA
 obtain⟨A1,n1,c1,rfl,-⟩:=ai.pieces.open_;obtain⟨A2,n2,c2,rfl,-⟩:=ai.aF.open_;obtain⟨A3,n3,c3,rfl,-⟩:=ai.aJ.open_;subst jw;have Yx:=Af3 eA;clear eA ai hY hd hl hb hc hs G6 e4 e5 e6 e7;refine Agy func162 rfl trivial ?_
 simp only[Tryz.ntmps162,Ahg,Ahh,Ahi,Ahs,Aht,Agt,Agu,Ahj,Ahk,Ahl,Ahm]
 gi_wp2_with (first
  | (gi_at_call 188;refine Yx.out.mono ?_;rintro e w1 ⟨rfl,n2,nB,G5,xz⟩;have KC:=Af3 xz;clear xz G5))
 go_end0
 exact⟨⟨_,rfl⟩,n2,KC.out⟩
end Go.Tw
namespace Go.Tw
variable [Go.Tw.aR]
open Go Go.Proofs Go.RowKit
def yD(fn:FuncId)(tmps:Array Value)(ps:Array Tmp)(assign body:Code)(D:Nat):Loop:={state:=.ready,pending:=none,fn,tmps,params:=ps,assign,body,defers:=D}
theorem Pr{n:Nat}{P:Aa6}{g:Operand}{ps:Array Tmp}{assign body:Code}{Q:Exit->Act->Aa4->Prop}{a:Act}{w:Aa4}{gf:Nat}{pre lb:Array Value}
 (hg:a.eval g=.func (.func gf) pre lb)(eg:∀args w,(callFunc gf args).run P w=.ok (.enter gf args) w)
 (h:∀fn rc,Hid (rc=yD fn a.tmps ps assign body w.heap.size)->CallsIn Ag3 (n - 1) P gf (pre++#[.func (.yield (w.heap.size+1)) #[] #[]]++lb) ((w.alloc (.deferred (some []))).alloc (.loop rc))
   (rangePost Ag3 n P (w.heap.size+1) Q {a with defers:={target:=.collected w.heap.size,args:=#[]}::a.defers})):
 (Code.rangeFunc g ps assign body).wpIn Ag3 n P Q a w:=by
 refine wpIn_rangeFunc fun fn _=>?_
 obtain⟨W1,eJ⟩:∃W1,W1=(w.alloc (.deferred (some []))).alloc (.loop (yD fn a.tmps ps assign body w.heap.size)):=⟨_,rfl⟩
 have h1:=h fn _ (Af3 rfl);rw[<-eJ] at h1;have r1:(Instr.enterLoop fn a.tmps ps assign body Ag3.round).run P w=.ok (w.heap.size+1,[{target:=.collected w.heap.size,args:=#[]}]) W1:=by
  rw[eJ];exact run_enterLoop_outer fn a.tmps ps assign body
 have r2:(resolve a.eval (rangeCall g (w.heap.size+1)) 0).run P W1=.ok {target:=.fn (.func gf) lb,args:=pre++#[.func (.yield (w.heap.size+1)) #[] #[]]} W1:=by
  simp only[resolve,hg];simp[go_sem]
 have r3:(invoke (.fn (.func gf) lb) (pre++#[.func (.yield (w.heap.size+1)) #[] #[]])).run P W1=.ok (.enter gf (pre++#[.func (.yield (w.heap.size+1)) #[] #[]]++lb)) W1:=by
  simp[invoke,go_sem,eg]
 refine⟨_,_,_,_,_,_,_,_,r1,r2,?_,r3,?_,?_⟩
 ·intro f' _;trivial
 ·intro h;cases h
 ·exact h1
theorem Qy{m n:Nat}{P:Aa6}{rc:Loop}{fn:FuncId}{tmps:Array Value}{ps:Array Tmp}{assign body:Code}{D l:Nat}{W:Aa4}{args:Array Value}{R:Ending->Aa4->Prop}
 (gP:Hid (rc=yD fn tmps ps assign body D))(hl:W.heap[l]?=some (.loop rc))(NU:args.size=ps.size)
 (h:assign.wpIn (Ag3.inRound l) n P (Exit.then (fun bB aa=>∃aq,(Instr.beginRound l).run P aa=.ok () aq/\body.wpIn (Ag3.inRound l) n P (roundPost P l R) bB aq) (fun _ _ _=>False))
   {tmps:=(ps.zip args).foldl (fun t (p,v)=>t.setIfInBounds p v) tmps,defers:=[]} W):YieldAt Ag3 m P l args W R:=by
 rw[gP.out] at hl;refine⟨fn,_,assign,body,run_yield hl NU,?_⟩
 have:=roundIn_of_wpIn (F:=Ag3) (l:=l) (f:=fn) (R:=R) trivial h;exact⟨trivial,fun c cs _=>this.2 c cs (room_wide _)⟩
theorem LA{P:Aa6}{rc:Loop}{fn:FuncId}{tmps:Array Value}{ps:Array Tmp}{assign body:Code}{D l:Nat}{W:Aa4}(gP:Hid (rc=yD fn tmps ps assign body D))(hl:W.heap[l]?=some (.loop rc)):
 (Instr.beginRound l).run P W=.ok () (W.putObj l (.loop {rc with state:=.busy})):=run_beginRound hl (by rw[gP.out];rfl)
theorem ajP{P:Aa6}{rc:Loop}{fn:FuncId}{tmps:Array Value}{ps:Array Tmp}{assign body:Code}{D l:Nat}{W:Aa4}(gP:Hid (rc=yD fn tmps ps assign body D))(hl:W.heap[l]?=some (.loop {rc with state:=.busy})):
 (Instr.endRound l none).run P W=.ok (.bool true) (W.putObj l (.loop rc)):=by
 rw[run_endRound none hl,gP.out];rfl
theorem L7{P:Aa6}{rc:Loop}{fn:FuncId}{tmps:Array Value}{ps:Array Tmp}{assign body:Code}{D l:Nat}{W:Aa4}(gP:Hid (rc=yD fn tmps ps assign body D))(hl:W.heap[l]?=some (.loop rc)):
 (Instr.endLoop l).run P W=.ok none (W.putObj l (.loop {rc with state:=.exhausted})):=by
 rw[run_endLoop hl (by rw[gP.out];simp[yD]),gP.out];rfl
theorem SQ{P:Aa6}{rc:Loop}{l:Nat}{W:Aa4}(j:Code)(hl:W.heap[l]?=some (.loop {rc with state:=.busy})):
 (Instr.endRound l (some j)).run P W=.ok (.bool false) (W.putObj l (.loop {rc with state:=.done,pending:=some j})):=run_endRound (r:={rc with state:=.busy}) (some j) hl
theorem SW{P:Aa6}{rc:Loop}{l:Nat}{W:Aa4}{j:Code}(hl:W.heap[l]?=some (.loop {rc with state:=.done,pending:=some j})):
 (Instr.endLoop l).run P W=.ok (some j) (W.putObj l (.loop {rc with state:=.exhausted,pending:=some j})):=run_endLoop (r:={rc with state:=.done,pending:=some j}) hl (by simp)
end Go.Tw
namespace Go.Tw
variable [Go.Tw.aR]
open Go Go.Proofs Go.RowKit
attribute [local go_sem] ze zd Ag5
theorem agc:(prog.info? 128).map (fun i=>(i.zero,i.size,i.bytes))=some (some (.agg #[.int .i64 0,.int .i64 0,.int .i64 0]),3,24):=by
 rw[pB];kernel_rfl
structure RB(w W Wb:Aa4)(rc:Loop)(v:Value)(n:an)(out:List an):Prop where
 size:Wb.heap.size=W.heap.size+1
 l:Wb.heap[w.heap.size+3]?=some (.loop {rc with state:=.busy})
 o:Bk Wb (w.heap.size+1) 115 #[v]
 own:Wb.ownsRow (w.heap.size+8) 128 3 v out.length (out.flatMap an.vs)
 nb:Bk Wb W.heap.size 128 n.cs
 old:∀g,g<W.heap.size->g≠w.heap.size+3->Wb.heap[g]?=W.heap[g]?
 below:Below w.heap.size w Wb
theorem RB.mk'{w:Aa4}{b:ao}{pv bv tv:Value}{rc:Loop}{m n:an}{out:List an}{W:Aa4}(h:AI w b pv bv tv rc m out W):
 ∃v,RB w W ((W.alloc (.cells n.cs 128)).putObj (w.heap.size+3) (.loop {rc with state:=.busy})) rc v n out:=by
 obtain⟨v,v1,v2⟩:=h.o;have hx:=h.x.lt;refine⟨v,⟨by simp,Ahc (by simp;omega),?_,?_,?_,fun g hg aw=>?_,?_⟩⟩
 ·exact(Ahd (by omega)).trans (v1.alloc _)
 ·refine⟨v2.1,?_⟩
  rcases v2.2 with h0| ⟨g,cap,cur,h1,h2,h3,h4⟩
  ·exact .inl h0
  ·exact .inr ⟨g,cap,cur,h1,h2,(Ahd (by omega)).trans (mm h3),h4⟩
 ·exact(Ahd (by omega)).trans (Bk.new W _ _)
 ·exact(Ahd (by omega)).trans (Ag9 _ _ _ hg)
 ·exact(h.below.alloc (by omega) _).grown (Agz _ _ _) (by simp;omega) (fun k hk=>by cases hk;omega)
theorem j8{w:Aa4}{base:Nat}{e:Aa1}{sz n:Nat}{v:Value}{xs:List Value}(h:w.ownsRow base e sz v n xs):∃A m c,v=.slice A m c:=by
 rcases h.2 with⟨rfl,_⟩ | ⟨g,cap,cur,rfl,_⟩
 ·exact⟨_,_,_,rfl⟩
 ·exact⟨_,_,_,rfl⟩
theorem RB.later{w W Wb W4:Aa4}{rc:Loop}{v:Value}{n:an}{out:List an}{o:Obj}(r:RB w W Wb rc v n out)(hs:w.heap.size+8<=W.heap.size)(hg:(Wb.alloc o).grownBy W4 v.ownBlock):
 Bk W4 (w.heap.size+1) 115 #[v]/\W4.heap[w.heap.size+3]?=some (.loop {rc with state:=.busy}):=by
 have ob:∀k,v.ownBlock=some k->w.heap.size+8<=k:=ei r.own
 have e4:∀g,g<w.heap.size+8->W4.heap[g]?=Wb.heap[g]?:=fun g oy=>(hg.block g (by simp[r.size];omega) (fun e=>by have:=ob g e.symm;omega)).trans (Ag9 _ _ _ (by rw[r.size];omega))
 exact⟨(e4 _ (by omega)).trans r.o,(e4 _ (by omega)).trans r.l⟩
theorem EK{w:Aa4}{base:Nat}{e:Aa1}{sz n g':Nat}{v:Value}{xs:List Value}{o:Obj}(h:w.ownsRow base e sz v n xs)(hg:g'<base):(w.putObj g' o).ownsRow base e sz v n xs:=by
 refine⟨h.1,?_⟩
 rcases h.2 with h0| ⟨g,cap,cur,h1,h2,h3,h4⟩
 ·exact .inl h0
 ·exact .inr ⟨g,cap,cur,h1,h2,(Ahd (by omega)).trans h3,h4⟩
theorem _root_.Go.World.ownsRow.base{w:Aa4}{base sV:Nat}{e:Aa1}{sz n:Nat}{v:Value}{xs:List Value}(h:w.ownsRow base e sz v n xs)(hb:sV<=base):w.ownsRow sV e sz v n xs:=by
 refine⟨h.1,?_⟩
 rcases h.2 with h0| ⟨g,cap,cur,h1,h2,h3,h4⟩
 ·exact .inl h0
 ·exact .inr ⟨g,cap,cur,h1,by omega,h3,h4⟩
theorem RB.done{w:Aa4}{b:ao}{pv bv tv:Value}{rc:Loop}{n:an}{out:List an}{W Wb W4:Aa4}{v v':Value}{o:Obj}(h:AI w b pv bv tv rc n out W)(r:RB w W Wb rc v n out)
 (aG:W4.ownsRow (w.heap.size+8) 128 3 v' (out.length+1) (out.flatMap an.vs++n.vs))(hg:(Wb.alloc o).grownBy W4 v.ownBlock):
 AI w b pv bv tv rc n (out++ [n]) ((W4.setCell ⟨w.heap.size+1,0,none⟩ v').putObj (w.heap.size+3) (.loop rc)):=by
 have hx:=h.x.lt;have ob:∀k,v.ownBlock=some k->w.heap.size+8<=k:=ei r.own
 have ob':∀k,v'.ownBlock=some k->w.heap.size+8<=k:=ei aG
 have e4:∀g,g<w.heap.size+8->W4.heap[g]?=Wb.heap[g]?:=fun g oy=>(hg.block g (by simp[r.size];omega) (fun e=>by have:=ob g e.symm;omega)).trans (Ag9 _ _ _ (by rw[r.size];omega))
 have e6:∀g,g<w.heap.size+8->g≠w.heap.size+3->g≠w.heap.size+1->((W4.setCell ⟨w.heap.size+1,0,none⟩ v').putObj (w.heap.size+3) (.loop rc)).heap[g]?=W.heap[g]?:=fun g oy h3 h1=>
  (Ahd h3).trans ((Ag8 _ _ _ _ (by simpa using h1)).trans ((e4 g oy).trans (r.old g (by omega) h3)))
 have tK:w.heap.size+8<=W4.heap.size:=by have:=hg.size;simp[r.size] at this;omega
 refine⟨(e6 _ (by omega) (by omega) (by omega)).trans h.p,(e6 _ (by omega) (by omega) (by omega)).trans h.y,(e6 _ (by omega) (by omega) (by omega)).trans h.n,(e6 _ (by omega) (by omega) (by omega)).trans h.x,
  ⟨v',?_,?_⟩,(e6 _ (by omega) (by omega) (by omega)).trans h.d,Ahc (by simp[Ac0];omega),?_⟩
 ·have h4:Bk W4 (w.heap.size+1) 115 #[v]:=(e4 _ (by omega)).trans r.o
  exact(Ahd (by omega)).trans (h4.set 0 v')
 ·have e:(out++ [n]).length=out.length+1:=by simp
  rw[e,Aho,Ahr];refine⟨aG.1,?_⟩
  rcases aG.2 with h0| ⟨g,cap,cur,h1,h2,h3,h4⟩
  ·exact .inl h0
  ·exact .inr ⟨g,cap,cur,h1,h2,(Ahd (by omega)).trans ((Ag8 _ _ _ _ (by simp;omega)).trans h3),h4⟩
 ·refine Below.grown (w:=W4.setCell ⟨w.heap.size+1,0,none⟩ v') ?_ (Agz _ _ _) (by simp[Ac0];omega) (fun k hk=>by cases hk;omega)
  refine Aha ?_ (by simp) _
  exact Below.grown (r.below.alloc (by rw[r.size];omega) _) hg (by simp[r.size];omega) (fun k hk=>by have:=ob k hk;omega)
theorem Zi{w:Aa4}{b:ao}{pv bv tv:Value}{B:Nat}(hB:B<=w.heap.size)(ai:bg w B b pv bv tv)(dh:zz b)(nI:∀p∈b.pieces,0<=p.len.lo/\p.len.hi<=1000)(h3:b.pieces.length<=3)(hK:(aD b).length<=1000):
 Af1 prog 96 #[.agg #[.int .i64 b.ag,pv,bv,tv]] w fun e w'=>∃v,e=.returned v/\w'.ownsRow w.heap.size 128 3 v (aD b).length ((aD b).flatMap an.vs)/\Below w.heap.size w w':=by
 refine(callsIn_wide (n:=0)).1 ?_
 have bT:=Af3 ai;obtain⟨A1,n1,c1,rfl,-⟩:=ai.pieces.open_;obtain⟨A2,n2,c2,rfl,-⟩:=ai.aF.open_;obtain⟨A3,n3,c3,rfl,-⟩:=ai.aJ.open_;clear ai;obtain⟨i0,cR,cT,aN,ba⟩:=Agw agc;have bI:=Af3 (Afx cR (Afx cT (Afx aN ba)));clear cR cT aN ba;refine callsIn_of_wp_marks func96 rfl trivial ?_
 simp only[Tryz.ntmps96,Ahg,Ahh,Ahi,Ahs,Aht,Agt,Agu,Ahj,Ahk,Ahl,Ahm]
 gi_wp2
 refine Pr (gf:=162) (pre:=#[.agg #[.int .i64 b.ag,.slice A1 n1 c1,.slice A2 n2 c2,.slice A3 n3 c3]]) (lb:=#[]) rfl call162 fun fn rc gP=>?_
 simp only[World.size_alloc,Nat.add_assoc,Ahs,Ahk,Ahm,Ahl,List.append_nil];refine(ZM (w:=w) hB bT.out dh nI h3 hK (rec:=rc) ?yround (by simp) (((Bk.cG (by simp) _ _).alloc _).alloc _) (mm (uI (by simp))) (uI (by simp)) (((((Af6 _ _).alloc (Ac2 _) _).alloc (by simp) _).alloc (by simp;omega) _).alloc (by simp;omega) _) _).mono ?_
 case yround=>
  intro m n out W hlen hI;have HI:=Af3 hI;refine Qy (n:=0) gP hI.l rfl ?_
  clear hI;simp only[List.zip_toArray,List.zip_cons_cons,List.zip_nil_right,List.foldl_toArray,List.foldl_cons,List.foldl_nil];obtain⟨na,nb,nc⟩:=n;simp only[an.cs]
  gi_wp2
  obtain⟨v,mF⟩:=RB.mk' (n:=⟨na,nb,nc⟩) HI.out;refine⟨_,LA gP (mm HI.out.l),?_⟩
  obtain⟨Wb,qe⟩:∃Wb,Wb=(W.alloc (Af4 #[Value.int Ack na,Value.int Ack nb,Value.int Ack nc] 128)).putObj (w.heap.size+3) (.loop {rc with state:=.busy}):=⟨_,rfl⟩
  replace mF:RB w W Wb rc v ⟨na,nb,nc⟩ out:=by rw[qe];exact mF
  rw[<-qe];clear qe;have HR:=Af3 mF;have b0: Wb.cell? ⟨w.heap.size+1,0,none⟩=some v:=mF.o.cell 0;have z0:=mF.o.frozen 0;have c0: Wb.cell? ⟨W.heap.size,0,none⟩=some (.int .i64 na):=mF.nb.cell 0;have c1: Wb.cell? ⟨W.heap.size,1,none⟩=some (.int .i64 nb):=mF.nb.cell 1;have c2: Wb.cell? ⟨W.heap.size,2,none⟩=some (.int .i64 nc):=mF.nb.cell 2;clear mF
  gi_wp2_with (first
   | (gi_at_builtin
      refine wpListIn_append_own _ rfl (.tmp 8) (.tmp 10) 115 rfl (w.heap.size+8) 128 i0 (.agg #[.int .i64 0,.int .i64 0,.int .i64 0]) 3 24 (U Tryz.underlying115) bI.out.1 bI.out.2.1 bI.out.2.2.1 bI.out.2.2.2 rfl (by decide) _ out.length _ rfl (HR.out.own.alloc _) ⟨Wb.heap.size,0,none⟩ 1 1 [.int .i64 na,.int .i64 nb,.int .i64 nc] rfl rfl ?c1 ?c2 ?c3 ?c4 ?c5 ?_
      case c1=>(intro j u hu;match j,hu with|0,hu=>(simp at hu;subst hu;simp[go_sem,Ag2]) |1,hu=>(simp at hu;subst hu;simp[go_sem,Ag2]) |2,hu=>(simp at hu;subst hu;simp[go_sem,Ag2]))
      case c2=>simp[Value.oneCell']
      case c3=>(simp only[Af0];omega)
      case c4=>omega
      case c5=>(have:=HR.out.size;have:=HI.out.x.lt;simp;omega)
      intro v' w1 cK dT _;obtain⟨A9,m9,c9,rfl⟩:=j8 cK;have HL:=Af3 (HR.out.later (by have:=HI.out.x.lt;omega) dT)
      have s0: w1.cell? ⟨w.heap.size+1,0,none⟩=some v:=HL.out.1.cell 0;have s1:=HL.out.1.frozen 0;have gW:=Af3 cK;have gV:=Af3 dT;clear cK dT))
  refine⟨_,_,ajP gP ((Ag8 _ _ _ _ (by simp)).trans HL.out.2),rfl,?_⟩
  exact HR.out.done HI.out gW.out gV.out
 ·rintro e W2 ⟨⟨v,rfl⟩,n',hI⟩
  have HI:=Af3 hI;refine⟨none,_,L7 gP hI.l,?_⟩
  clear hI;obtain⟨v2,vC,AK⟩:=HI.out.o;obtain⟨A9,m9,c9,rfl⟩:=j8 AK;have HV:=Af3 AK;obtain⟨W3,iL⟩:∃W3,W3=W2.putObj (w.heap.size+3) (.loop {rc with state:=.exhausted}):=⟨_,rfl⟩
  have k1: W3.cell? ⟨w.heap.size+1,0,none⟩=some (.slice A9 m9 c9):=by rw[iL];exact Bk.cell (g:=w.heap.size+1) ((Ahd (by omega)).trans vC) 0
  have HD:Hid (W3.heap[w.heap.size+2]?=some (.deferred (some []))):=Af3 (by rw[iL];exact(Ahd (by omega)).trans HI.out.d)
  have HB:Hid (Below w.heap.size w W3):=Af3 (by rw[iL];exact HI.out.below.grown (Agz _ _ _) (by have:=HI.out.x.lt;omega) (fun k hk=>by cases hk;omega))
  have HO:Hid (W3.ownsRow (w.heap.size+8) 128 3 (.slice A9 m9 c9) (aD b).length ((aD b).flatMap an.vs)):=Af3 (by
   rw[iL];refine⟨HV.out.1,?_⟩
   rcases HV.out.2 with h0| ⟨g,cap,cur,h1,h2,h3,h4⟩
   ·exact .inl h0
   ·exact .inr ⟨g,cap,cur,h1,h2,(Ahd (by omega)).trans h3,h4⟩)
  rw[<-iL];clear iL vC AK
  gi_wp2
  refine⟨by simp,.inl ⟨_,_,rfl,Ag0 HD.out,?_⟩⟩
  refine⟨_,results_tmp rfl _ _ _,_,rfl,(EK HO.out (by omega)).base (by omega),HB.out.grown (Agz _ _ _) ?_ (fun k hk=>by cases hk;omega)⟩
  have:=HB.out.size;omega
end Go.Tw
namespace Go.Tw
variable [Go.Tw.aR]
open Go Go.Proofs Go.RowKit
theorem GL{α:Type}{f:α->List Value}{sz:Nat}(hf:∀x,(f x).length=sz):∀(l:List α) (i:Nat) (x:α) (j:Nat) (u:Value),l[i]?=some x->(f x)[j]?=some u->(l.flatMap f)[i * sz+j]?=some u
 | [],i,x,j,u,hi,_=>by simp at hi
 |a::l,0,x,j,u,hi,hu=>by
  simp at hi;subst hi;rw[Ahp,Nat.zero_mul,Nat.zero_add,List.getElem?_append_left (Agb.1 hu).1]
  exact hu
 |a::l,i+1,x,j,u,hi,hu=>by
  rw[Ahp,List.getElem?_append_right (by rw[hf,Ahu];omega),hf]
  have e:(i+1) * sz+j - sz=i * sz+j:=by rw[Ahu];omega
  rw[e];exact GL hf l i x j u (by simpa using hi) hu
theorem lu{α:Type}{w:Aa4}{base:Nat}{e:Aa1}{sz:Nat}{v:Value}{R:α->List Value->Prop}{f:α->List Value}{l:List α}(h:w.ownsRow base e sz v l.length (l.flatMap f))(hf:∀x,(f x).length=sz)(hR:∀x∈l,R x (f x)):
 Row w w.heap.size sz R v l:=by
 rcases h.2 with⟨rfl,h0⟩ | ⟨g,cap,cur,rfl,h2,h3,h4,h5,h6,h7⟩
 ·have:l=[]:=List.length_eq_zero_iff.1 h0
  subst this;exact Row.nil
 ·refine⟨some ⟨g,0,none⟩,cap,rfl,h4,h5,fun _=>⟨⟨g,0,none⟩,rfl,(Aaf.1 h3).1,fun i x hx=>⟨f x,hR x (Agg hx),hf x,fun j u hu=>?_⟩⟩⟩
  have al:j<sz:=by have:=(Agb.1 hu).1;rw[hf] at this;exact this
  have h8:=GL hf l i x j u hx hu;rw[<-h7,List.getElem?_take] at h8
  have qp:i * sz+j<l.length * sz:=by
   have qp:=(Agb.1 hx).1
   calc i * sz+j<i * sz+sz:=by omega
    _=(i+1) * sz:=by rw[Ahu];omega
    _<=l.length * sz:=Ahv _ qp
  rw[if_pos qp] at h8;have e:(⟨g,0,none⟩:Addr).add (i * sz+j)=⟨g,i * sz+j,none⟩:=by
   unfold Ag2;split
   ·rename_i h;rw[h]
   ·simp
  rw[e];exact(cell_of_row w g (i * sz+j) cur _ (0,0) h3).trans (by rw[<-Agv];exact h8)
theorem ahb{w:Aa4}{base:Nat}{v:Value}{l:List an}(h:w.ownsRow base 128 3 v l.length (l.flatMap an.vs)):Row w w.heap.size 3 an.R v l:=lu h (fun _=>rfl) fun _ _=>rfl
theorem RY{b:ao}(hw:∀p∈b.pieces,p.len.hi - p.len.lo<3):∀(f i:Nat) (n:an),(eu b f i n).length<=3 ^ f
 |0,i,n=>by unfold eu;split<;>simp
 |f+1,i,n=>by
  unfold eu;cases h:b.pieces[i]? with
  |none=>simp
  |some p=>
   have h1:=hw p (Agg h);have h2:(mR p.len).length<=3:=by rw[PZ];omega
   simp only;have key:∀l:List Int,(l.flatMap fun k=>eu b f (i+1) (n.set i k)).length<=l.length * 3 ^ f:=by
    intro l;induction l with
    |nil=>simp
    |cons a l ih=>
     rw[Ahp,Ahq,Ahh,Ahu,Nat.one_mul,Nat.add_comm];exact Nat.add_le_add ih (RY hw f (i+1) _)
   refine Ac3 (key _) ?_
   rw[Nat.pow_succ,Nat.mul_comm (3 ^ f)];exact Ahv _ h2
theorem Ct{b:ao}(hv:Valid b):(aD b).length<=27:=by
 refine Ac3 (RY (fun p hp=>(hv.piece p hp).wide) _ _ _) ?_
 exact Nat.pow_le_pow_right (n:=3) (by omega) hv.np.2
theorem mO{w:Aa4}{base:Nat}{e:Aa1}{sz n:Nat}{v u:Value}{p:Addr}{xs:List Value}(h:w.ownsRow base e sz v n xs)(hg:p.block<base):(w.setCell p u).ownsRow base e sz v n xs:=by
 refine⟨h.1,?_⟩
 rcases h.2 with h0| ⟨g,cap,cur,h1,h2,h3,h4⟩
 ·exact .inl h0
 ·exact .inr ⟨g,cap,cur,h1,h2,(Ag8 _ _ _ _ (by omega)).trans h3,h4⟩
def eZ(w:Aa4)(base:Nat)(v:Value)(l:List an):Prop:=w.ownsRow base 128 3 v l.length (l.flatMap an.vs)
theorem eZ.row{w:Aa4}{base:Nat}{v:Value}{l:List an}(h:eZ w base v l):Row w w.heap.size 3 an.R v l:=ahb h
theorem eZ.set{w:Aa4}{base:Nat}{v u:Value}{p:Addr}{l:List an}(h:eZ w base v l)(hp:p.block<base):eZ (w.setCell p u) base v l:=mO h hp
theorem eZ.alloc{w:Aa4}{base:Nat}{v:Value}{l:List an}(h:eZ w base v l)(o:Obj):eZ (w.alloc o) base v l:=World.ownsRow.alloc h o
theorem eZ.base{w:Aa4}{base sV:Nat}{v:Value}{l:List an}(h:eZ w base v l)(hb:sV<=base):eZ w sV v l:=World.ownsRow.base h hb
theorem all{w:Aa4}{b:ao}{pv bv tv:Value}{B:Nat}(hB:B<=w.heap.size)(ai:bg w B b pv bv tv)(hv:Valid b):
 Af1 prog 96 #[.agg #[.int .i64 b.ag,pv,bv,tv]] w fun e w'=>∃v,e=.returned v/\eZ w' w.heap.size v (aD b)/\Below w.heap.size w w':=
 (Zi hB ai hv.amb (fun p hp=>⟨by have:=(hv.piece p hp).lo;omega,by have:=(hv.piece p hp).hi;omega⟩) hv.np.2 (by have:=Ct hv;omega)).mono fun _ _ ⟨v,h1,h2,h3⟩=>⟨v,h1,h2,h3⟩
def cj(b:ao)(s:Int):Int:=if dF b≠0 then dF b else if s≠0 then s else if(aD b).length=0 then 9 else 0
def sK(b:ao)(pv bv tv:Value)(w:Aa4)(K:Nat)(lb:Array Value)(s:Int):Prop:=
 (∀args w,(callFunc K args).run prog w=.ok (.enter K args) w)/\(dF b=0->∀W:Aa4,Below w.heap.size w W->Af1 prog K (#[.agg #[.int .i64 b.ag,pv,bv,tv]]++lb) W fun e W'=>e=.returned (.int .i64 s)/\Below W.heap.size W W')
theorem ry{b:ao}{pv bv tv:Value}{w:Aa4}{B:Nat}(hb:bg w B b pv bv tv)(hB:B<=w.heap.size)(h:dF b=0):
 Af1 prog 68 #[.agg #[.int .i64 b.ag,pv,bv,tv]] w fun e w'=>e=.returned (.int .i64 0)/\Below w.heap.size w w':=by
 have:=LS hb hB;rwa[h] at this
theorem ajk{w:Aa4}{b:ao}{pv bv tv:Value}{B:Nat}{g:Value}(hB:B<=w.heap.size)(ai:bg w B b pv bv tv)(h0:dF b≠0):
 Af1 prog 98 #[.agg #[.int .i64 b.ag,pv,bv,tv],g] w fun e w'=>e=.returned (.tuple #[.agg #[.int .i64 0,.slice none 0 0,.slice none 0 0,.slice none 0 0,.slice none 0 0],.int .i64 (dF b)])/\Below w.heap.size w w':=by
 have bT:=Af3 ai;obtain⟨A1,n1,c1,rfl,-⟩:=ai.pieces.open_;obtain⟨A2,n2,c2,rfl,-⟩:=ai.aF.open_;obtain⟨A3,n3,c3,rfl,-⟩:=ai.aJ.open_;clear ai;go_enter func98,Tryz.ntmps98;go_wp2_with (first
  | (go_at_call 68;refine(LS (bT.out.still ((((Still.refl w).alloc hB _).alloc (by simp;omega) _))) (by simp;omega)).mono ?_;rintro e w1 ⟨rfl,ae⟩;obtain⟨ff,gM⟩:=fy ae rfl;have aY:=Af3 ae;clear ae))
 refine Ag1 (v:=.tuple #[.agg #[.int .i64 0,.slice none 0 0,.slice none 0 0,.slice none 0 0,.slice none 0 0],.int .i64 (dF b)]) (by simp[results,Tryz.results98,go_sem,ff,gM]) rfl ⟨rfl,?_⟩
 repeat refine Aha ?_ (by simp) _
 exact(((Af6 _ _).alloc (Ac2 _) _).alloc (by simp) _).trans (aY.out.mono (by simp;omega))
theorem ajl{w:Aa4}{b:ao}{pv bv tv:Value}{B K:Nat}{lb:Array Value}{s:Int}(hB:B<=w.heap.size)(ai:bg w B b pv bv tv)(hK:sK b pv bv tv w K lb s)(h0:dF b=0)(hs:s≠0):
 Af1 prog 98 #[.agg #[.int .i64 b.ag,pv,bv,tv],fv K lb] w fun e w'=>e=.returned (.tuple #[.agg #[.int .i64 0,.slice none 0 0,.slice none 0 0,.slice none 0 0,.slice none 0 0],.int .i64 s])/\Below w.heap.size w w':=by
 obtain⟨eg,hK⟩:=hK;have HK:=Af3 (hK h0);have bT:=Af3 ai;have H0:=Af3 h0;obtain⟨A1,n1,c1,rfl,-⟩:=ai.pieces.open_;obtain⟨A2,n2,c2,rfl,-⟩:=ai.aF.open_;obtain⟨A3,n3,c3,rfl,-⟩:=ai.aJ.open_;clear ai hK h0;go_enter func98,Tryz.ntmps98;go_wp2_with (first
  | (go_at_call 68;refine(ry (bT.out.still ((((Still.refl w).alloc hB _).alloc (by simp;omega) _))) (by simp;omega) H0.out).mono ?_;rintro e w1 ⟨rfl,ae⟩
     have aN:w.heap.size+2<=w1.heap.size:=by have:=ae.size;simpa using this
     have k1:Hid (Bk w1 (w.heap.size+1) 122 #[.int .i64 0,.slice none 0 0,.slice none 0 0,.slice none 0 0,.slice none 0 0]):=Af3 ((Bk.cG (by simp) _ _).below ae (by simp))
     have kb:Bk w1 w.heap.size 26 #[.int .i64 b.ag,.slice A1 n1 c1,.slice A2 n2 c2,.slice A3 n3 c3]:=((Bk.new w _ _).alloc _).below ae (by simp;omega)
     have b0:=kb.cell 0;have b1:=kb.cell 1;have b2:=kb.cell 2;have b3:=kb.cell 3;clear kb;have aY:Hid (Below w.heap.size w w1):=Af3 ((((Af6 _ _).alloc (Ac2 _) _).alloc (by simp) _).trans (ae.mono (by simp;omega)));clear ae))
 refine(HK.out _ (aY.out.alloc (by omega) _)).mono ?_
 rintro e w2 ⟨rfl,ak⟩;have k2:Bk w2 (w.heap.size+1) 122 #[.int .i64 0,.slice none 0 0,.slice none 0 0,.slice none 0 0,.slice none 0 0]:=(k1.out.alloc _).below ak (by simp;omega)
 have dV:=Af3 (cU aY.out ak (by omega))
 have r0:=k2.cell 0;have r1:=k2.cell 1;have r2:=k2.cell 2;have r3:=k2.cell 3;have r4:=k2.cell 4;have z0:=k2.frozen 0;have z1:=k2.frozen 1;have z2:=k2.frozen 2;have z3:=k2.frozen 3;have z4:=k2.frozen 4;clear ak k2;go_wp2;refine Ag1 (v:=.tuple #[.agg #[.int .i64 0,.slice none 0 0,.slice none 0 0,.slice none 0 0,.slice none 0 0],.int .i64 s]) (by simp[results,Tryz.results98,go_sem,r0,r1,r2,r3,r4]) rfl ⟨rfl,?_⟩
 repeat refine Aha ?_ (by simp) _
 exact dV.out
theorem ajm{w:Aa4}{b:ao}{pv bv tv:Value}{B K:Nat}{lb:Array Value}(hB:B<=w.heap.size)(ai:bg w B b pv bv tv)(hK:sK b pv bv tv w K lb 0)(h0:dF b=0)(ha:(aD b).length=0):
 Af1 prog 98 #[.agg #[.int .i64 b.ag,pv,bv,tv],fv K lb] w fun e w'=>e=.returned (.tuple #[.agg #[.int .i64 0,.slice none 0 0,.slice none 0 0,.slice none 0 0,.slice none 0 0],.int .i64 9])/\Below w.heap.size w w':=by
 obtain⟨eg,hK⟩:=hK;have HK:=Af3 (hK h0);have bT:=Af3 ai;have H0:=Af3 h0;have HA:=Af3 ha;obtain⟨A1,n1,c1,rfl,-⟩:=ai.pieces.open_;obtain⟨A2,n2,c2,rfl,-⟩:=ai.aF.open_;obtain⟨A3,n3,c3,rfl,-⟩:=ai.aJ.open_;clear ai hK h0 ha;go_enter func98,Tryz.ntmps98;go_wp2_with (first
  | (go_at_call 68;refine(ry (bT.out.still ((((Still.refl w).alloc hB _).alloc (by simp;omega) _))) (by simp;omega) H0.out).mono ?_;rintro e w1 ⟨rfl,ae⟩
     have aN:w.heap.size+2<=w1.heap.size:=by have:=ae.size;simpa using this
     have k1:Hid (Bk w1 (w.heap.size+1) 122 #[.int .i64 0,.slice none 0 0,.slice none 0 0,.slice none 0 0,.slice none 0 0]):=Af3 ((Bk.cG (by simp) _ _).below ae (by simp))
     have kb:Bk w1 w.heap.size 26 #[.int .i64 b.ag,.slice A1 n1 c1,.slice A2 n2 c2,.slice A3 n3 c3]:=((Bk.new w _ _).alloc _).below ae (by simp;omega)
     have b0:=kb.cell 0;have b1:=kb.cell 1;have b2:=kb.cell 2;have b3:=kb.cell 3;clear kb;have aY:Hid (Below w.heap.size w w1):=Af3 ((((Af6 _ _).alloc (Ac2 _) _).alloc (by simp) _).trans (ae.mono (by simp;omega)));clear ae))
 refine(HK.out _ (aY.out.alloc (by omega) _)).mono ?_
 rintro e w2 ⟨rfl,ak⟩;have k2:Hid (Bk w2 (w.heap.size+1) 122 #[.int .i64 0,.slice none 0 0,.slice none 0 0,.slice none 0 0,.slice none 0 0]):=Af3 ((k1.out.alloc _).below ak (by simp;omega))
 have l2:Hid (Bk w2 w1.heap.size 117 #[.int .i64 b.ag,.slice A1 n1 c1,.slice A2 n2 c2,.slice A3 n3 c3]):=Af3 ((Bk.new w1 _ _).below ak (by simp))
 have ba:w1.heap.size+1<=w2.heap.size:=by have:=ak.size;simpa using this
 have dV:=Af3 (cU aY.out ak (by omega))
 have q0:=l2.out.cell 0;have q1:=l2.out.cell 1;have q2:=l2.out.cell 2;have q3:=l2.out.cell 3;clear ak b0 b1 b2 b3;go_wp2_with (first
  | (go_at_call 96;refine(all (B:=B) (by omega) (bT.out.still (Still.aK dV.out hB)) (iy H0.out)).mono ?_;rintro e w3 ⟨v,rfl,eI,bD⟩
     have HR:=Af3 eI;obtain⟨A9,n9,c9,rfl,cY,-⟩:=eI.row.open_;have h9:((n9:Int)==0)=true:=(by have:=HA.out;simp;omega)
     have k3:Bk w3 (w.heap.size+1) 122 #[.int .i64 0,.slice none 0 0,.slice none 0 0,.slice none 0 0,.slice none 0 0]:=k2.out.below bD (by omega)
     have l3:Bk w3 w1.heap.size 117 #[.int .i64 b.ag,.slice A1 n1 c1,.slice A2 n2 c2,.slice A3 n3 c3]:=l2.out.below bD (by omega)
     have fw:=Af3 (chain dV.out bD (by omega))
     have q0:=l3.cell 0;have q1:=l3.cell 1;have q2:=l3.cell 2;have q3:=l3.cell 3;have r0:=k3.cell 0;have r1:=k3.cell 1;have r2:=k3.cell 2;have r3:=k3.cell 3;have r4:=k3.cell 4;have z0:=k3.frozen 0;have z1:=k3.frozen 1;have z2:=k3.frozen 2;have z3:=k3.frozen 3;have z4:=k3.frozen 4;have jB:Hid (w1.heap.size<=w3.heap.size):=Af3 (by have:=bD.size;omega)
     clear bD k3 l3 eI cY))
 refine Ag1 (v:=.tuple #[.agg #[.int .i64 0,.slice none 0 0,.slice none 0 0,.slice none 0 0,.slice none 0 0],.int .i64 9]) (by simp[results,Tryz.results98,go_sem,r0,r1,r2,r3,r4]) rfl ⟨rfl,?_⟩
 repeat refine Aha ?_ (by simp) _
 exact fw.out
theorem ajo{w:Aa4}{b:ao}{pv bv tv:Value}{B K:Nat}{lb:Array Value}(hB:B<=w.heap.size)(ai:bg w B b pv bv tv)(hK:sK b pv bv tv w K lb 0)(h0:dF b=0)(ha:(aD b).length≠0):
 Af1 prog 98 #[.agg #[.int .i64 b.ag,pv,bv,tv],fv K lb] w fun e w'=>∃sv,e=.returned (.tuple #[.agg #[.int .i64 b.ag,pv,bv,tv,sv],.int .i64 0])/\eZ w' w.heap.size sv (aD b)/\Below w.heap.size w w':=by
 obtain⟨eg,hK⟩:=hK;have HK:=Af3 (hK h0);have bT:=Af3 ai;have H0:=Af3 h0;have HA:=Af3 ha;obtain⟨A1,n1,c1,rfl,-⟩:=ai.pieces.open_;obtain⟨A2,n2,c2,rfl,-⟩:=ai.aF.open_;obtain⟨A3,n3,c3,rfl,-⟩:=ai.aJ.open_;clear ai hK h0 ha;go_enter func98,Tryz.ntmps98;go_wp2_with (first
  | (go_at_call 68;refine(ry (bT.out.still ((((Still.refl w).alloc hB _).alloc (by simp;omega) _))) (by simp;omega) H0.out).mono ?_;rintro e w1 ⟨rfl,ae⟩
     have aN:w.heap.size+2<=w1.heap.size:=by have:=ae.size;simpa using this
     have k1:Hid (Bk w1 (w.heap.size+1) 122 #[.int .i64 0,.slice none 0 0,.slice none 0 0,.slice none 0 0,.slice none 0 0]):=Af3 ((Bk.cG (by simp) _ _).below ae (by simp))
     have kb:Bk w1 w.heap.size 26 #[.int .i64 b.ag,.slice A1 n1 c1,.slice A2 n2 c2,.slice A3 n3 c3]:=((Bk.new w _ _).alloc _).below ae (by simp;omega)
     have b0:=kb.cell 0;have b1:=kb.cell 1;have b2:=kb.cell 2;have b3:=kb.cell 3;clear kb;have aY:Hid (Below w.heap.size w w1):=Af3 ((((Af6 _ _).alloc (Ac2 _) _).alloc (by simp) _).trans (ae.mono (by simp;omega)));clear ae))
 refine(HK.out _ (aY.out.alloc (by omega) _)).mono ?_
 rintro e w2 ⟨rfl,ak⟩;have k2:Hid (Bk w2 (w.heap.size+1) 122 #[.int .i64 0,.slice none 0 0,.slice none 0 0,.slice none 0 0,.slice none 0 0]):=Af3 ((k1.out.alloc _).below ak (by simp;omega))
 have l2:Hid (Bk w2 w1.heap.size 117 #[.int .i64 b.ag,.slice A1 n1 c1,.slice A2 n2 c2,.slice A3 n3 c3]):=Af3 ((Bk.new w1 _ _).below ak (by simp))
 have ba:w1.heap.size+1<=w2.heap.size:=by have:=ak.size;simpa using this
 have dV:=Af3 (cU aY.out ak (by omega))
 have q0:=l2.out.cell 0;have q1:=l2.out.cell 1;have q2:=l2.out.cell 2;have q3:=l2.out.cell 3;clear ak b0 b1 b2 b3;go_wp2_with (first
  | (go_at_call 96;refine(all (B:=B) (by omega) (bT.out.still (Still.aK dV.out hB)) (iy H0.out)).mono ?_;rintro e w3 ⟨v,rfl,eI,bD⟩
     have HR:=Af3 eI;obtain⟨A9,n9,c9,rfl,cY,-⟩:=eI.row.open_;have h9:((n9:Int)==0)=false:=(by have:=HA.out;simp;omega)
     have k3:Bk w3 (w.heap.size+1) 122 #[.int .i64 0,.slice none 0 0,.slice none 0 0,.slice none 0 0,.slice none 0 0]:=k2.out.below bD (by omega)
     have l3:Bk w3 w1.heap.size 117 #[.int .i64 b.ag,.slice A1 n1 c1,.slice A2 n2 c2,.slice A3 n3 c3]:=l2.out.below bD (by omega)
     have fw:=Af3 (chain dV.out bD (by omega))
     have q0:=l3.cell 0;have q1:=l3.cell 1;have q2:=l3.cell 2;have q3:=l3.cell 3;have r0:=k3.cell 0;have r1:=k3.cell 1;have r2:=k3.cell 2;have r3:=k3.cell 3;have r4:=k3.cell 4;have z0:=k3.frozen 0;have z1:=k3.frozen 1;have z2:=k3.frozen 2;have z3:=k3.frozen 3;have z4:=k3.frozen 4;have jB:Hid (w1.heap.size<=w3.heap.size):=Af3 (by have:=bD.size;omega)
     clear bD k3 l3 eI cY))
 refine Ag1 (v:=.tuple #[.agg #[.int .i64 b.ag,.slice A1 n1 c1,.slice A2 n2 c2,.slice A3 n3 c3,.slice A9 n9 c9],.int .i64 0]) (by simp[results,Tryz.results98,go_sem,r0,r1,r2,r3,r4]) rfl ⟨_,rfl,?_,?_⟩
 ·refine eZ.base (base:=w2.heap.size) ?_ (by omega)
  repeat refine eZ.set ?_ (by simp;omega)
  exact HR.out
 ·repeat refine Aha ?_ (by simp) _
  exact fw.out
theorem pq{b:ao}{s:Int}(h:cj b s=0):dF b=0/\s=0/\(aD b).length≠0:=by
 unfold cj at h;split at h
 ·contradiction
 ·rename_i h1
  split at h
  ·contradiction
  ·rename_i h2
   split at h
   ·omega
   ·rename_i h3;exact⟨by simpa using h1,by simpa using h2,h3⟩
theorem ajn{w:Aa4}{b:ao}{pv bv tv:Value}{B K:Nat}{lb:Array Value}{s:Int}(hB:B<=w.heap.size)(ai:bg w B b pv bv tv)(hK:sK b pv bv tv w K lb s)(h:cj b s≠0):
 Af1 prog 98 #[.agg #[.int .i64 b.ag,pv,bv,tv],fv K lb] w fun e w'=>e=.returned (.tuple #[.agg #[.int .i64 0,.slice none 0 0,.slice none 0 0,.slice none 0 0,.slice none 0 0],.int .i64 (cj b s)])/\Below w.heap.size w w':=by
 by_cases h1:dF b=0
 ·by_cases h2:s=0
  ·subst h2
   have h3:(aD b).length=0:=by
    apply Classical.byContradiction;intro h3
    exact h (by unfold cj;rw[if_neg (by simpa using h1),if_neg (by simp),if_neg h3])
   have e:cj b 0=9:=by unfold cj;rw[if_neg (by simpa using h1),if_neg (by simp),if_pos h3]
   rw[e];exact ajm hB ai hK h1 h3
  ·have e:cj b s=s:=by unfold cj;rw[if_neg (by simpa using h1),if_pos h2]
   rw[e];exact ajl hB ai hK h1 h2
 ·have e:cj b s=dF b:=by unfold cj;rw[if_pos h1]
  rw[e];exact ajk hB ai h1
theorem yL{w:Aa4}{b:ao}{pv bv tv:Value}{B K:Nat}{lb:Array Value}{s:Int}(hB:B<=w.heap.size)(ai:bg w B b pv bv tv)(hK:sK b pv bv tv w K lb s)(h:cj b s=0):
 Af1 prog 98 #[.agg #[.int .i64 b.ag,pv,bv,tv],fv K lb] w fun e w'=>∃sv,e=.returned (.tuple #[.agg #[.int .i64 b.ag,pv,bv,tv,sv],.int .i64 0])/\eZ w' w.heap.size sv (aD b)/\Below w.heap.size w w':=by
 obtain⟨h1,rfl,h3⟩:=pq h;exact ajo hB ai hK h1 h3
theorem I0{a b c d:Int}(h:a=c)(k:b=d):Ending.returned (.tuple #[.int .i64 a,.int .i64 b])=.returned (.tuple #[.int .i64 c,.int .i64 d]):=by rw[h,k]
def Gt(b:ao):Int:=if dF b≠0 then 0 else(aD b).length
theorem ZL{w:Aa4}{b:ao}{pv bv tv:Value}{B:Nat}(hB:B<=w.heap.size)(ai:bg w B b pv bv tv):
 Af1 prog 22 #[.agg #[.int .i64 b.ag,pv,bv,tv]] w fun e w'=>e=.returned (.tuple #[.int .i64 (Gt b),.int .i64 (dF b)])/\Below w.heap.size w w':=by
 have bT:=Af3 ai;obtain⟨A1,n1,c1,rfl,-⟩:=ai.pieces.open_;obtain⟨A2,n2,c2,rfl,-⟩:=ai.aF.open_;obtain⟨A3,n3,c3,rfl,-⟩:=ai.aJ.open_;clear ai;by_cases h0:dF b=0
 ·have H0:=Af3 h0
  clear h0;go_enter func22,Tryz.ntmps22;go_wp2_with (first
   | (go_at_call 68;refine(ry (bT.out.still ((Still.refl w).alloc hB _)) (by simp;omega) H0.out).mono ?_;rintro e w1 ⟨rfl,ae⟩
      have kb:Bk w1 w.heap.size 26 #[.int .i64 b.ag,.slice A1 n1 c1,.slice A2 n2 c2,.slice A3 n3 c3]:=(Bk.new w _ _).below ae (by simp)
      have b0:=kb.cell 0;have b1:=kb.cell 1;have b2:=kb.cell 2;have b3:=kb.cell 3;have aY:=Af3 (cU (Af6 _ _) ae (Ac2 _));clear kb ae)
   | (go_at_call 96;refine(all (B:=B) (by have:=aY.out.size;omega) (bT.out.still (Still.aK aY.out hB)) (iy H0.out)).mono ?_;rintro e w2 ⟨v,rfl,eI,ak⟩
      obtain⟨A9,n9,c9,rfl,cY,-⟩:=eI.row.open_;have HL:=Af3 cY;have dV:=Af3 (chain aY.out ak aY.out.size);clear ak eI cY))
  go_ret2
  exact⟨I0 (by unfold Gt;rw[if_neg (by simpa using H0.out),HL.out]) (by rw[H0.out]),dV.out⟩
 ·go_enter func22,Tryz.ntmps22
  go_wp2_with (first
   | (go_at_call 68;refine(LS (bT.out.still ((Still.refl w).alloc hB _)) (by simp;omega)).mono ?_;rintro e w1 ⟨rfl,ae⟩;have aY:=Af3 (cU (Af6 _ _) ae (Ac2 _));clear ae))
  go_ret2
  exact⟨I0 (by unfold Gt;rw[if_pos h0]) rfl,aY.out⟩
theorem lg(n lo hi:Int)(w:Aa4):Af1 prog 62 #[.int .i64 n,.int .i64 lo,.int .i64 hi] w fun e w'=>e=.returned (.bool (bX n lo hi))/\w=w':=by
 go_enter func62,Tryz.ntmps62;go_wp2;all_goals go_ret
 all_goals (refine⟨b9 ?_,rfl⟩;unfold bX;first| (simp;done) | (simp;omega))
def mV(a b lo hi:Int):Bool:=decide (lo<=a) && (decide (a<=b) && decide (b<=hi))
theorem within{a b lo hi:Int}(w:Aa4):Af1 prog 49 #[.agg #[.int .i64 a,.int .i64 b],.int .i64 lo,.int .i64 hi] w fun e w'=>e=.returned (.bool (mV a b lo hi))/\Below w.heap.size w w':=by
 go_enter func49,Tryz.ntmps49;go_wp2;all_goals go_ret
 all_goals (refine⟨b9 ?_,(Af6 _ _).alloc (Ac2 _) _⟩;unfold mV;first| (simp;done) | (simp;omega) | (simp[*];done) | (simp[*];omega))
theorem Bz(b:Bool)(s:Int)(w:Aa4):Af1 prog 104 #[.bool b,.int .i64 s] w fun e w'=>e=.returned (.int .i64 (if b then 0 else s))/\w=w':=by
 cases b;all_goals
  go_enter func104,Tryz.ntmps104;go_wp2;go_ret;exact⟨aX rfl,rfl⟩
theorem Ot{s k:Int}{A1 A2 A3:Option Addr}{n1 c1 n2 c2 n3 c3:Nat}(h:n2<=2 ^ 63 - 1)(w:Aa4):
 Af1 prog 129 #[.agg #[.int .i64 s,.slice A1 n1 c1,.slice A2 n2 c2,.slice A3 n3 c3],.int .i64 k] w fun e w'=>e=.returned (.bool (bX k 0 (n2 - 1)))/\Below w.heap.size w w':=by
 go_enter func129,Tryz.ntmps129;go_wp2_with (first
  | (go_at_call 62;refine(lg _ _ _ _).mono ?_;rintro e w' ⟨rfl,rfl⟩))
 go_ret;exact⟨b9 rfl,(Af6 _ _).alloc (Ac2 _) _⟩
end Go.Tw
namespace Go.Tw
variable [Go.Tw.aR]
open Go Go.Proofs Go.RowKit
end Go.Tw
namespace Go.Tw
variable [Go.Tw.aR]
open Go Go.Proofs Go.RowKit
section
variable (w:Aa4)(s:Int)(p q r:Value)(k f:Int)(nm:ByteArray)(aH:Int)(kv:Value)
end
end Go.Tw
namespace Go.Tw
variable [Go.Tw.aR]
open Go Go.Proofs Go.RowKit
end Go.Tw
namespace Go.Tw
variable [Go.Tw.aR]
open Go Go.Proofs Go.RowKit
theorem Sn{b:ao}{l:List Cut}{pv bv tv lv:Value}{w:Aa4}{B:Nat}(hb:bg w B b pv bv tv)(hl:Row w B 2 Cut.R lv l)(hB:B<=w.heap.size):
 Af1 prog 44 #[.agg #[.int .i64 b.ag,pv,bv,tv],lv] w fun e w'=>e=.returned (.int .i64 (ey b l))/\Below w.heap.size w w':=by
 obtain⟨A1,n1,c1,rfl,e1,h1,ez,-⟩:=hb.pieces.open_;obtain⟨A2,nb,c2,rfl,eb,h2,dW,-⟩:=hb.aF.open_;obtain⟨A3,n3,c3,rfl,-⟩:=hb.aJ.open_;obtain⟨A,m,c,rfl,e2,h3,rD,hr⟩:=hl.open_;unfold Af0 at ez dW rD;have E1:=Af3 e1;have EB:=Af3 eb;have E2:=Af3 e2;have H2:=Af3 hr;clear hb hl e1 eb e2 hr;by_cases fC:m=n1
 ·have hq:((m:Int) !=(n1:Int))=false:=by simp[fC]
  have HQ:=Af3 fC;clear fC;have Bz:ey b l=scan (fun _ c=>fO nb c) [] l:=by unfold ey;rw[E1.out,E2.out,EB.out,if_neg (by simp[HQ.out])]
  have SN:=Af3 Bz;clear Bz;go_enter func44,Tryz.ntmps44;go_wp2;go_loopw [4,5] (fun r k wr=>∃i:Nat,i<=m/\k=.int .i64 i/\(∀(j:Nat) (x:Cut),j<i->l[j]?=some x->fO nb x=0)/\Below (w.heap.size+1) (w.alloc (Af4 #[.int .i64 b.ag,.slice A1 n1 c1,.slice A2 nb c2,.slice A3 n3 c3] 26)) wr) (fun _ k _=>m - (Ag7 k).toNat)
  case atStart=>exact⟨0,Agm _,rfl,fun j _ hj=>by omega,Af6 _ _⟩
  case round=>
   obtain⟨i,hi,rfl,bt,hb⟩:=hrel;have HH:=Af3 (Afx bt hb);have dY:=hb.size;have aI:w.heap.size+1<=wr.heap.size:=by simpa using dY
   have o0: wr.cell? ⟨w.heap.size,0,none⟩=some (.int .i64 b.ag):=(hb.cell (p:=⟨w.heap.size,0,none⟩) (by simp)).trans (by simp[go_sem])
   have o1: wr.cell? ⟨w.heap.size,1,none⟩=some (.slice A1 n1 c1):=(hb.cell (p:=⟨w.heap.size,1,none⟩) (by simp)).trans (by simp[go_sem])
   have o2: wr.cell? ⟨w.heap.size,2,none⟩=some (.slice A2 nb c2):=(hb.cell (p:=⟨w.heap.size,2,none⟩) (by simp)).trans (by simp[go_sem])
   have o3: wr.cell? ⟨w.heap.size,3,none⟩=some (.slice A3 n3 c3):=(hb.cell (p:=⟨w.heap.size,3,none⟩) (by simp)).trans (by simp[go_sem])
   by_cases al:i<m
   ·obtain⟨ad,x,cs,rfl,aC,hx,rfl,-,au⟩:=H2.out i al
    have st:Still B w wr:=((Still.refl w).alloc hB _).trans (Still.aK hb (by omega))
    have h0:=cC au st aC rfl;have h1:=bK au st aC 0 rfl;have NA:(i:Int)<m:=by omega
    have q0:(ad.add (i * 2)).block<wr.heap.size:=by rw[cq];omega
    have HX:=Af3 hx;clear bt hb hx au st dY;have iC:=Af3 HH.out.2;have bad:∀s:Int,fO nb x=s->s≠0->s=ey b l:=fun s hs h0=>by
     rw[SN.out,sf (f:=fun _ c=>fO nb c) HX.out HH.out.1 (by rw[hs];exact h0),hs]
    have fG:=Af3 bad;clear bad;go_wp2;refine ua 6 (by kernel_rfl) (by kernel_rfl) ?_
    simp only[Agi,Agj,Agk,Agl];repeat still_step
    refine wpStill_nil ?_
    cases dI:bX x.bp 0 (nb - 1) with
    |false=>
     go_wp2_with (first
      | (go_at_call 129;refine(Ot (by omega) _).mono ?_;rintro e w1 ⟨rfl,ae⟩))
     go_ret;exact⟨aX (fG.out 6 (by unfold fO;rw[dI];rfl) (by omega)),iH (chain iC.out (iU ae) aI)⟩
    |true=>
     cases ld:bX x.from_ 0 40 with
     |false=>
      go_wp2_with (first
       | (go_at_call 129;refine(Ot (by omega) _).mono ?_;rintro e w1 ⟨rfl,ae⟩;obtain⟨ff,gM⟩:=fy (iU ae) rfl;have g1:=((iU ae).cell (p:=⟨(ad.add (i * 2)).block,(ad.add (i * 2)).off+(0+1),none⟩) q0).trans h1)
       | (go_at_call 62;refine(lg _ _ _ _).mono ?_;rintro e w' ⟨rfl,rfl⟩))
      go_ret;exact⟨aX (fG.out 1 (by unfold fO;rw[dI,ld];rfl) (by omega)),iH (chain iC.out (iU ae) aI)⟩
     |true=>
      go_wp2_with (first
       | (go_at_call 129;refine(Ot (by omega) _).mono ?_;rintro e w1 ⟨rfl,ae⟩;obtain⟨ff,gM⟩:=fy (iU ae) rfl;have g1:=((iU ae).cell (p:=⟨(ad.add (i * 2)).block,(ad.add (i * 2)).off+(0+1),none⟩) q0).trans h1)
       | (go_at_call 62;refine(lg _ _ _ _).mono ?_;rintro e w' ⟨rfl,rfl⟩))
      go_roundw;case rel=>exact⟨i+1,by omega,by go_num,fun j y hj hy=>by
       rcases Agn.1 hj with h|rfl
       ·exact HH.out.1 j y h hy
       ·rw[HX.out] at hy;cases hy;unfold fO;rw[dI,ld];rfl,chain iC.out (iU ae) aI⟩
      case measure=>simp[Ag7];omega
   ·obtain rfl:i=m:=by omega
    go_wp2;go_ret;refine⟨aX ?_,iH HH.out.2⟩
    rw[SN.out,se (f:=fun _ c=>fO nb c) (fun j x hj=>HH.out.1 j x (by have:=(Agb.1 hj).1;have:=E2.out;omega) hj)]
 ·have hq:((m:Int) !=(n1:Int))=true:=by simp;omega
  have HQ:=Af3 fC;clear fC;go_enter func44,Tryz.ntmps44;go_wp2;go_ret;exact⟨aX (by unfold ey;rw[E1.out,E2.out,if_pos HQ.out]),(Af6 _ _).alloc (Ac2 _) _⟩
def za(n m:Int):Int:=if n=0 then 2 else if n=m then 1 else 0
theorem Xa{α:Type}{f:α->Int}:∀(l dw:List α),scan (fun _ x=>f x) dw l=0->∀x∈l,f x=0
 | [],_,_,x,h=>by cases h
 |a::l,dw,h,x,hx=>by
  unfold scan at h;by_cases h0:f a≠0
  ·rw[if_pos h0] at h;exact absurd h h0
  ·rw[if_neg h0] at h
   rcases List.mem_cons.1 hx with rfl|hx
   ·simpa using h0
   ·exact Xa l _ h x hx
theorem abc{b:ao}{l:List Cut}(h:ey b l=0):l.length=b.pieces.length:=by
 unfold ey at h;split at h
 ·contradiction
 ·rename_i h1;simpa using h1
theorem GI{b:ao}(hv:Valid b){l:List Cut}(h:ey b l=0):Km b l:=by
 have hlen:=abc h;refine⟨hlen,hv.np.2,fun i c hc=>?_,⟨hv.ag.1,by have:=hv.ag.2;omega⟩⟩
 unfold ey at h;rw[if_neg (by simpa using hlen)] at h
 have h1:=Xa (f:=fO b.aF.length) l [] h c (Agg hc);unfold fO at h1;split at h1
 ·rename_i h2
  split at h1
  ·rename_i h3
   have a:=nJ h2;have d:=nJ h3;refine⟨⟨c.bp.toNat,by omega,by omega⟩,d⟩
  ·contradiction
 ·contradiction
theorem R6{b:ao}(hv:Valid b):∀(f i:Nat) (n:an),i+f=b.pieces.length->n.Ok->∀L∈eu b f i n,L.Ok
 |0,i,n,hi,hn,L,hL=>by
  unfold eu at hL;split at hL
  ·simp at hL;subst hL;exact hn
  ·simp at hL
 |f+1,i,n,hi,hn,L,hL=>by
  unfold eu at hL;cases h:b.pieces[i]? with
  |none=>rw[h] at hL;simp at hL
  |some p=>
   rw[h] at hL;simp only[List.mem_flatMap] at hL;obtain⟨k,hk,hL⟩:=hL;have hp:=hv.piece p (Agg h);have:=hv.np.2;simp only[mR,List.mem_map,List.mem_range] at hk;obtain⟨j,hj,rfl⟩:=hk;have:=hp.lo;have:=hp.hi;have:=hp.le
   exact R6 hv f (i+1) _ (by omega) (hn.set (by omega) (by omega) (by omega)) L hL
theorem uG{b:ao}(hv:Valid b):∀L∈aD b,L.Ok:=R6 hv _ _ _ (by omega) (fun q=>by unfold an.at;simp)
theorem Zo{b:ao}{l:List Cut}{pv bv tv lv:Value}{w:Aa4}{B g:Nat}(hB:B<=w.heap.size)(ai:bg w B b pv bv tv)(hl:Row w B 2 Cut.R lv l)(hg:Bk w g 27 #[lv]):sK b pv bv tv w 108 #[.pointer (some ⟨g,0,none⟩)] (ey b l):=by
 refine⟨call108,fun _ W hW=>?_⟩
 have k7:=hg.lt;have st:Still B w (W.alloc (.cells #[.int .i64 b.ag,pv,bv,tv] 117)):=(Still.aK hW hB).alloc (by have:=hW.size;omega) _
 have g0: W.cell? ⟨g,0,none⟩=some lv:=(hg.below hW k7).cell 0;have aB:=Af3 (LX (ai.still st) (hl.still st fun _ _ h=>h) (by have:=hW.size;simp;omega))
 have hz:g<W.heap.size:=by have:=hW.size;omega
 have Vs:g<=W.heap.size:=by omega
 obtain⟨A1,n1,c1,rfl,-⟩:=ai.pieces.open_;obtain⟨A2,n2,c2,rfl,-⟩:=ai.aF.open_;obtain⟨A3,n3,c3,rfl,-⟩:=ai.aJ.open_;obtain⟨A,n,c,rfl,-⟩:=hl.open_;clear ai hl hW hg st;refine app1 ?_
 go_enter func108,Tryz.ntmps108;go_wp2_with (first
  | (go_at_call 109;refine aB.out.mono ?_;rintro e w1 ⟨rfl,ae⟩))
 go_ret;exact⟨aX rfl,cU (Af6 _ _) ae (Ac2 _)⟩
def iI(p:an->Bool)(l:List an):Int:=(l.filter p).length
theorem aa3(p:an->Bool)(l:List an):0<=iI p l/\iI p l<=l.length:=by
 unfold iI;exact⟨by omega,by have:=Ahf p l;omega⟩
theorem SE(p:an->Bool)(l:List an)(x:an):iI p (l++ [x])=iI p l+if p x then 1 else 0:=by
 unfold iI;rw[List.filter_append];cases h:p x<;>simp[List.filter_cons,h]
def zP(b:ao)(l:List Cut):Int:=if cj b (ey b l)≠0 then 0 else za (iI (fun L=>fp b L l) (aD b)) (aD b).length
theorem L4{w:Aa4}{b:ao}{l:List Cut}{pv bv tv lv:Value}{B:Nat}(hB:B<=w.heap.size)(ai:bg w B b pv bv tv)(hl:Row w B 2 Cut.R lv l)(h:cj b (ey b l)=0):
 Af1 prog 28 #[.agg #[.int .i64 b.ag,pv,bv,tv],lv] w fun e w'=>e=.returned (.tuple #[.int .i64 (za (iI (fun L=>fp b L l) (aD b)) (aD b).length),.int .i64 0])/\Below w.heap.size w w':=by
 have st:Still B w ((w.alloc (.cells #[.int .i64 b.ag,pv,bv,tv] 26)).alloc (.cells #[lv] 27)):=((Still.refl w).alloc hB _).alloc (by simp;omega) _
 have aB:=Af3 (yL (w:=((w.alloc (.cells #[.int .i64 b.ag,pv,bv,tv] 26)).alloc (.cells #[lv] 27))) (B:=B) (by simp;omega) (ai.still st) (Zo (by simp;omega) (ai.still st) (hl.still st fun _ _ h=>h) (Bk.cG (g:=w.heap.size+1) (by simp) _ _)) h)
 have hz:=pq h;have hv:=iy hz.1;have OK:=Af3 (Afx (GI hv hz.2.1) (uG hv));have bT:=Af3 ai;have uB:=Af3 hl;have HV:=Af3 hv;obtain⟨A1,n1,c1,rfl,-⟩:=ai.pieces.open_;obtain⟨A2,n2,c2,rfl,-⟩:=ai.aF.open_;obtain⟨A3,n3,c3,rfl,-⟩:=ai.aJ.open_;obtain⟨A,n,c,rfl,-⟩:=hl.open_;clear ai hl st hz hv h;go_enter func28,Tryz.ntmps28;go_wp2_with (first
  | (go_at_call 98;refine aB.out.mono ?_;rintro e w1 ⟨sv,rfl,aG,ae⟩
     obtain⟨A9,n9,c9,rfl,cY,nG,eS,iN⟩:=aG.row.open_;have lF:=Af3 iN;have pO:=Af3 cY;have HO:=Af3 aG;have kb:Hid (Bk w1 w.heap.size 26 #[.int .i64 b.ag,.slice A1 n1 c1,.slice A2 n2 c2,.slice A3 n3 c3]):=Af3 (((Bk.new w _ _).alloc _).below ae (by simp;omega))
     have kl:Hid (Bk w1 (w.heap.size+1) 27 #[.slice A n c]):=Af3 ((Bk.cG (by simp) _ _).below ae (by simp))
     have aN:w.heap.size+2<=w1.heap.size:=by have:=ae.size;simpa using this
     have aY:Hid (Below w.heap.size w w1):=Af3 ((((Af6 _ _).alloc (Ac2 _) _).alloc (by simp) _).trans (ae.mono (by simp;omega)));clear ae aG cY iN))
 unfold Af0 at eS;go_loopw [8,23] (fun m k wr=>∃i:Nat,i<=n9/\k=.int .i64 i/\m=.int .i64 (iI (fun L=>fp b L l) ((aD b).take i))/\Hid (Below (w1.heap.size+1) (w1.alloc (.cells #[.int .i64 b.ag,.slice A1 n1 c1,.slice A2 n2 c2,.slice A3 n3 c3,.slice A9 n9 c9] 122)) wr)) (fun _ k _=>n9 - (Ag7 k).toNat)
 case atStart=>exact⟨0,Agm _,rfl,by simp[iI],Af3 (Af6 _ _)⟩
 case round=>
  obtain⟨i,hi,rfl,rfl,hb⟩:=hrel;have rV:w1.heap.size+1<=wr.heap.size:=by have:=hb.out.size;simpa using this
  have ux:Hid (Below w.heap.size w wr):=Af3 (aY.out.trans (((Af6 _ _).alloc (by omega) _).trans (hb.out.mono (by omega))))
  have nV:Hid (Below w1.heap.size w1 wr):=Af3 (((Af6 _ _).alloc (by omega) _).trans (hb.out.mono (by omega)))
  have kf:Bk wr w1.heap.size 122 #[.int .i64 b.ag,.slice A1 n1 c1,.slice A2 n2 c2,.slice A3 n3 c3,.slice A9 n9 c9]:=(Bk.new w1 _ _).below hb.out (by omega)
  have Ii:Bk wr (w.heap.size+1) 27 #[.slice A n c]:=kl.out.below nV.out (by omega)
  have f0:=kf.cell 0;have f1:=kf.cell 1;have f2:=kf.cell 2;have f3:=kf.cell 3;have f4:=kf.cell 4;have l0:=Ii.cell 0;have KH:=pO.out;have de:=aa3 (fun L=>fp b L l) ((aD b).take i)
  have fY:((aD b).take i).length<=i:=List.length_take_le _ _;have aec:0<=iI (fun L=>fp b L l) ((aD b).take i):=de.1
  have aed:iI (fun L=>fp b L l) ((aD b).take i)<=i:=by have:=de.2;omega
  clear kf Ii KH de fY;by_cases al:i<n9
  ·obtain⟨ad,x,cs,kX,aC,hx,rfl,-,au⟩:=lF.out i al
   subst kX;have st:Still w1.heap.size w1 wr:=Still.aK nV.out (Ac2 _);have g0:=cC au st aC rfl;have g1:=bK au st aC 0 rfl;have g2:=bK au st aC 1 rfl;have xD:(ad.add (i * 3)).block<wr.heap.size:=by rw[cq];omega
   have HX:=Af3 hx;have uf:Still B w (wr.alloc (.cells #[.int .i64 x.a,.int .i64 x.b,.int .i64 x.c] 128)):=(Still.aK ux.out hB).alloc (by omega) _
   have uv:=Af3 (L3 (w:=wr.alloc (.cells #[.int .i64 x.a,.int .i64 x.b,.int .i64 x.c] 128)) (B:=B) (L:=x) (bT.out.still uf) (uB.out.still uf fun _ _ h=>h) (by simp;omega) OK.out.1.len OK.out.1.three OK.out.1.kD (OK.out.2 x (Agg hx)) OK.out.1.ag)
   have a1:w.heap.size+1<wr.heap.size:=by omega
   have a2:w.heap.size+1<=wr.heap.size:=by omega
   have a3:w1.heap.size<wr.heap.size:=by omega
   have a4:w1.heap.size<=wr.heap.size:=by omega
   clear hx au st uf;cases hd:fp b x l with
   |false=>
    have NX:Hid (iI (fun L=>fp b L l) ((aD b).take i)=iI (fun L=>fp b L l) ((aD b).take (i+1))):=Af3 (by rw[oJ HX.out,SE,hd];simp)
    go_wp2_with (first
     | (go_at_call 110;refine uv.out.mono ?_;rintro e w2 ⟨rfl,ak⟩;have dV:=Af3 (cU hb.out ak (by omega));clear ak))
    go_roundw;case rel=>exact⟨i+1,by omega,by go_num,by rw[NX.out],dV⟩
    case measure=>simp[Ag7];omega
   |true=>
    have NX:Hid (iI (fun L=>fp b L l) ((aD b).take i)+1=iI (fun L=>fp b L l) ((aD b).take (i+1))):=Af3 (by rw[oJ HX.out,SE,hd];simp)
    go_wp2_with (first
     | (go_at_call 110;refine uv.out.mono ?_;rintro e w2 ⟨rfl,ak⟩;have dV:=Af3 (cU hb.out ak (by omega));clear ak))
    go_roundw;case rel=>exact⟨i+1,by omega,by go_num,by rw[<-NX.out],dV⟩
    case measure=>simp[Ag7];omega
  ·obtain rfl:i=n9:=by omega
   obtain⟨q,hq⟩:∃q,q=iI (fun L=>fp b L l) ((aD b).take i):=⟨_,rfl⟩
   have HQ:Hid (q=iI (fun L=>fp b L l) (aD b)):=Af3 (by rw[hq,Agf (Ago pO.out)])
   rw[<-hq] at aec aed |-
   clear hq;go_wp2;all_goals go_ret2
   all_goals (refine⟨I0 ?_ rfl,ux.out⟩;simp only[beq_iff_eq,beq_eq_false_iff_ne,ne_eq] at *;rw[<-HQ.out,pO.out];unfold za;first| (rw[if_pos (by omega)];done) | (rw[if_neg (by omega),if_pos (by omega)];done) | (rw[if_neg (by omega),if_neg (by omega)];done))
def Bh(b:ao)(k:Int):Int:=if bX k 0 (b.pieces.length - 1) then 0 else 6
theorem Zp{b:ao}{k:Int}{pv bv tv:Value}{w:Aa4}{B g:Nat}(hB:B<=w.heap.size)(ai:bg w B b pv bv tv)(hg:Bk w g 3 #[.int .i64 k]):sK b pv bv tv w 99 #[.pointer (some ⟨g,0,none⟩)] (Bh b k):=by
 refine⟨call99,fun _ W hW=>?_⟩
 have k7:=hg.lt;have g0: W.cell? ⟨g,0,none⟩=some (.int .i64 k):=(hg.below hW k7).cell 0;have hz:g<W.heap.size:=by have:=hW.size;omega
 have Vs:g<=W.heap.size:=by omega
 obtain⟨A1,n1,c1,rfl,e1,h1,ez,-⟩:=ai.pieces.open_;obtain⟨A2,n2,c2,rfl,-⟩:=ai.aF.open_;obtain⟨A3,n3,c3,rfl,-⟩:=ai.aJ.open_;unfold Af0 at ez;have call:∀w:Aa4,Af1 prog 100 #[.int .i64 k,.int .i64 n1] w fun e w'=>e=.returned (.int .i64 (Bh b k))/\w=w':=fun w=>by
  have:=there k n1 (by omega) w (by omega)
  unfold Bh;rw[e1];exact this
 have aB:=Af3 call;clear ai hW hg e1 call;refine app1 ?_
 go_enter func99,Tryz.ntmps99;go_wp2_with (first
  | (go_at_call 100;refine(aB.out _).mono ?_;rintro e w1 ⟨rfl,rfl⟩))
 go_ret;exact⟨aX rfl,(Af6 _ _).alloc (Ac2 _) _⟩
theorem Gp{b:ao}{pv bv tv:Value}{w:Aa4}{B:Nat}(ai:bg w B b pv bv tv):sK b pv bv tv w 107 #[] 0:=by
 refine⟨call107,fun _ W hW=>?_⟩
 obtain⟨A1,n1,c1,rfl,e1,h1,ez,-⟩:=ai.pieces.open_;obtain⟨A2,n2,c2,rfl,-⟩:=ai.aF.open_;obtain⟨A3,n3,c3,rfl,-⟩:=ai.aJ.open_;exact nothing W
def Il(b:ao)(k:Nat):List Int:=Ag4 (ga ((aD b).map (·.at k)))
theorem aki{v:Value}{a c:Int}(h:a=c):Ending.returned (.tuple #[v,.int .i64 a])=.returned (.tuple #[v,.int .i64 c]):=by rw[h]
theorem ag8{w:Aa4}{b:ao}{k:Nat}{pv bv tv:Value}{B:Nat}(hB:B<=w.heap.size)(ai:bg w B b pv bv tv)(h:cj b (Bh b k)=0):
 Af1 prog 24 #[.agg #[.int .i64 b.ag,pv,bv,tv],.int .i64 k] w fun e w'=>∃v,e=.returned (.tuple #[v,.int .i64 0])/\w'.ownsRow w.heap.size 3 1 v (Il b k).length ((Il b k).map (Value.int .i64))/\Below w.heap.size w w':=by
 have st:Still B w ((w.alloc (.cells #[.int .i64 b.ag,pv,bv,tv] 26)).alloc (.cells #[.int .i64 k] 3)):=((Still.refl w).alloc hB _).alloc (by simp;omega) _
 have aB:=Af3 (yL (w:=((w.alloc (.cells #[.int .i64 b.ag,pv,bv,tv] 26)).alloc (.cells #[.int .i64 k] 3))) (B:=B) (by simp;omega) (ai.still st) (Zp (by simp;omega) (ai.still st) (Bk.cG (g:=w.heap.size+1) (by simp) _ _)) h)
 have hz:=pq h;have hv:=iy hz.1;have fh:k<3:=by
  have h1:=hz.2.1;unfold Bh at h1;split at h1
  ·rename_i h2;have:=nJ h2;have:=hv.np;omega
  ·contradiction
 have aeZ:=Ct hv;obtain⟨i0,cR,cT,aN,ba⟩:=Agw Oo;have bI:=Af3 (Afx cR (Afx cT (Afx aN ba)));obtain⟨A1,n1,c1,rfl,-⟩:=ai.pieces.open_;obtain⟨A2,n2,c2,rfl,-⟩:=ai.aF.open_;obtain⟨A3,n3,c3,rfl,-⟩:=ai.aJ.open_;clear ai st hz hv h cR cT aN ba;go_enter func24,Tryz.ntmps24;go_wp2_with (first
  | (go_at_call 98;refine aB.out.mono ?_;rintro e w1 ⟨sv,rfl,aG,ae⟩
     obtain⟨A9,n9,c9,rfl,cY,nG,eS,iN⟩:=aG.row.open_;have lF:=Af3 iN;have pO:=Af3 cY;have kk:Hid (Bk w1 (w.heap.size+1) 3 #[.int .i64 k]):=Af3 ((Bk.cG (by simp) _ _).below ae (by simp))
     have aN:w.heap.size+2<=w1.heap.size:=by have:=ae.size;simpa using this
     have afb:n9<=27:=by omega
     have aY:Hid (Below w.heap.size w w1):=Af3 ((((Af6 _ _).alloc (Ac2 _) _).alloc (by simp) _).trans (ae.mono (by simp;omega)));clear ae aG cY iN))
 unfold Af0 at eS;go_loopw [8,23] (fun o u wr=>∃i:Nat,i<=n9/\u=.int .i64 i/\Hid (wr.ownsRow (w1.heap.size+1) 3 1 o i (((aD b).take i).map fun L=>.int .i64 (L.at k)))/\Hid (Below (w1.heap.size+1) (w1.alloc (.cells #[.int .i64 b.ag,.slice A1 n1 c1,.slice A2 n2 c2,.slice A3 n3 c3,.slice A9 n9 c9] 122)) wr)) (fun _ u _=>n9 - (Ag7 u).toNat)
 case atStart=>exact⟨0,Agm _,rfl,Af3 ⟨by simp,.inl ⟨rfl,rfl⟩⟩,Af3 (Af6 _ _)⟩
 case round=>
  obtain⟨i,hi,rfl,HO,hb⟩:=hrel;have rV:w1.heap.size+1<=wr.heap.size:=by have:=hb.out.size;simpa using this
  have nV:Hid (Below w1.heap.size w1 wr):=Af3 (((Af6 _ _).alloc (by omega) _).trans (hb.out.mono (by omega)))
  have VO:Bk wr (w.heap.size+1) 3 #[.int .i64 k]:=kk.out.below nV.out (by omega)
  have k0:=VO.cell 0;clear VO;by_cases al:i<n9
  ·obtain⟨ad,x,cs,kX,aC,hx,rfl,-,au⟩:=lF.out i al
   subst kX;have st:Still w1.heap.size w1 wr:=Still.aK nV.out (Ac2 _);have g0:=cC au st aC rfl;have g1:=bK au st aC 0 rfl;have g2:=bK au st aC 1 rfl;have xD:(ad.add (i * 3)).block<wr.heap.size:=by rw[cq];omega
   have HX:=Af3 hx;have a1:w.heap.size+1<wr.heap.size:=by omega
   have a2:w.heap.size+1<=wr.heap.size:=by omega
   have aeJ:(k:Int)<3:=by omega
   have gk:(wr.alloc (.cells #[.int .i64 x.a,.int .i64 x.b,.int .i64 x.c] 128)).cell? ⟨wr.heap.size,k,none⟩=some (.int .i64 (x.at k)):=(Bk.new wr _ _).cell k|>.trans (an.uR (n:=x) fh)
   clear hx au st;go_wp2_with (first
    | (at_builtin
       refine Agx _ rfl (.tmp 27) (.tmp 31) 33 rfl (w1.heap.size+1) 3 i0 (.int .i64 0) 1 8 (U Tryz.underlying33) bI.out.1 bI.out.2.1 bI.out.2.2.1 bI.out.2.2.2 rfl (by decide) _ i _ rfl ((HO.out.alloc _).alloc _) ⟨wr.heap.size+1,0,none⟩ 1 1 [.int .i64 (x.at k)] rfl rfl ?c1 ?c2 ?c3 ?c4 ?c5 ?_
       case c1=>(intro j u hu;match j,hu with|0,hu=>(simp at hu;subst hu;simp[go_sem,Ag2]))
       case c2=>simp[Value.oneCell']
       case c3=>(simp only[Af0];omega)
       case c4=>omega
       case c5=>(simp;omega)
       intro v' w2 cK dT _;have gW:=Af3 cK;have gV:=Af3 dT;clear cK dT))
   go_roundw;case rel=>exact⟨i+1,by omega,by go_num,Af3 (by rw[oJ HX.out,List.map_append];exact gW.out),
    Af3 ((hb.out.trans (((Af6 _ _).alloc rV _).alloc (by simp;omega) _)).grown gV.out (by simp;omega) (fun k hk=>ei HO.out k hk))⟩
   case measure=>simp[Ag7];omega
  ·obtain rfl:i=n9:=by omega
   have vq:(((aD b).take i).map fun L=>Value.int .i64 (L.at k))=((aD b).map (·.at k)).map (Value.int .i64):=by
    rw[Agf (Ago pO.out),List.map_map];rfl
   have rf:Hid (wr.ownsRow (w1.heap.size+1) 3 1 u8 i (((aD b).map (·.at k)).map (Value.int .i64))):=Af3 (vq▸HO.out)
   have ux:Hid (Below w.heap.size w wr):=Af3 (aY.out.trans (nV.out.mono (by omega)))
   clear vq HO;go_wp2_with (first
    | (go_at_call 101;refine(PW rf.out (by omega) rV).mono ?_;rintro e w2 ⟨rfl,cK,ak⟩;have uC:=Af3 cK;have fw:=Af3 ak;clear cK ak)
    | (go_at_call 102;refine(Sz uC.out (by omega)).mono ?_;rintro e w3 ⟨u,rfl,lR,bD⟩;have wQ:=Af3 lR;have jK:=Af3 bD;clear lR bD))
   go_ret2
   exact⟨_,aki rfl,wQ.out.base (by omega),ux.out.trans ((fw.out.trans jK.out).mono (by omega))⟩
def an.sum(L:an):Int:=L.a+L.b+L.c
def BE(s:Span)(L:an):Span:=⟨min s.lo L.sum,max s.hi L.sum⟩
def oK:List an->Span
 | []=>⟨0,0⟩
 |x::l=>l.foldl BE ⟨x.sum,x.sum⟩
theorem aml{l:List an}(h:l≠ [])(x:an):oK (l++ [x])=BE (oK l) x:=by
 cases l with
 |nil=>exact absurd rfl h
 |cons a l=>simp[oK]
theorem amk(x:an):oK [x]=BE ⟨x.sum,x.sum⟩ x:=by simp[oK,BE]
theorem amm{w:Aa4}{b:ao}{pv bv tv:Value}{B:Nat}(hB:B<=w.heap.size)(ai:bg w B b pv bv tv)(h:cj b 0=0):
 Af1 prog 26 #[.agg #[.int .i64 b.ag,pv,bv,tv]] w fun e w'=>e=.returned (.tuple #[.agg #[.int .i64 (oK (aD b)).lo,.int .i64 (oK (aD b)).hi],.int .i64 0])/\Below w.heap.size w w':=by
 have st:Still B w ((w.alloc (.cells #[.int .i64 b.ag,pv,bv,tv] 26)).alloc (.cells #[.int .i64 0,.int .i64 0] 37)):=((Still.refl w).alloc hB _).alloc (by simp;omega) _
 have aB:=Af3 (yL (w:=((w.alloc (.cells #[.int .i64 b.ag,pv,bv,tv] 26)).alloc (.cells #[.int .i64 0,.int .i64 0] 37))) (B:=B) (by simp;omega) (ai.still st) (Gp (ai.still st)) h)
 have hz:=pq h;have hv:=iy hz.1;have OK:=Af3 (uG hv);have HNE:=Af3 hz.2.2;obtain⟨A1,n1,c1,rfl,-⟩:=ai.pieces.open_;obtain⟨A2,n2,c2,rfl,-⟩:=ai.aF.open_;obtain⟨A3,n3,c3,rfl,-⟩:=ai.aJ.open_;clear ai st hz hv h;go_enter func26,Tryz.ntmps26;go_wp2_with (first
  | (go_at_call 98;refine aB.out.mono ?_;rintro e w1 ⟨sv,rfl,aG,ae⟩
     obtain⟨A9,n9,c9,rfl,cY,nG,eS,iN⟩:=aG.row.open_;have lF:=Af3 iN;have pO:=Af3 cY;have k2:Hid (Bk w1 (w.heap.size+1) 37 #[.int .i64 0,.int .i64 0]):=Af3 ((Bk.cG (by simp) _ _).below ae (by simp))
     have aN:w.heap.size+2<=w1.heap.size:=by have:=ae.size;simpa using this
     have aY:Hid (Below w.heap.size w w1):=Af3 ((((Af6 _ _).alloc (Ac2 _) _).alloc (by simp) _).trans (ae.mono (by simp;omega)));clear ae aG cY iN))
 unfold Af0 at eS;go_loopw [24] (fun u wr=>∃i:Nat,i<=n9/\u=.int .i64 i/\Hid (Bk wr (w1.heap.size+1) 37 #[.int .i64 (oK ((aD b).take i)).lo,.int .i64 (oK ((aD b).take i)).hi])/\Hid (Below w1.heap.size w1 wr)) (fun u _=>n9 - (Ag7 u).toNat)
 case atStart=>exact⟨0,Agm _,rfl,Af3 (by simpa [oK] using Bk.cG (by simp) _ _),Af3 (((Af6 _ _).alloc (Ac2 _) _).alloc (by simp) _)⟩
 case round=>
  obtain⟨i,hi,rfl,hk,hb⟩:=hrel;have rV:w1.heap.size+1<wr.heap.size:=hk.out.lt;have ux:Hid (Below w.heap.size w wr):=Af3 (aY.out.trans (hb.out.mono (by omega)))
  obtain⟨T,hT⟩:∃T,T=oK ((aD b).take i):=⟨_,rfl⟩
  rw[<-hT] at hk;have HT:=Af3 hT;clear hT;have t0: wr.cell? ⟨w1.heap.size+1,0,none⟩=some (.int .i64 T.lo):=hk.out.cell 0;have t1: wr.cell? ⟨w1.heap.size+1,1,none⟩=some (.int .i64 T.hi):=hk.out.cell 1;have z0:=hk.out.frozen 0;have z1:=hk.out.frozen 1;by_cases al:i<n9
  ·obtain⟨ad,x,cs,kX,aC,hx,rfl,-,au⟩:=lF.out i al
   subst kX;have st:Still w1.heap.size w1 wr:=Still.aK hb.out (Ac2 _);have g0:=cC au st aC rfl;have g1:=bK au st aC 0 rfl;have g2:=bK au st aC 1 rfl;have xD:(ad.add (i * 3)).block<wr.heap.size:=by rw[cq];omega
   have HX:=Af3 hx;have IE:=OK.out x (Agg hx);have oka:0<=x.a/\x.a<=1000:=IE 0;have okb:0<=x.b/\x.b<=1000:=IE 1;have ID:0<=x.c/\x.c<=1000:=IE 2;have i0:∀w:Aa4,(Af2 128 (.agg #[.int .i64 x.a,.int .i64 x.b,.int .i64 x.c]) (.int .i64 0)).run prog w=.ok (.int .i64 x.a) w:=fun w=>by simp[Af2,go_sem]
   have i1:∀w:Aa4,(Af2 128 (.agg #[.int .i64 x.a,.int .i64 x.b,.int .i64 x.c]) (.int .i64 1)).run prog w=.ok (.int .i64 x.b) w:=fun w=>by simp[Af2,go_sem]
   have i2:∀w:Aa4,(Af2 128 (.agg #[.int .i64 x.a,.int .i64 x.b,.int .i64 x.c]) (.int .i64 2)).run prog w=.ok (.int .i64 x.c) w:=fun w=>by simp[Af2,go_sem]
   clear hx au st IE;go_wp2;go_loopw [9,30] (fun s z W=>∃j:Nat,j<=3/\z=.int .i64 j/\s=.int .i64 (if j=0 then 0 else if j=1 then x.a else if j=2 then x.a+x.b else x.a+x.b+x.c)/\W=wr.alloc (.cells #[.int .i64 x.a,.int .i64 x.b,.int .i64 x.c] 128)) (fun _ z _=>3 - (Ag7 z).toNat)
   case atStart=>exact⟨0,by omega,rfl,rfl,rfl⟩
   case round=>
    obtain⟨j,hj,rfl,rfl,rfl⟩:=hrel;match j,hj with
    |0,_=>
     go_wp2;go_roundw;case rel=>exact⟨1,by omega,rfl,by simp,trivial⟩
     case measure=>simp[Ag7]
    |1,_=>
     go_wp2;go_roundw;case rel=>exact⟨2,by omega,rfl,by simp,trivial⟩
     case measure=>simp[Ag7]
    |2,_=>
     go_wp2;go_roundw;case rel=>exact⟨3,by omega,rfl,by simp,trivial⟩
     case measure=>simp[Ag7]
    |3,_=>
     obtain⟨S,hS⟩:∃S,S=x.a+x.b+x.c:=⟨_,rfl⟩
     have HS:Hid (S=x.sum):=Af3 hS;have e3:(if 3=0 then 0 else if 3=1 then x.a else if 3=2 then x.a+x.b else x.a+x.b+x.c)=S:=by simp[hS]
     rw[e3];clear hS e3;have q1:w1.heap.size+1<wr.heap.size+1:=by omega
     have cP:=hk.out.alloc (.cells #[.int .i64 x.a,.int .i64 x.b,.int .i64 x.c] 128);by_cases h0:i=0
     ·subst h0
      go_wp2;go_roundw;case rel=>exact⟨1,by omega,by simp,Af3 (by
           have e:(aD b).take 1=[x]:=by have:=oJ HX.out;simpa using this
           rw[e,amk];have:=(((hk.out.set 0 (.int .i64 S)).set 1 (.int .i64 S)).set 0 (.int .i64 S)).set 1 (.int .i64 S);simpa [BE,HS.out] using this.alloc (.cells #[.int .i64 x.a,.int .i64 x.b,.int .i64 x.c] 128)),
          Af3 (Ahb (by(repeat refine Aha ?_ (by simp) _);exact hb.out) (by simp[Ac0];omega) _)⟩
      case measure=>simp[Ag7];omega
     ·have aw:((i:Int)==0)=false:=by simp;omega
      go_wp2;go_roundw;case rel=>exact⟨i+1,by omega,by go_num,Af3 (by
           have hn:(aD b).take i≠ []:=by
            intro e;have h1:((aD b).take i).length=i:=by rw[List.length_take,pO.out];omega
            rw[e] at h1;simp at h1;omega
           rw[oJ HX.out,aml hn,<-HT.out];have:=(hk.out.set 0 (.int .i64 (min T.lo S))).set 1 (.int .i64 (max T.hi S));simpa [BE,HS.out] using this.alloc (.cells #[.int .i64 x.a,.int .i64 x.b,.int .i64 x.c] 128)),
          Af3 (Ahb (by(repeat refine Aha ?_ (by simp) _);exact hb.out) (by simp[Ac0];omega) _)⟩
      case measure=>simp[Ag7];omega
  ·obtain rfl:i=n9:=by omega
   have YY:Hid (T=oK (aD b)):=Af3 (by rw[HT.out,Agf (Ago pO.out)])
   have kr:=k2.out.below hb.out (by omega)
   have r0: wr.cell? ⟨w.heap.size+1,0,none⟩=some (.int .i64 0):=kr.cell 0;have r1: wr.cell? ⟨w.heap.size+1,1,none⟩=some (.int .i64 0):=kr.cell 1;have y0:=kr.frozen 0;have y1:=kr.frozen 1;have e1:w.heap.size+1<w1.heap.size+1:=by omega
   clear kr;go_wp2;refine Ag1 (v:=.tuple #[.agg #[.int .i64 T.lo,.int .i64 T.hi],.int .i64 0]) (by simp[results,Tryz.results26,go_sem,r0,r1]) rfl ⟨by rw[YY.out],?_⟩
   repeat refine Aha ?_ (by simp) _
   exact ux.out
theorem agA:prog.keyTypeAt 10 225=true:=by kernel_rfl
theorem amg:prog.tiled 10 225=true:=by kernel_rfl
theorem small:10+1<=10000:=by omega
theorem Eu:Maps.Keyed prog 225:=Maps.Keyed.of_law (deep_law small agA amg (by kernel_rfl))
theorem kt:prog.keyType 225=true:=by kernel_rfl
theorem sz:prog.types.size=260:=by kernel_rfl
theorem Sf:prog.cellsOf 225=4:=by kernel_rfl
theorem c3:prog.cellsOf 3=1:=by kernel_rfl
theorem fm(a b c d:Int):(Value.agg #[.int .i64 a,.int .i64 b,.int .i64 c,.int .i64 d]).formed prog 225=true:=by
 have u:=U Tryz.underlying225;simp only[Value.formed,u,Sf];rfl
theorem agy(n:Nat)(a b c d:Int)(ha:(Lit.int .i64 a).wf=true)(hb:(Lit.int .i64 b).wf=true)(hc:(Lit.int .i64 c).wf=true)(hd:(Lit.int .i64 d).wf=true):
 prog.keyLits (n+1+1) 225 [.int .i64 a,.int .i64 b,.int .i64 c,.int .i64 d]=some [.int .i64 a,.int .i64 b,.int .i64 c,.int .i64 d]:=by
 have u:=U Tryz.underlying225;have u3:=U Tryz.underlying3;simp[Program.keyLits,u,u3,Sf,c3,ha,hb,hc,hd]
theorem agv(a b c d:Int)(ha:(Lit.int .i64 a).wf=true)(hb:(Lit.int .i64 b).wf=true)(hc:(Lit.int .i64 c).wf=true)(hd:(Lit.int .i64 d).wf=true):∃l,keyOf prog 225 (.agg #[.int .i64 a,.int .i64 b,.int .i64 c,.int .i64 d])=some l:=by
 have u:=U Tryz.underlying225;refine⟨.string (keyBytes [.int .i64 a,.int .i64 b,.int .i64 c,.int .i64 d]),?_⟩
 unfold keyOf;simp only[u,kt,fm,Bool.and_self,if_true];rw[sz];have:=agy 259 a b c d ha hb hc hd;simp only[Value.cells,Array.toList] at this |-
 rw[this];rfl
def kv(bd fr ln be:Int):Value:=.agg #[.int .i64 bd,.int .i64 fr,.int .i64 ln,.int .i64 be]
def lI(a:Int):Prop:= -9223372036854775808<=a/\a<=9223372036854775807
theorem BJ{a:Int}(h:lI a):(Lit.int .i64 a).wf=true:=WalkArith.wf_i64 h
def pn(b:ao)(bd fr ln be:Int):Bool:=match b.aF[bd.toNat]? with
 |some x=>tR x be ln ⟨bd,fr⟩
 |none=>false
structure zt(bd fr ln be:Int):Prop where
 a:lI bd
 b:lI fr
 c:lI ln
 d:lI be
theorem zt.key{bd fr ln be:Int}(h:zt bd fr ln be):∃l,keyOf prog 225 (kv bd fr ln be)=some l:=agv bd fr ln be (BJ h.a) (BJ h.b) (BJ h.c) (BJ h.d)
def Ko(b:ao)(e:MapEntry):Prop:=∃bd fr ln be,zt bd fr ln be/\e.key=kv bd fr ln be/\e.val=.bool (pn b bd fr ln be)
def dK(W:Aa4)(g:Nat)(b:ao):Prop:=∃es clock,W.heap[g]?=some (.map es clock)/\∀e∈es.toList,Ko b e
theorem dK.lt{W:Aa4}{g:Nat}{b:ao}(h:dK W g b):g<W.heap.size:=by
 obtain⟨es,clock,h,_⟩:=h;exact(Aaf.1 h).1
theorem agB{a b c d a' b' c' d':Int}(h:kv a b c d=kv a' b' c' d'):a=a'/\b=b'/\c=c'/\d=d':=by
 simp[kv] at h;exact h
theorem Ko.key{b:ao}{e:MapEntry}(h:Ko b e):∃l,keyOf prog 225 e.key=some l:=by
 obtain⟨bd,fr,ln,be,h1,h2,_⟩:=h;obtain⟨l,hl⟩:=h1.key;exact⟨l,by rw[h2];exact hl⟩
theorem ahm{W:Aa4}{g:Nat}{b:ao}(h:dK W g b){bd fr ln be:Int}(hk:zt bd fr ln be):
 ∃v ok,(Ab8 149 (.map (some g)) (kv bd fr ln be) true).run prog W=.ok (.tuple #[.bool v,.bool ok]) W/\(ok=true->v=pn b bd fr ln be):=by
 obtain⟨es,clock,hg,rF⟩:=h;obtain⟨l,hl⟩:=hk.key;have hc:=Eu.check W es.isEmpty hl;have hz:(zeroValue 4).run prog W=.ok (.bool false) W:=by rw[Qb];kernel_rfl
 have hgo:(getObj g).run prog W=.ok (.map es clock) W:=by simp[getObj,Sem.run,hg]
 rcases Eu.find W hl es.toList (fun e he=>(rF e he).key) with⟨hf,_⟩ | ⟨j,e,hf,hj,Ns⟩
 ·refine⟨false,false,?_,by simp⟩
  unfold Ab8;simp[Sem.run_bind,hgo,Ag6,hc,hf,hz,go_sem]
 ·obtain⟨bd',aV,ln',be',_,h2,h3⟩:=rF e (Agg hj)
  rw[Ns] at h2;obtain⟨rfl,rfl,rfl,rfl⟩:=agB h2;refine⟨_,true,?_,fun _=>rfl⟩
  unfold Ab8;simp[Sem.run_bind,hgo,Ag6,hc,hf,h3,go_sem]
theorem amD{W:Aa4}{g:Nat}{b:ao}(h:dK W g b){bd fr ln be:Int}(hk:zt bd fr ln be):
 ∃W',(Acb 149 (.map (some g)) (kv bd fr ln be) (.bool (pn b bd fr ln be))).run prog W=.ok () W'/\dK W' g b/\W.grownBy W' (some g):=by
 obtain⟨es,clock,hg,rF⟩:=h;have al:=(Aaf.1 hg).1
 obtain⟨l,hl⟩:=hk.key;have hc:=Eu.check W false hl;have hgo:(getObj g).run prog W=.ok (.map es clock) W:=by simp[getObj,Sem.run,hg]
 have jy:∀es' CM,(setObj g (.map es' CM)).run prog W=.ok () (W.putObj g (.map es' CM)):=fun es' CM=>by
  have e:W.heap[g]=.map es clock:=(Aaf.1 hg).2
  simp[setObj,Sem.run,World.putObj,al,e]
 have gr:∀es' CM,W.grownBy (W.putObj g (.map es' CM)) (some g):=fun _ _=>Agz _ _ _
 rcases Eu.find W hl es.toList (fun e he=>(rF e he).key) with⟨hf,_⟩ | ⟨j,e,hf,hj,Ns⟩
 ·refine⟨W.putObj g (.map (es.push {key:=kv bd fr ln be,val:=.bool (pn b bd fr ln be),born:=clock}) (clock+1)),?_,?_,gr _ _⟩
  ·unfold Acb
   simp[Sem.run_bind,hgo,Ag6,hc,hf,go_sem,jy]
  ·refine⟨_,_,Ahc al,fun e he=>?_⟩
   simp at he;rcases he with he|rfl
   ·exact rF e (by simpa using he)
   ·exact⟨bd,fr,ln,be,hk,rfl,rfl⟩
 ·have aQ:=Eu.stays W hl
  refine⟨W.putObj g (.map (es.modify j fun e=> {e with key:=kv bd fr ln be,val:=.bool (pn b bd fr ln be)}) clock),?_,?_,gr _ _⟩
  ·unfold Acb
   have qq:es[j]?=some e:=by simpa using hj
   simp[Sem.run_bind,hgo,Ag6,hc,hf,go_sem,qq,Ns,aQ,jy]
  ·refine⟨_,_,Ahc al,fun e' he'=>?_⟩
   obtain⟨i,hi⟩:=List.getElem?_of_mem he'
   rw[Agv,Array.getElem?_modify] at hi
   split at hi
   ·cases h:es[i]? with
    |none=>rw[h] at hi;cases hi
    |some e0=>
     rw[h] at hi;cases hi;exact⟨bd,fr,ln,be,hk,rfl,rfl⟩
   ·exact rF e' (by rw[<-Agv] at hi;exact Agg hi)
theorem Ye{P:Aa6}{ops:Array Oper}{rest:List Oper}{o:Oper}{a:Act}{w:Aa4}{Q:Exit->Act->Aa4->Prop}(hg:o.guard=none)(m x:Operand)(t:Aa1)(ab:o.op=Op.lookup t m x true)(r:Value)
 (bz:(Ab8 t (a.eval m) (a.eval x) true).run P w=.ok r w)(hK:wpList P ops Q rest (a.put o.dst r) w):wpList P ops Q (o::rest) a w:=by
 refine wpList_plain hg fun K' Db=>?_
 unfold Oper.wp;simp[execOp,ab,bz,Ag6];exact Db _ _ hK
theorem anf{P:Aa6}{ops:Array Oper}{rest:List Oper}{o:Oper}{a:Act}{w w':Aa4}{Q:Exit->Act->Aa4->Prop}(hg:o.guard=none)(m x v:Operand)(t:Aa1)(ab:o.op=Op.mapUpdate t m x v)
 (bz:(Acb t (a.eval m) (a.eval x) (a.eval v)).run P w=.ok () w')(hK:wpList P ops Q rest (a.put o.dst undef) w'):wpList P ops Q (o::rest) a w:=by
 refine wpList_plain hg fun K' Db=>?_
 unfold Oper.wp;simp[execOp,ab,bz,Ag6];exact Db _ _ hK
theorem dK.grown{W W':Aa4}{g:Nat}{b:ao}{row:Option Nat}(h:dK W g b)(hg:W.grownBy W' row)(hr:row≠some g):dK W' g b:=by
 have hl:=h.lt;obtain⟨es,clock,h1,h2⟩:=h;exact⟨es,clock,(hg.block g hl (fun e=>hr e.symm)).trans h1,h2⟩
theorem dK.below{W W':Aa4}{g B:Nat}{b:ao}(h:dK W g b)(hb:Below B W W')(hg:g<B):dK W' g b:=by
 obtain⟨es,clock,h1,h2⟩:=h;exact⟨es,clock,(hb.block g hg).trans h1,h2⟩
theorem je{w w':Aa4}{B:Nat}(h:Below B w w')(hB:w.heap.size<=B)(row:Option Nat):w.grownBy w' row:=⟨h.os,h.tape,h.output,h.size,fun k hk _=>h.block k (by omega)⟩
theorem XW{w w':Aa4}{row:Option Nat}(h:w.drew.grownBy w' row):w.grownBy w' row:=⟨h.os,h.tape,h.output,h.size,h.block⟩
theorem can{b:ao}{i k g:Nat}{p:Piece}{x:bR}{from_ length:Int}{pv bv tv sv:Value}{w:Aa4}{B:Nat}(ai:bg w B b pv bv tv)(hB:B<=w.heap.size)(oD:∃A n c,sv=.slice A n c)(hm:dK w g b)(hgB:B<=g)
 (hp:b.pieces[i]?=some p)(hx:b.aF[k]?=some x)(hf:0<=from_/\from_<=1000)(hl:0<=length/\length<=1000)(MQ:0<=p.bears/\p.bears<=2)(fh:k<=3):
 Af1 prog 176 #[.agg #[.int .i64 b.ag,pv,bv,tv,sv,.map (some g)],.int .i64 i,.int .i64 length,.agg #[.int .i64 k,.int .i64 from_]] w fun e w'=>e=.returned (.bool (pn b k from_ length p.bears))/\w.grownBy w' (some g)/\dK w' g b:=by
 obtain⟨A4,n4,c4,rfl⟩:=oD;have bT:=Af3 ai;have Ux:zt k from_ length p.bears:=⟨by unfold lI;omega,by unfold lI;omega,by unfold lI;omega,by unfold lI;omega⟩
 have Q1:=Af3 Ux;have HM:=Af3 hm;obtain⟨A1,n1,c1,rfl,e1,h1,ez,r1⟩:=ai.pieces.open_;obtain⟨A2,n2,c2,rfl,e2,h2,dW,r2⟩:=ai.aF.open_;obtain⟨A3,n3,c3,rfl,-⟩:=ai.aJ.open_;unfold Af0 at ez dW;have hi:i<n1:=by have:=(Agb.1 hp).1;omega
 obtain⟨ee,p',uQ,rfl,Ac,DV,⟨rfl,UX⟩,-,ff⟩:=r1 i hi;obtain rfl:p'=p:=by rw[DV] at hp;exact Option.some.inj hp
 have st:=Still.refl (B:=B) w;have g3: w.cell? ⟨(ee.add (i * 4)).block,(ee.add (i * 4)).off+3,none⟩=some (.int .i64 p'.bears):=bK ff st Ac 2 rfl;have s0:(ee.add (i * 4)).block<w.heap.size:=by rw[cq];omega
 have s1:(ee.add (i * 4)).block<=w.heap.size:=by omega
 have s2:(ee.add (i * 4)).block<=w.heap.size+1:=by omega
 have k7:=hm.lt;have aB:=fun(W:Aa4) (aQ:Still B w W) (hs:B<=W.heap.size)=>VW (w:=W) (bT.out.still aQ) hs hp hx hf hl
 have ig:pn b k from_ length p'.bears=tR x p'.bears length ⟨k,from_⟩:=by unfold pn;simp[hx]
 have HC:=Af3 aB;have sR:=Af3 ig;clear ai e1 e2 r1 r2 hp hx DV ff st Ux hm aB ig UX;have gB:((w.alloc (Af4 #[.int .i64 b.ag,.slice (some ee) n1 c1,.slice A2 n2 c2,.slice A3 n3 c3,.slice A4 n4 c4,.map (some g)] 151)).alloc (Af4 #[.int .i64 k,.int .i64 from_] 56)).cell? ⟨(ee.add (i * 4)).block,(ee.add (i * 4)).off+3,none⟩=some (.int .i64 p'.bears):=
  (Af7 _ _ _ (by simp;omega)).trans ((Af7 _ _ _ (by simp;omega)).trans g3)
 have gA:(((w.alloc (Af4 #[.int .i64 b.ag,.slice (some ee) n1 c1,.slice A2 n2 c2,.slice A3 n3 c3,.slice A4 n4 c4,.map (some g)] 151)).alloc (Af4 #[.int .i64 k,.int .i64 from_] 56)).alloc (Af4 #[.int .i64 0,.int .i64 0,.int .i64 0,.int .i64 0] 225)).cell? ⟨(ee.add (i * 4)).block,(ee.add (i * 4)).off+3,none⟩=some (.int .i64 p'.bears):=
  (Af7 _ _ _ (by simp;omega)).trans gB
 go_enter func176,Tryz.ntmps176;go_wp2;go_region
 clear gA gB;obtain⟨W4,Aa⟩:∃W4,W4=(((w.alloc (Af4 #[.int .i64 b.ag,.slice (some ee) n1 c1,.slice A2 n2 c2,.slice A3 n3 c3,.slice A4 n4 c4,.map (some g)] 151)).alloc (Af4 #[.int .i64 k,.int .i64 from_] 56)).alloc (Af4 #[.int .i64 k,.int .i64 from_,.int .i64 length,.int .i64 p'.bears] 225)).drew:=⟨_,rfl⟩
 rw[<-Aa];have b4:Bk W4 w.heap.size 151 #[.int .i64 b.ag,.slice (some ee) n1 c1,.slice A2 n2 c2,.slice A3 n3 c3,.slice A4 n4 c4,.map (some g)]:=by rw[Aa];exact((Bk.new w _ _).alloc _).alloc _
 have Gw:Bk W4 (w.heap.size+1) 56 #[.int .i64 k,.int .i64 from_]:=by rw[Aa];exact(Bk.cG (by simp) _ _).alloc _
 have k4:Bk W4 (w.heap.size+1+1) 225 #[.int .i64 k,.int .i64 from_,.int .i64 length,.int .i64 p'.bears]:=by rw[Aa];exact Bk.cG (by simp) _ _
 have B4:Below w.heap.size w W4:=by rw[Aa];exact iY ((((Af6 _ _).alloc (Ac2 _) _).alloc (by simp) _).alloc (by simp;omega) _)
 have jK:=Af3 (Afx b4 (Afx Gw (Afx k4 B4)));have KT:=Af3 (HM.out.below B4 k7);have vG:w.heap.size+1+1<W4.heap.size:=k4.lt;have m0:=b4.cell 0;have m1:=b4.cell 1;have m2:=b4.cell 2;have m3:=b4.cell 3;have m5: W4.cell? ⟨w.heap.size,5,none⟩=some (.map (some g)):=b4.cell 5;have LK:=Gw.cell 0;have LM:=Gw.cell 1;have q0: W4.cell? ⟨w.heap.size+1+1,0,none⟩=some (.int .i64 k):=k4.cell 0;have q1: W4.cell? ⟨w.heap.size+1+1,1,none⟩=some (.int .i64 from_):=k4.cell 1;have q2: W4.cell? ⟨w.heap.size+1+1,2,none⟩=some (.int .i64 length):=k4.cell 2;have q3: W4.cell? ⟨w.heap.size+1+1,3,none⟩=some (.int .i64 p'.bears):=k4.cell 3;obtain⟨v,ok,UL,dh⟩:=ahm KT.out Q1.out;have Q5:=Af3 UL;have aB:=Af3 (HC.out W4 (Still.aK B4 hB) (by have:=B4.size;omega))
 clear Aa b4 Gw k4 B4 UL;cases ok with
 |true=>
  obtain rfl:=dh rfl;clear dh;go_wp2_with (first
   | (at_lookup;refine Ye rfl (.tmp 29) (.tmp 30) 149 rfl _ Q5.out ?_))
  go_ret;exact⟨b9 rfl,je jK.out.2.2.2 (Ac2 _) _,KT.out⟩
 |false=>
  clear dh;go_wp2_with (first
   | (at_lookup;refine Ye rfl (.tmp 29) (.tmp 30) 149 rfl _ Q5.out ?_)
   | (go_at_call 165;refine aB.out.mono ?_;rintro e w1 ⟨rfl,ae⟩
      have m5: w1.cell? ⟨w.heap.size,5,none⟩=some (.map (some g)):=(jK.out.1.below ae (by omega)).cell 5
      have q0: w1.cell? ⟨w.heap.size+1+1,0,none⟩=some (.int .i64 k):=(jK.out.2.2.1.below ae (by omega)).cell 0
      have q1: w1.cell? ⟨w.heap.size+1+1,1,none⟩=some (.int .i64 from_):=(jK.out.2.2.1.below ae (by omega)).cell 1
      have q2: w1.cell? ⟨w.heap.size+1+1,2,none⟩=some (.int .i64 length):=(jK.out.2.2.1.below ae (by omega)).cell 2
      have q3: w1.cell? ⟨w.heap.size+1+1,3,none⟩=some (.int .i64 p'.bears):=(jK.out.2.2.1.below ae (by omega)).cell 3
      obtain⟨w2,Of,cP,kG⟩:=amD (KT.out.below ae (by omega)) Q1.out
      rw[sR.out] at Of;have Y0:=Af3 Of;have HE:=Af3 (Afx cP kG);have mi:=Af3 (chain jK.out.2.2.2 ae (by omega))
      clear ae Of cP kG)
   | (at_mapUpdate;refine anf rfl (.tmp 44) (.tmp 45) (.tmp 46) 149 rfl Y0.out ?_))
  go_ret;exact⟨b9 (by rw[sR.out]),(je mi.out (Ac2 _) _).trans HE.out.2,HE.out.1⟩
def mJ(b:ao)(k:Nat):Nat:=match b.aF[k]? with
 |some x=>x.aH.toNat
 |none=>0
def tT(b:ao)(n:an)(cs:List Cut)(c:Cut):Bool:=AW b cs.length (n.at cs.length) c && (Af9 cs.length).all (rm b n cs cs.length c)
def kj(b:ao)(n:an)(S:List Cut->Option (List Cut))(cs:List Cut)(k fr:Nat):Option (List Cut):=if tT b n cs ⟨k,fr⟩ then S (cs++ [⟨k,fr⟩]) else none
def pC(b:ao)(n:an)(out:Nat->Bool)(S:List Cut->Option (List Cut))(cs:List Cut)(k:Nat):Option (List Cut):=
 if out k then none else(Af9 (mJ b k)).findSome? (kj b n S cs k)
def search(b:ao)(n:an)(out:Nat->Bool):Nat->List Cut->Option (List Cut)
 |0,cs=>some cs
 |f+1,cs=>(Af9 b.aF.length).findSome? (pC b n out (search b n out f) cs)
theorem C6{α:Type}{F:Nat->Option α}{n:Nat}:(Af9 n).findSome? F=none↔∀i,i<n->F i=none:=by simp
theorem Ts{α:Type}{F:Nat->Option α}{n k:Nat}{x:α}(hk:k<n)(h0:∀i,i<k->F i=none)(h:F k=some x):(Af9 n).findSome? F=some x:=by
 have e:Af9 n=Af9 k++k::(Af9 n).drop (k+1):=by
  have h1:(Af9 n).take k=Af9 k:=by rw[List.take_range,Nat.min_eq_left (by omega)]
  have h2:=Ahn k (Af9 n);rw[h1,List.drop_eq_getElem_cons (by simpa using hk)] at h2
  rw[List.getElem_range] at h2;exact h2.symm
 rw[e,List.findSome?_append,C6.2 h0,List.findSome?_cons,h]
 rfl
def Cut.vs(c:Cut):List Value:=[.int .i64 c.bp,.int .i64 c.from_]
structure cS where
 w:Aa4
 b:ao
 pv:Value
 bv:Value
 tv:Value
 sv:Value
 n:an
 gs:Nat
 go:Nat
 gn:Nat
 gm:Nat
 KO:Nat
 jD:Array Value
 out:Nat->Bool
 l:Nat
def cS.s(X:cS):Nat:=X.w.heap.size
def cS.np(X:cS):Nat:=X.b.pieces.length
def cS.args(X:cS):Array Value:=#[.pointer (some ⟨X.s+2,0,none⟩),.pointer (some ⟨X.gs,0,none⟩),.pointer (some ⟨X.s,0,none⟩),.pointer (some ⟨X.go,0,none⟩),.pointer (some ⟨X.gn,0,none⟩),.pointer (some ⟨X.s+3,0,none⟩)]
structure cS.Ok(X:cS)(B:Nat):Prop where
 book:bg X.w B X.b X.pv X.bv X.tv
 valid:Valid X.b
 lens:X.n.Ok
 sv:∃A n c,X.sv=.slice A n c
 B:B<=X.gm
 s:X.gs<X.s
 o:X.go<X.s
 gn:X.gn<X.s
 gm:X.gm<X.s
 ns:X.gs≠X.gm
 no:X.go≠X.gm
 nn:X.gn≠X.gm
 cs:Bk X.w X.gs 151 #[.int .i64 X.b.ag,X.pv,X.bv,X.tv,X.sv,.map (some X.gm)]
 co:Bk X.w X.go 158 #[fv X.KO X.jD]
 cn:Bk X.w X.gn 128 X.n.cs
 eg:∀args w,(callFunc X.KO args).run prog w=.ok (.enter X.KO args) w
 out:∀(k:Nat) (W:Aa4),k<X.b.aF.length->X.w.grownBy W (some X.gm)->Af1 prog X.KO (#[.int .i64 k]++X.jD) W fun e W'=>e=.returned (.bool (X.out k))/\Below W.heap.size W W'
structure DI(X:cS)(cs:List Cut)(W:Aa4):Prop where
 y:Bk W X.s 139 #[.func (.yield X.l) #[] #[]]
 arr:W.ownsRow (X.s+1) 56 2 (.slice (some ⟨X.s+1,0,none⟩) cs.length X.np) cs.length (cs.flatMap Cut.vs)
 lv:Bk W (X.s+2) 27 #[.slice (some ⟨X.s+1,0,none⟩) cs.length X.np]
 nx:Bk W (X.s+3) 29 #[.func (.func 175) #[] X.args]
 gr:X.w.grownBy W (some X.gm)
 known:dK W X.gm X.b
theorem Bk.grown{W W':Aa4}{g:Nat}{t:Aa1}{cs:Array Value}{row:Option Nat}(h:Bk W g t cs)(hg:W.grownBy W' row)(hr:some g≠row):Bk W' g t cs:=(hg.block g h.lt hr).trans h
theorem ajv{w w':Aa4}{base:Nat}{e:Aa1}{sz n:Nat}{v:Value}{xs:List Value}{row:Option Nat}(h:w.ownsRow base e sz v n xs)(hg:w.grownBy w' row)(hr:∀k,row=some k->k<base):w'.ownsRow base e sz v n xs:=by
 refine⟨h.1,?_⟩
 rcases h.2 with h0| ⟨g,cap,cur,h1,h2,h3,h4⟩
 ·exact .inl h0
 ·exact .inr ⟨g,cap,cur,h1,h2,(hg.block g (Aaf.1 h3).1 (fun e=>by have:=hr g e.symm;omega)).trans h3,h4⟩
theorem DI.grown{X:cS}{B:Nat}{cs:List Cut}{W W':Aa4}(ok:X.Ok B)(h:DI X cs W)(hg:W.grownBy W' (some X.gm))(hk:dK W' X.gm X.b):DI X cs W':=by
 have:=ok.gm;exact⟨h.y.grown hg (by simp;omega),ajv h.arr hg (fun k e=>by cases e;omega),h.lv.grown hg (by simp;omega),h.nx.grown hg (by simp;omega),h.gr.trans hg,hk⟩
theorem DI.below{X:cS}{B:Nat}{cs:List Cut}{W W':Aa4}(ok:X.Ok B)(h:DI X cs W)(hb:Below W.heap.size W W'):DI X cs W':=
 h.grown ok (je hb (Ac2 _) _) (h.known.below hb h.known.lt)
theorem FH{B g:Nat}{w W:Aa4}(h:w.grownBy W (some g))(hg:B<=g)(hB:B<=w.heap.size):Still B w W:=fun p hp=>World.cell?_of_block (h.block p.block (by omega) (by simp;omega))
theorem ajw{w:Aa4}{base:Nat}{e:Aa1}{sz n g cap:Nat}{xs:List Value}(h:w.ownsRow base e sz (.slice (some ⟨g,0,none⟩) n cap) n xs){m:Nat}(hm:m<=n):w.ownsRow base e sz (.slice (some ⟨g,0,none⟩) m cap) m (xs.take (m * sz)):=by
 have hms:m * sz<=n * sz:=Ahv _ hm;refine⟨by rw[List.length_take,h.1];omega,?_⟩
 rcases h.2 with⟨h0,_⟩ | ⟨g',xc,cur,h1,h2,h3,h4,h5,h6,h7⟩
 ·cases h0
 ·cases h1
  exact .inr ⟨g,cap,cur,rfl,h2,h3,by omega,h5,h6,by rw[<-h7,List.take_take,Nat.min_eq_left hms]⟩
theorem acN(l:List Cut)(c:Cut):((l++ [c]).flatMap Cut.vs).take (l.length * 2)=l.flatMap Cut.vs:=by
 have hl:∀l:List Cut,(l.flatMap Cut.vs).length=l.length * 2:=by
  intro l;induction l with
  |nil=>rfl
  |cons a l ih=>rw[Ahp,Ahq,ih];simp[Cut.vs];omega
 rw[Aho,<-hl l,List.take_left]
theorem xr{w W:Aa4}{row:Option Nat}{p:Addr}{u:Value}(h:w.grownBy W row)(hp:w.heap.size<=p.block):w.grownBy (W.setCell p u) row:=
 ⟨h.os,h.tape,h.output,by simp[Ac0];exact h.size,fun k hk aw=>(Ag8 _ _ _ _ (by omega)).trans (h.block k hk aw)⟩
theorem xq{w W W':Aa4}{row WI:Option Nat}(h:w.grownBy W row)(k:W.grownBy W' WI)(hr:∀g,WI=some g->w.heap.size<=g):w.grownBy W' row:=
 ⟨k.os.trans h.os,k.tape.trans h.tape,k.output.trans h.output,Ac3 h.size k.size,fun i hi aw=>(k.block i (Nat.lt_of_lt_of_le hi h.size) (fun e=>by have:=hr i e.symm;omega)).trans (h.block i hi aw)⟩
theorem DI.back{X:cS}{B:Nat}{cs:List Cut}{c:Cut}{W:Aa4}(ok:X.Ok B)(h:DI X (cs++ [c]) W):DI X cs (W.setCell ⟨X.s+2,0,none⟩ (.slice (some ⟨X.s+1,0,none⟩) cs.length X.np)):=by
 have Ar:=ok.gm;have hx:=h.nx.lt;have hs:X.w.heap.size=X.s:=rfl;have ha:W.ownsRow (X.s+1) 56 2 (.slice (some ⟨X.s+1,0,none⟩) cs.length X.np) cs.length (cs.flatMap Cut.vs):=by
  have:=ajw (m:=cs.length) (by have:=h.arr;rwa[Ahq,Afr] at this) (by omega)
  rwa[acN] at this
 refine⟨h.y.dn (by simp) _,?_,h.lv.set 0 _,h.nx.dn (by simp) _,xr h.gr (by simp[cS.s]),?_⟩
 ·refine⟨ha.1,?_⟩
  rcases ha.2 with⟨h0,_⟩ | ⟨g,cap,cur,h1,h2,h3,h4⟩
  ·cases h0
  ·cases h1
   exact .inr ⟨_,_,cur,rfl,h2,(Ag8 _ _ _ _ (by simp)).trans h3,h4⟩
 ·obtain⟨es,clock,h1,h2⟩:=h.known
  exact⟨es,clock,(Ag8 _ _ _ _ (by simp;omega)).trans h1,h2⟩
theorem DI.push{X:cS}{B:Nat}{cs:List Cut}{c:Cut}{W W1:Aa4}{o:Obj}(ok:X.Ok B)(h:DI X cs W)
 (aG:W1.ownsRow (X.s+1) 56 2 (.slice (some ⟨X.s+1,0,none⟩) (cs.length+1) X.np) (cs.length+1) (cs.flatMap Cut.vs++c.vs))(hg:(W.alloc o).grownBy W1 (some (X.s+1))):
 DI X (cs++ [c]) (W1.setCell ⟨X.s+2,0,none⟩ (.slice (some ⟨X.s+1,0,none⟩) (cs.length+1) X.np)):=by
 have Ar:=ok.gm;have hx:=h.nx.lt;have hl:(cs++ [c]).length=cs.length+1:=by simp
 have dB:W.grownBy W1 (some (X.s+1)):=(Ahe W o _).trans hg;have hz:=dB.size;refine⟨(h.y.grown dB (by simp)).dn (by simp) _,?_,?_,(h.nx.grown dB (by simp)).dn (by simp) _,xr (xq h.gr dB (fun g e=>by cases e;simp[cS.s])) (by simp[cS.s]),?_⟩
 ·rw[hl,Aho,Ahr]
  refine⟨aG.1,?_⟩
  rcases aG.2 with⟨h0,_⟩ | ⟨g,cap,cur,h1,h2,h3,h4⟩
  ·cases h0
  ·cases h1
   exact .inr ⟨_,_,cur,rfl,h2,(Ag8 _ _ _ _ (by simp)).trans h3,h4⟩
 ·rw[hl];exact(h.lv.grown dB (by simp)).set 0 _
 ·obtain⟨es,clock,h1,h2⟩:=h.known.grown dB (by simp;omega)
  exact⟨es,clock,(Ag8 _ _ _ _ (by simp;omega)).trans h1,h2⟩
end Go.Tw
namespace Go.Tw
variable [Go.Tw.aR]
open Go Go.Proofs Go.RowKit
attribute [local go_sem] ze zd Ag5
structure zx(X:cS)(Z:List Cut->Aa4->Prop):Prop where
 lv:∀full W,Z full W->∃i,Bk W (X.s+2) 27 #[.slice (some ⟨X.s+1,0,none⟩) i X.np]
 set:∀full W i,Z full W->Z full (W.setCell ⟨X.s+2,0,none⟩ (.slice (some ⟨X.s+1,0,none⟩) i X.np))
 yield:∀(m:Nat) (full:List Cut) (W:Aa4),full.length=X.np->DI X full W->YieldAt Ag3 m prog X.l #[.slice (some ⟨X.s+1,0,none⟩) X.np X.np] W fun e W'=>e=.returned (.bool false)/\Z full W'
def Gg(X:cS)(Z:List Cut->Aa4->Prop)(cs:List Cut)(r:Option (List Cut))(e:Ending)(W':Aa4):Prop:=
 (∃full,r=some full/\e=.returned (.bool false)/\Z full W')\/(r=none/\e=.returned (.bool true)/\DI X cs W')
theorem ala{X:cS}{B:Nat}(ok:X.Ok B){Z:List Cut->Aa4->Prop}(hZ:zx X Z){cs:List Cut}(hc:cs.length=X.np){W:Aa4}(h:DI X cs W):
 Af1 prog 175 X.args W (Gg X Z cs (some cs)):=by
 refine(callsIn_wide (n:=0)).1 ?_
 have HZ:=Af3 hZ;have HI:=Af3 h;have HC:=Af3 hc;obtain⟨n,hn⟩:∃n,n=X.np:=⟨_,rfl⟩
 have aoy:n<=9223372036854775807:=by have:=ok.valid.np.2;rw[hn];unfold cS.np;omega
 obtain⟨A1,n1,c1,pd,e1,h1,ez,-⟩:=ok.book.pieces.open_;have ks:Bk W X.gs 151 #[.int .i64 X.b.ag,.slice A1 n1 c1,X.bv,X.tv,X.sv,.map (some X.gm)]:=by
  have:=ok.cs.grown h.gr (by simpa using ok.ns);rwa[pd] at this
 have PE:n1=n:=by rw[hn];unfold cS.np;omega
 have s1: W.cell? ⟨X.gs,1,none⟩=some (.slice A1 n1 c1):=ks.cell 1;have v0: W.cell? ⟨X.s+2,0,none⟩=some (.slice (some ⟨X.s+1,0,none⟩) n n):=by rw[hn];have:=h.lv.cell 0;rw[hc] at this;exact this
 have y0: W.cell? ⟨X.s,0,none⟩=some (.func (.yield X.l) #[] #[]):=h.y.cell 0;obtain⟨f1,t1,a1,b1,jA,oq⟩:=hZ.yield (0 - 1) cs W hc h;rw[<-hn] at jA;have KX:=Af3 oq;subst PE;clear hZ h hc hn ks pd e1 oq;unfold cS.args;refine Agy func175 rfl trivial ?_
 simp only[Tryz.ntmps175,Ahg,Ahh,Ahi,Ahs,Aht,Agt,Agu,Ahj,Ahk,Ahl,Ahm]
 gi_wp2
 refine KX.out.mono ?_
 rintro e W' ⟨rfl,hz⟩
 gi_wp2
 go_ret;exact .inl ⟨cs,rfl,b9 rfl,hz⟩
end Go.Tw
namespace Go.Tw
variable [Go.Tw.aR]
open Go Go.Proofs Go.RowKit
theorem nu(g n:Nat):(⟨g,0,none⟩:Addr).add n=⟨g,n,none⟩:=by
 unfold Ag2;split
 ·rename_i h;rw[h]
 ·simp
theorem qd(w:Aa4)(o:Obj)(row:Option Nat):w.grownBy (w.alloc o).drew row:=let h:=Ahe w o row;⟨h.os,h.tape,h.output,h.size,h.block⟩
theorem agd:∃i0,prog.info? 56=some i0/\i0.size=2:=by
 have h:(prog.info? 56).map (fun i=>i.size)=some 2:=by rw[pB];kernel_rfl
 cases e: prog.info? 56 with
 |none=>rw[e] at h;cases h
 |some i=>rw[e] at h;exact⟨i,rfl,by simpa using h⟩
theorem acP{X:cS}{f:Nat}{cs:List Cut}{k fr:Nat}{full:List Cut}(hk:k<X.b.aF.length)(h0:∀j,j<k->pC X.b X.n X.out (search X.b X.n X.out f) cs j=none)(ho:X.out k=false)
 (hf:fr<mJ X.b k)(h1:∀j,j<fr->kj X.b X.n (search X.b X.n X.out f) cs k j=none)(h2:kj X.b X.n (search X.b X.n X.out f) cs k fr=some full):search X.b X.n X.out (f+1) cs=some full:=by
 unfold search;refine Ts hk h0 ?_
 unfold pC;rw[ho];exact Ts hf h1 h2
set_option maxRecDepth 40000 in
theorem alb{X:cS}{B:Nat}(ok:X.Ok B)(hB:B<=X.s){Z:List Cut->Aa4->Prop}(hZ:zx X Z){f:Nat}
 (ih:∀(cs:List Cut) (W:Aa4),cs.length+f=X.np->(∀c∈cs,oO X.b c)->DI X cs W->Af1 prog 175 X.args W (Gg X Z cs (search X.b X.n X.out f cs)))
 {cs:List Cut}(hc:cs.length+(f+1)=X.np)(fg:∀c∈cs,oO X.b c){W:Aa4}(h:DI X cs W):
 Af1 prog 175 X.args W (Gg X Z cs (search X.b X.n X.out (f+1) cs)):=by
 obtain⟨i,hi⟩:∃i,i=cs.length:=⟨_,rfl⟩
 obtain⟨i56,Up,Uq⟩:=agd;have F6:=Af3 (Afx Up Uq);clear Up Uq;obtain⟨A1,n1,c1,pd,e1,h1,ez,-⟩:=ok.book.pieces.open_;obtain⟨A2,nb,c2,Dr,e2,h2,dW,jZ⟩:=ok.book.aF.open_;obtain⟨A3,n3,c3,Oc,-⟩:=ok.book.aJ.open_;obtain⟨A4,n4,c4,oD⟩:=ok.sv;have dL:i<n1:=by unfold cS.np at hc;omega
 have lQ:n1<=3:=by have:=ok.valid.np.2;omega
 have UT:nb<=3:=by have:=ok.valid.nb;omega
 have qy:((i:Int)==(n1:Int))=false:=by simp;omega
 unfold Af0 at ez dW;have mL:X.np=n1:=by unfold cS.np;exact e1
 have ks:Bk W X.gs 151 #[.int .i64 X.b.ag,.slice A1 n1 c1,.slice A2 nb c2,.slice A3 n3 c3,.slice A4 n4 c4,.map (some X.gm)]:=by
  have:=ok.cs.grown h.gr (by simpa using ok.ns);rwa[pd,Dr,Oc,oD] at this
 have s1: W.cell? ⟨X.gs,1,none⟩=some (.slice A1 n1 c1):=ks.cell 1;have s2: W.cell? ⟨X.gs,2,none⟩=some (.slice A2 nb c2):=ks.cell 2;have v0: W.cell? ⟨X.s+2,0,none⟩=some (.slice (some ⟨X.s+1,0,none⟩) i n1):=by rw[hi,<-mL];exact h.lv.cell 0
 have HI:=Af3 h;have OK:=Af3 ok;have jL:=Af3 (Afx hi (Afx hc fg));have lD:=Af3 (Afx pd (Afx Dr (Afx Oc (Afx oD (Afx e1 e2)))));have YS:=Af3 jZ;have IH:=Af3 ih;have HZ:=Af3 hZ;have NP:=Af3 mL;clear ks h ok hi hc fg pd Dr Oc oD e1 e2 jZ ih hZ mL;have Af:X.args=#[.pointer (some ⟨X.s+2,0,none⟩),.pointer (some ⟨X.gs,0,none⟩),.pointer (some ⟨X.s,0,none⟩),.pointer (some ⟨X.go,0,none⟩),.pointer (some ⟨X.gn,0,none⟩),.pointer (some ⟨X.s+3,0,none⟩)]:=rfl;rw[Af];have CH:=Af3 Af;clear Af;go_enter func175,Tryz.ntmps175;go_wp2;go_loopw [34] (fun u wr=>∃k:Nat,k<=nb/\u=.int .i64 k/\(Hid (∀j,j<k->pC X.b X.n X.out (search X.b X.n X.out f) cs j=none))/\Hid (DI X cs wr)) (fun u _=>nb - (Ag7 u).toNat)
 case atStart=>exact⟨0,Agm _,rfl,Af3 (fun j hj=>by omega),HI⟩
 case round=>
  obtain⟨wo,rfl⟩:∃wo:Aa4,wo=wr:=⟨_,rfl⟩
  obtain⟨k,hk,rfl,bj,hD⟩:=hrel;by_cases al:k<nb
  ·obtain⟨ad,x,jQ,kX,aC,hx,⟨kvv,rfl,dH,da⟩,-,au⟩:=YS.out k al
   subst kX;obtain⟨A5,n5,c5,rfl,-⟩:=da.open_;have st:Still B X.w wo:=FH hD.out.gr OK.out.B hB;have g0:=cC au st aC rfl;have g1:=bK au st aC 0 rfl;have g2:=bK au st aC 1 rfl;have hzw:X.s+3<wo.heap.size:=hD.out.nx.lt;have xD:(ad.add (k * 3)).block<wo.heap.size:=by rw[cq];omega
   have HX:=Af3 hx;have ko:Bk wo X.go 158 #[fv X.KO X.jD]:=OK.out.co.grown hD.out.gr (by simpa using OK.out.no)
   have hgo:=OK.out.o;have o0:(wo.alloc (.cells #[.string x.name,.int .i64 x.aH,.slice A5 n5 c5] 59)).cell? ⟨X.go,0,none⟩=some (.func (.func X.KO) #[] X.jD):=(ko.alloc _).cell 0;have a1:X.go<wo.heap.size:=by omega
   have a2:X.go<=wo.heap.size:=by omega
   have eg:=OK.out.eg;have QQ:=Af3 (OK.out.out k (wo.alloc (.cells #[.string x.name,.int .i64 x.aH,.slice A5 n5 c5] 59)) (by have:=lD.out.2.2.2.2.2;omega) (hD.out.gr.trans (Ahe _ _ _)))
   have Eg:1<=x.aH/\x.aH<=40:=(OK.out.valid.bp x (Agg hx)).aH;clear hx au st ko dH da;go_wp2
   go_step3
   go_wp2;refine QQ.out.mono ?_
   rintro e w1 ⟨rfl,ae⟩;have TM:=Af3 (hD.out.grown OK.out (Ahe wo (.cells #[.string x.name,.int .i64 x.aH,.slice A5 n5 c5] 59) _) (hD.out.known.grown (Ahe wo (.cells #[.string x.name,.int .i64 x.aH,.slice A5 n5 c5] 59) none) (by simp)))
   have TN:=Af3 (TM.out.below OK.out ae);have kx:Hid (Bk w1 wo.heap.size 59 #[.string x.name,.int .i64 x.aH,.slice A5 n5 c5]):=Af3 ((Bk.new wo _ _).below ae (by simp))
   have x1: w1.cell? ⟨wo.heap.size,1,none⟩=some (.int .i64 x.aH):=kx.out.cell 1;clear ae;cases ho:X.out k with
   |true=>
    go_wp2;rw[Exit.noGoto_exit];go_wp2;go_roundw;case rel=>exact⟨k+1,by omega,by go_num,Af3 (fun j hj=>by
     rcases Agn.1 hj with h|rfl
     ·exact bj.out j h
     ·unfold pC;rw[ho];rfl),TN⟩
    case measure=>simp[Ag7];omega
   |false=>
    go_wp2
    go_step3
    go_wp2;have rL:mJ X.b k=x.aH.toNat:=by unfold mJ;rw[HX.out]
    have Q4:=Af3 rL;have hp:∃p,X.b.pieces[i]?=some p:=⟨_,List.getElem?_eq_getElem (by have:=lD.out.2.2.2.2.1;omega)⟩
    obtain⟨p,hp⟩:=hp;have nI:=OK.out.valid.piece p (Agg hp);have HP:=Af3 (Afx hp nI.bears);obtain⟨ln,rJ⟩:∃ln,ln=X.n.at i:=⟨_,rfl⟩
    have UK:0<=ln/\ln<=1000:=by rw[rJ];exact OK.out.lens i
    have nh:=Af3 rJ;have fZ:i<3:=by omega
    have Uo:(i:Int)<3:=by omega
    have Uh:=OK.out.s;have qm:=OK.out.gn;clear rL hp nI rJ hD TM QQ o0 x1 g0 g1 g2 s1 s2 v0;go_loopw [44] (fun u W2=>∃fr:Nat,(fr:Int)<=x.aH/\u=.int .i64 fr/\(Hid (∀j,j<fr->kj X.b X.n (search X.b X.n X.out f) cs k j=none))/\Hid (DI X cs W2)) (fun u _=>(x.aH - Ag7 u).toNat)
    case atStart=>exact⟨0,by omega,rfl,Af3 (fun j hj=>by omega),TN⟩
    case round=>
     obtain⟨fr,b7,rfl,DO,hE⟩:=hrel;obtain⟨wp,rfl⟩:∃wp:Aa4,wp=wr:=⟨_,rfl⟩
     by_cases hf:(fr:Int)<x.aH
     ·have Vw:X.s+3<wp.heap.size:=hE.out.nx.lt
      have ks:Bk wp X.gs 151 #[.int .i64 X.b.ag,.slice A1 n1 c1,.slice (some ad) nb c2,.slice A3 n3 c3,.slice A4 n4 c4,.map (some X.gm)]:=by
          have:=OK.out.cs.grown hE.out.gr (by simpa using OK.out.ns);rwa[lD.out.1,lD.out.2.1,lD.out.2.2.1,lD.out.2.2.2.1] at this
      have k0:=ks.cell 0;have k1:=ks.cell 1;have k2:=ks.cell 2;have k3:=ks.cell 3;have k4:=ks.cell 4;have k5:=ks.cell 5;have gi: wp.cell? ⟨X.gn,i,none⟩=some (.int .i64 ln):=by
          have:=(OK.out.cn.grown hE.out.gr (by simpa using OK.out.nn)).cell i
          rw[an.uR fZ,<-nh.out] at this;exact this
      have b1:X.gs<wp.heap.size:=by omega
      have b2:X.gs<=wp.heap.size:=by omega
      have b3:X.gn<wp.heap.size:=by omega
      have b4:X.gn<=wp.heap.size:=by omega
      have vg:(fr:Int)<=1000:=by omega
      have gw:0<=(fr:Int):=by omega
      clear ks;go_wp2;refine ua 6 (by kernel_rfl) (by kernel_rfl) ?_
      simp only[Agi,Agj,Agk,Agl];repeat still_step
      refine wpStill_nil ?_
      have bt:X.w.grownBy (wp.alloc (Af4 #[Value.int Ack ↑k,Value.int Ack ↑fr] 56)).drew (some X.gm):=hE.out.gr.trans (qd wp _ _);have vp:dK (wp.alloc (Af4 #[Value.int Ack ↑k,Value.int Ack ↑fr] 56)).drew X.gm X.b:=hE.out.known.grown (qd wp (Af4 #[Value.int Ack ↑k,Value.int Ack ↑fr] 56) none) (by simp)
      have call:Af1 prog 176 #[.agg #[.int .i64 X.b.ag,.slice A1 n1 c1,.slice (some ad) nb c2,.slice A3 n3 c3,.slice A4 n4 c4,.map (some X.gm)],.int .i64 i,.int .i64 ln,.agg #[.int .i64 k,.int .i64 fr]] (wp.alloc (Af4 #[Value.int Ack ↑k,Value.int Ack ↑fr] 56)).drew
           fun e w'=>e=.returned (.bool (pn X.b k fr ln p.bears))/\(wp.alloc (Af4 #[Value.int Ack ↑k,Value.int Ack ↑fr] 56)).drew.grownBy w' (some X.gm)/\dK w' X.gm X.b:=by
          have ai:=OK.out.book.still (FH bt OK.out.B hB);rw[lD.out.1,lD.out.2.1,lD.out.2.2.1] at ai;exact can (B:=B) ai (by have:=bt.size;have:X.w.heap.size=X.s:=rfl;omega) ⟨_,_,_,rfl⟩ vp OK.out.B HP.out.1 HX.out ⟨gw,vg⟩ UK HP.out.2 (by omega)
      have aB:=Af3 call;have UH:AW X.b i (X.n.at i) ⟨k,fr⟩=pn X.b k fr ln p.bears:=by unfold AW pn;rw[<-nh.out];simp[HP.out.1,HX.out]
      have Q3:=Af3 UH;have aN:Hid (wp.heap.size<(wp.alloc (Af4 #[Value.int Ack ↑k,Value.int Ack ↑fr] 56)).drew.heap.size):=Af3 (by simp)
      have Ku:Hid (Bk (wp.alloc (Af4 #[Value.int Ack ↑k,Value.int Ack ↑fr] 56)).drew wp.heap.size 56 #[.int .i64 k,.int .i64 fr]):=Af3 (Bk.new wp _ _);clear call UH bt vp;cases Aw:pn X.b k fr ln p.bears with
      |false=>
       have NX:Hid (kj X.b X.n (search X.b X.n X.out f) cs k fr=none):=Af3 (by unfold kj tT;rw[<-jL.out.1,Q3.out,Aw];rfl)
       go_wp2_with (first
           | (go_at_call 176;refine aB.out.mono ?_;rintro e w1 ⟨rfl,dB,dg⟩
              have F5:=Af3 (hE.out.grown OK.out ((Ahe wp _ _).trans (XW dB)) dg);clear dB dg))
       go_roundw;case rel=>exact⟨fr+1,by omega,by go_num,Af3 (fun j hj=>by
           rcases Agn.1 hj with h|rfl
           ·exact DO.out j h
           ·exact NX.out),F5⟩
       case measure=>simp[Ag7];omega
      |true=>
       go_wp2_with (first
           | (go_at_call 176;refine aB.out.mono ?_;rintro e w3 ⟨rfl,dB,dg⟩
              have F5:=Af3 (hE.out.grown OK.out ((Ahe wp _ _).trans (XW dB)) dg);have zk:=Af3 (Ku.out.grown dB (by have:=hE.out.known.lt;simp;omega))
              have v0: w3.cell? ⟨X.s+2,0,none⟩=some (.slice (some ⟨X.s+1,0,none⟩) i n1):=by rw[jL.out.1,<-NP.out];exact F5.out.lv.cell 0
              clear dB dg))
       have jB:wp.heap.size<w3.heap.size:=zk.out.lt;clear k0 k1 k2 k3 k4 k5 gi;go_loopw [60] (fun u wr=>∃j:Nat,j<=i/\u=.int .i64 j/\(Hid (∀q,q<j->rm X.b X.n cs i ⟨k,fr⟩ q=true))/\Hid (DI X cs wr)/\Hid (Bk wr wp.heap.size 56 #[.int .i64 k,.int .i64 fr])) (fun u _=>i - (Ag7 u).toNat)
       case atStart=>exact⟨0,Agm _,rfl,Af3 (fun j hj=>by omega),F5,zk⟩
       case round=>
           obtain⟨j,hj,rfl,Ae,hF,cX⟩:=hrel;have rV:X.s+3<wr.heap.size:=hF.out.nx.lt;have hzc:wp.heap.size<wr.heap.size:=cX.out.lt;have aoW:wp.heap.size<=wr.heap.size:=by omega
           have b1:X.gs<wr.heap.size:=by omega
           have b2:X.gs<=wr.heap.size:=by omega
           have b3:X.gn<wr.heap.size:=by omega
           have b4:X.gn<=wr.heap.size:=by omega
           have LK: wr.cell? ⟨wp.heap.size,0,none⟩=some (.int .i64 k):=cX.out.cell 0;have LM: wr.cell? ⟨wp.heap.size,1,none⟩=some (.int .i64 fr):=cX.out.cell 1;by_cases pa:j<i
           ·have ks:Bk wr X.gs 151 #[.int .i64 X.b.ag,.slice A1 n1 c1,.slice (some ad) nb c2,.slice A3 n3 c3,.slice A4 n4 c4,.map (some X.gm)]:=by
             have:=OK.out.cs.grown hF.out.gr (by simpa using OK.out.ns);rwa[lD.out.1,lD.out.2.1,lD.out.2.2.1,lD.out.2.2.2.1] at this
            have k0:=ks.cell 0;have k1:=ks.cell 1;have k2:=ks.cell 2;have k3:=ks.cell 3;have DE:j<3:=by omega
            have Us:(j:Int)<3:=by omega
            have kn:=OK.out.cn.grown hF.out.gr (by simpa using OK.out.nn)
            have gi: wr.cell? ⟨X.gn,i,none⟩=some (.int .i64 ln):=by
             have:=kn.cell i;rw[an.uR fZ,<-nh.out] at this;exact this
            have gj: wr.cell? ⟨X.gn,j,none⟩=some (.int .i64 (X.n.at j)):=by
             have:=kn.cell j;rw[an.uR DE] at this;exact this
            have eI:=lu (R:=Cut.R) hF.out.arr (fun _=>rfl) (fun _ _=>rfl)
            obtain⟨A8,n8,c8,e8,hl8,-,-,yh⟩:=eI.open_;cases e8;obtain⟨ad8,d,cs8,abE,an2,hd,rfl,-,M8⟩:=yh j (by rw[<-jL.out.1];exact pa)
            cases abE;obtain⟨mn,iJ⟩:=d;have Wo:=jL.out.2.2 _ (Agg hd);have h0: wr.cell? ⟨X.s+1,j * 2,none⟩=some (.int .i64 mn):=by have:=M8 0 _ rfl;rwa[nu] at this
            have h1: wr.cell? ⟨X.s+1,j * 2+1,none⟩=some (.int .i64 iJ):=by have:=M8 1 _ rfl;rwa[nu] at this
            have my:0<=iJ/\iJ<=40:=Wo.from_;have HD:=Af3 hd;clear ks kn eI hl8 yh hd M8 Wo;have e1:X.s+1<wr.heap.size:=by omega
            go_wp2;refine ua 11 (by kernel_rfl) (by kernel_rfl) ?_
            simp only[Agi,Agj,Agk,Agl];repeat still_step
            refine wpStill_nil ?_
            have TV:rm X.b X.n cs i ⟨k,fr⟩ j=nv X.b.ag ⟨k,fr⟩ ⟨mn,iJ⟩ ln (X.n.at j):=by unfold rm;rw[HD.out,nh.out]
            have B3:=Af3 TV;have call:∀W:Aa4,Af1 prog 166 #[.agg #[.int .i64 X.b.ag,.slice A1 n1 c1,.slice (some ad) nb c2,.slice A3 n3 c3],.agg #[.int .i64 k,.int .i64 fr],.agg #[.int .i64 mn,.int .i64 iJ],.int .i64 ln,.int .i64 (X.n.at j)] W
             fun e w'=>e=.returned (.bool (nv X.b.ag ⟨k,fr⟩ ⟨mn,iJ⟩ ln (X.n.at j)))/\Below W.heap.size W w':=fun W=>
             apart (c:=⟨k,fr⟩) (d:=⟨mn,iJ⟩) ⟨OK.out.valid.ag.1,by have:=OK.out.valid.ag.2;omega⟩ UK (OK.out.lens j) ⟨gw,vg⟩ ⟨my.1,by have:=my.2;show iJ<=1000;omega⟩ ⟨_,_,_,rfl⟩ ⟨_,_,_,rfl⟩ ⟨_,_,_,rfl⟩
            have uv:=Af3 call;clear TV call;cases DK:nv X.b.ag ⟨k,fr⟩ ⟨mn,iJ⟩ ln (X.n.at j) with
            |false=>
             have NX:Hid (kj X.b X.n (search X.b X.n X.out f) cs k fr=none):=Af3 (by
              unfold kj;rw[if_neg];unfold tT;rw[<-jL.out.1,Gn pa (by rw[B3.out,DK])]
              simp)
             go_wp2_with (first
              | (go_at_call 166;refine(uv.out _).mono ?_;rintro e w4 ⟨rfl,cO⟩
                 have Kz:=Af3 ((hF.out.grown OK.out (qd wr _ _) (hF.out.known.grown (qd wr (.cells #[.int .i64 mn,.int .i64 iJ] 56) none) (by simp))).below OK.out cO);clear cO))
             go_roundw;case rel=>exact⟨fr+1,by omega,by go_num,Af3 (fun j hj=>by
              rcases Agn.1 hj with h|rfl
              ·exact DO.out j h
              ·exact NX.out),Kz⟩
             case measure=>simp[Ag7];omega
            |true=>
             go_wp2_with (first
              | (go_at_call 166;refine(uv.out _).mono ?_;rintro e w4 ⟨rfl,cO⟩
                 have Kz:=Af3 ((hF.out.grown OK.out (qd wr _ _) (hF.out.known.grown (qd wr (.cells #[.int .i64 mn,.int .i64 iJ] 56) none) (by simp))).below OK.out cO)
                 have YA:=Af3 ((cX.out.grown (qd wr (.cells #[.int .i64 mn,.int .i64 iJ] 56) none) (by simp)).below cO (by simp;omega));clear cO))
             go_roundw;case rel=>exact⟨j+1,by omega,by go_num,Af3 (fun q hq=>by
              rcases Agn.1 hq with h|rfl
              ·exact Ae.out q h
              ·rw[B3.out,DK]),Kz,YA⟩
             case measure=>simp[Ag7];omega
           ·obtain rfl:j=i:=by omega
            have Ra:Hid (tT X.b X.n cs ⟨k,fr⟩=true):=Af3 (by
             unfold tT;rw[<-jL.out.1,Q3.out,Aw,oi.2 Ae.out];rfl)
            have v0: wr.cell? ⟨X.s+2,0,none⟩=some (.slice (some ⟨X.s+1,0,none⟩) j n1):=by rw[jL.out.1,<-NP.out];exact hF.out.lv.cell 0
            have e2:X.s+2<wr.heap.size:=by omega
            have SS:X.s+2<=wr.heap.size:=by omega
            have Rb:Hid (wr.ownsRow (X.s+1) 56 2 (.slice (some ⟨X.s+1,0,none⟩) j n1) j (cs.flatMap Cut.vs)):=Af3 (by rw[jL.out.1,<-NP.out];exact hF.out.arr)
            have QZ:Hid (∀c∈cs++ [(⟨k,fr⟩:Cut)],oO X.b c):=Af3 (fun c hc=>by
             rcases List.mem_append.1 hc with hc|hc
             ·exact jL.out.2.2 c hc
             ·simp at hc;subst hc;exact⟨⟨k,rfl,by have:=lD.out.2.2.2.2.2;omega⟩,by show 0<=(fr:Int)/\(fr:Int)<=40;omega⟩)
            clear Ae;cases hs:search X.b X.n X.out f (cs++ [⟨k,fr⟩]) with
            |none=>
             have NX:Hid (kj X.b X.n (search X.b X.n X.out f) cs k fr=none):=Af3 (by unfold kj;rw[Ra.out,if_pos rfl,hs])
             go_wp2_with (first
              | (at_builtin
                 refine wpList_append_fits _ rfl (.tmp 79) (.tmp 81) 27 rfl (X.s+1) 56 i56 2 (U Tryz.underlying27) F6.out.1 F6.out.2 (X.s+1) j n1 _ rfl (Rb.out.alloc _) ⟨wr.heap.size,0,none⟩ 1 1 [.int .i64 k,.int .i64 fr] rfl rfl ?c1 ?c2 ?c3 ?_
                 case c1=>(intro q u hu;match q,hu with|0,hu=>(simp at hu;subst hu;simp[go_sem,Ag2]) |1,hu=>(simp at hu;subst hu;simp[go_sem,Ag2]))
                 case c2=>simp[Value.oneCell']
                 case c3=>omega
                 intro W1 cK dB;have KW:Hid (DI X (cs++ [⟨k,fr⟩]) (W1.setCell ⟨X.s+2,0,none⟩ (.slice (some ⟨X.s+1,0,none⟩) (j+1) n1))):=Af3 (by
                  have:=DI.push (c:=⟨k,fr⟩) OK.out hF.out (by rw[<-jL.out.1,NP.out];exact cK) dB
                  rwa[<-jL.out.1,NP.out] at this)
                 have vh:=(Ahe wr (.cells #[.int .i64 k,.int .i64 fr] 56) (some (X.s+1))).trans dB;have oA:=hF.out.lv.grown vh (by simp)
                 have DS:=hF.out.nx.grown vh (by simp)
                 have v0: W1.cell? ⟨X.s+2,0,none⟩=some (.slice (some ⟨X.s+1,0,none⟩) j n1):=by rw[jL.out.1,<-NP.out];exact oA.cell 0
                 have v1:=oA.frozen 0;have x0: W1.cell? ⟨X.s+3,0,none⟩=some (.func (.func 175) #[] #[.pointer (some ⟨X.s+2,0,none⟩),.pointer (some ⟨X.gs,0,none⟩),.pointer (some ⟨X.s,0,none⟩),.pointer (some ⟨X.go,0,none⟩),.pointer (some ⟨X.gn,0,none⟩),.pointer (some ⟨X.s+3,0,none⟩)]):=by rw[<-CH.out];exact DS.cell 0
                 have BS:=Af3 (IH.out (cs++ [⟨k,fr⟩]) _ (by have:=jL.out.2.1;simp;omega) QZ.out KW.out)
                 rw[CH.out,hs] at BS;clear cK dB vh oA DS)
              | (go_at_call 175;refine BS.out.mono ?_;rintro e w6 (⟨full,hr,-,-⟩ | ⟨-,rfl,hd⟩)
                 ·cases hr
                 have v0: w6.cell? ⟨X.s+2,0,none⟩=some (.slice (some ⟨X.s+1,0,none⟩) (j+1) n1):=by have:=hd.lv.cell 0;rw[Ahq,Afr,<-jL.out.1,NP.out] at this;exact this
                 have v1:=hd.lv.frozen 0;have gU:=Af3 (hd.back OK.out);rw[<-jL.out.1,NP.out] at gU;clear hd))
             go_roundw;case rel=>exact⟨fr+1,by omega,by go_num,Af3 (fun q hq=>by
              rcases Agn.1 hq with h|rfl
              ·exact DO.out q h
              ·exact NX.out),gU⟩
             case measure=>simp[Ag7];omega
            |some full=>
             have Yr:Hid (search X.b X.n X.out (f+1) cs=some full):=Af3 (acP (k:=k) (fr:=fr) (by have:=lD.out.2.2.2.2.2;omega) bj.out ho (by rw[Q4.out];omega) DO.out (by unfold kj;rw[Ra.out,if_pos rfl,hs]))
             go_wp2_with (first
              | (at_builtin
                 refine wpList_append_fits _ rfl (.tmp 79) (.tmp 81) 27 rfl (X.s+1) 56 i56 2 (U Tryz.underlying27) F6.out.1 F6.out.2 (X.s+1) j n1 _ rfl (Rb.out.alloc _) ⟨wr.heap.size,0,none⟩ 1 1 [.int .i64 k,.int .i64 fr] rfl rfl ?c1 ?c2 ?c3 ?_
                 case c1=>(intro q u hu;match q,hu with|0,hu=>(simp at hu;subst hu;simp[go_sem,Ag2]) |1,hu=>(simp at hu;subst hu;simp[go_sem,Ag2]))
                 case c2=>simp[Value.oneCell']
                 case c3=>omega
                 intro W1 cK dB;have KW:Hid (DI X (cs++ [⟨k,fr⟩]) (W1.setCell ⟨X.s+2,0,none⟩ (.slice (some ⟨X.s+1,0,none⟩) (j+1) n1))):=Af3 (by
                  have:=DI.push (c:=⟨k,fr⟩) OK.out hF.out (by rw[<-jL.out.1,NP.out];exact cK) dB
                  rwa[<-jL.out.1,NP.out] at this)
                 have vh:=(Ahe wr (.cells #[.int .i64 k,.int .i64 fr] 56) (some (X.s+1))).trans dB;have oA:=hF.out.lv.grown vh (by simp)
                 have DS:=hF.out.nx.grown vh (by simp)
                 have v0: W1.cell? ⟨X.s+2,0,none⟩=some (.slice (some ⟨X.s+1,0,none⟩) j n1):=by rw[jL.out.1,<-NP.out];exact oA.cell 0
                 have v1:=oA.frozen 0;have x0: W1.cell? ⟨X.s+3,0,none⟩=some (.func (.func 175) #[] #[.pointer (some ⟨X.s+2,0,none⟩),.pointer (some ⟨X.gs,0,none⟩),.pointer (some ⟨X.s,0,none⟩),.pointer (some ⟨X.go,0,none⟩),.pointer (some ⟨X.gn,0,none⟩),.pointer (some ⟨X.s+3,0,none⟩)]):=by rw[<-CH.out];exact DS.cell 0
                 have BS:=Af3 (IH.out (cs++ [⟨k,fr⟩]) _ (by have:=jL.out.2.1;simp;omega) QZ.out KW.out)
                 rw[CH.out,hs] at BS;clear cK dB vh oA DS)
              | (go_at_call 175;refine BS.out.mono ?_;rintro e w6 (⟨ac8,hr,rfl,hz⟩ | ⟨hr,-,-⟩)
                 rotate_left
                 ·cases hr
                 cases hr;obtain⟨i6,NC⟩:=HZ.out.lv _ _ hz;have v0: w6.cell? ⟨X.s+2,0,none⟩=some (.slice (some ⟨X.s+1,0,none⟩) i6 n1):=by have:=NC.cell 0;rw[NP.out] at this;exact this
                 have v1:=NC.frozen 0;have Rg:=Af3 (HZ.out.set full w6 j hz);rw[NP.out] at Rg;clear hz NC))
             rw[Exit.noGoto_ret];go_ret;exact .inl ⟨full,Yr.out,b9 rfl,Rg.out⟩
     ·have ql:(fr:Int)=x.aH:=by omega
      have NX:Hid (pC X.b X.n X.out (search X.b X.n X.out f) cs k=none):=Af3 (by
          unfold pC;rw[ho,if_neg (by simp)]
          exact C6.2 (fun j hj=>DO.out j (by rw[Q4.out] at hj;omega)))
      clear ql;go_wp2;go_roundw;case rel=>exact⟨k+1,by omega,by go_num,Af3 (fun q hq=>by
          rcases Agn.1 hq with h|rfl
          ·exact bj.out q h
          ·exact NX.out),hE⟩
      case measure=>simp[Ag7];omega
  ·obtain rfl:k=nb:=by omega
   go_wp2;go_ret;exact .inr ⟨by unfold search;rw[lD.out.2.2.2.2.2];exact C6.2 bj.out,b9 rfl,hD.out⟩
theorem Xd{X:cS}{B:Nat}(ok:X.Ok B)(hB:B<=X.s){Z:List Cut->Aa4->Prop}(hZ:zx X Z):∀(f:Nat) (cs:List Cut) (W:Aa4),cs.length+f=X.np->(∀c∈cs,oO X.b c)->DI X cs W->Af1 prog 175 X.args W (Gg X Z cs (search X.b X.n X.out f cs))
 |0,cs,W,hc,_,h=>ala ok hZ (by omega) h
 |f+1,cs,W,hc,fg,h=>alb ok hB hZ (Xd ok hB hZ f) hc fg h
theorem age:(prog.info? 56).map (fun i=>(i.zero,i.size,i.bytes))=some (some (.agg #[.int .i64 0,.int .i64 0]),2,16):=by
 rw[pB];kernel_rfl
set_option maxRecDepth 40000 in
theorem SJ{X:cS}{B:Nat}(ok:X.Ok B)(hB:B<=X.s){Z:List Cut->Aa4->Prop}(hZ:zx X Z)(hk:dK X.w X.gm X.b):
 Af1 prog 174 #[.func (.yield X.l) #[] #[],.pointer (some ⟨X.gs,0,none⟩),.pointer (some ⟨X.go,0,none⟩),.pointer (some ⟨X.gn,0,none⟩)] X.w fun e W'=>
  (∃v,e=.returned v)/\((∃full,search X.b X.n X.out X.np []=some full/\Z full W')\/(search X.b X.n X.out X.np []=none/\DI X [] W')):=by
 obtain⟨A1,n1,c1,pd,e1,h1,ez,-⟩:=ok.book.pieces.open_;have hn:=ok.valid.np;have ks:=ok.cs;rw[pd] at ks;have s1: X.w.cell? ⟨X.gs,1,none⟩=some (.slice A1 n1 c1):=ks.cell 1;have Uh:=ok.s;have Ar:=ok.gm;have hs:X.w.heap.size=X.s:=rfl;have b1:X.gs<X.w.heap.size:=by omega
 have b2:X.gs<=X.w.heap.size:=by omega
 obtain⟨i0,cR,cT,aN,ba⟩:=Agw age;have aow:1<=n1/\n1<=3:=by omega
 have Ay:∀w:Aa4,(Instr.makeSlice 27 (.int .i64 0) (.int .i64 n1)).run prog w=.ok (.slice (some ⟨w.heap.size,0,none⟩) 0 n1) (w.alloc (.cells (madeCells [.int .i64 0,.int .i64 0].toArray (n1 * 2)) 56)):=fun w=>by
  have hr:=run_makeSlice (P:=prog) w 27 56 i0 _ (U Tryz.underlying27) cR cT .i64 .i64 0 n1 (Int.le_refl _) (by omega) (by rw[aN];omega) (by rw[ba];omega) (by omega)
  rw[aN] at hr;simpa [Value.cells] using hr
 obtain⟨mc,NF⟩:∃mc,mc=madeCells [.int .i64 0,.int .i64 0].toArray (n1 * 2):=⟨_,rfl⟩
 rw[<-NF] at Ay;have UQ:mc.size=n1 * 2:=by rw[NF];exact size_madeCells _ _
 have mL:X.np=n1:=by unfold cS.np;exact e1
 have Ui:DI X [] ((((X.w.alloc (.cells #[.func (.yield X.l) #[] #[]] 139)).alloc (.cells mc 56)).alloc (.cells #[.slice (some ⟨X.w.heap.size+1,0,none⟩) 0 n1] 27)).alloc (.cells #[.func (.func 175) #[] #[.pointer (some ⟨X.w.heap.size+1+1,0,none⟩),.pointer (some ⟨X.gs,0,none⟩),.pointer (some ⟨X.w.heap.size,0,none⟩),.pointer (some ⟨X.go,0,none⟩),.pointer (some ⟨X.gn,0,none⟩),.pointer (some ⟨X.w.heap.size+1+1+1,0,none⟩)]] 29)):=by
  refine⟨(((Bk.cG rfl _ _).alloc _).alloc _).alloc _,?_,?_,Bk.cG (by simp[cS.s]) _ _,?_,?_⟩
  ·refine⟨rfl,.inr ⟨X.s+1,n1,mc,(by rw[mL];try rfl),Ac2 _,mm (mm (uI (by simp[cS.s]))),Agm _,by unfold Af0;omega,UQ,by simp⟩⟩
  ·rw[mL];exact(Bk.cG (by simp[cS.s]) _ _).alloc _
  ·exact((((Ahe _ _ _).trans (Ahe _ _ _)).trans (Ahe _ _ _)).trans (Ahe _ _ _))
  ·have:=hk
   exact(((this.grown (Ahe _ _ none) (by simp)).grown (Ahe _ _ none) (by simp)).grown (Ahe _ _ none) (by simp)).grown (Ahe _ _ none) (by simp)
 have call:=Xd ok hB hZ X.np [] _ (by simp) (by simp) Ui
 have Af:X.args=#[.pointer (some ⟨X.w.heap.size+1+1,0,none⟩),.pointer (some ⟨X.gs,0,none⟩),.pointer (some ⟨X.w.heap.size,0,none⟩),.pointer (some ⟨X.go,0,none⟩),.pointer (some ⟨X.gn,0,none⟩),.pointer (some ⟨X.w.heap.size+1+1+1,0,none⟩)]:=rfl;rw[Af] at call;have call2:=call.mono (R':=fun e W'=>(∃bb:Bool,e=.returned (.bool bb))/\Hid ((∃full,search X.b X.n X.out X.np []=some full/\Z full W')\/(search X.b X.n X.out X.np []=none/\DI X [] W'))) (by
  rintro e W' (⟨full,h1,h2,h3⟩ | ⟨h1,h2,h3⟩)
  ·exact⟨⟨_,h2⟩,Af3 (.inl ⟨full,h1,h3⟩)⟩
  ·exact⟨⟨_,h2⟩,Af3 (.inr ⟨h1,h3⟩)⟩)
 have aB:=Af3 call2;clear NF UQ mL Ui call call2 Af;have OK:=Af3 ok;have HZ:=Af3 hZ;have HK:=Af3 hk;have E1:=Af3 e1;clear ok hZ hk e1 pd ks cR cT aN ba hs hn;go_enter func174,Tryz.ntmps174;go_wp2_with (first
  | (go_at_call 175;refine aB.out.mono ?_;rintro e w1 ⟨⟨bb,rfl⟩,jY⟩))
 go_end0
 exact⟨⟨_,rfl⟩,jY.out⟩
theorem VH:(prog.info? 56).map (fun i=>(i.zero,i.size,i.bytes))=some (some (.agg #[.int .i64 0,.int .i64 0]),2,16):=by
 rw[pB];kernel_rfl
theorem aaC{ad:Addr}{n c:Nat}{news:List Value}{w:Aa4}(hl:news.length=n * 2)(hc:∀j u,news[j]?=some u-> w.cell? (ad.add j)=some u)(h1:∀u∈news,u.oneCell'=true)(hn:n<=1000000)(aC:ad.block<w.heap.size):
 Af1 prog 201 #[.slice (some ad) n c] w fun e w'=>∃v,e=.returned v/\w'.ownsRow w.heap.size 56 2 v n news/\Below w.heap.size w w':=by
 obtain⟨i0,cR,cT,aN,ba⟩:=Agw VH;have bI:=Af3 (Afx cR (Afx cT (Afx aN ba)));have HC:Hid (∀j u,news[j]?=some u->(w.alloc (.cells #[] 56)).cell? (ad.add j)=some u):=Af3 (fun j u hu=>(Af7 w _ _ (by rw[cq];exact aC)).trans (hc j u hu))
 have HL:=Af3 (Afx hl h1);have HO:Hid ((w.alloc (.cells #[] 56)).ownsRow w.heap.size 56 2 (.slice (some ⟨w.heap.size,0,none⟩) 0 0) 0 []):=Af3 ⟨rfl,.inr ⟨w.heap.size,0,#[],rfl,Ac2 _,heap_alloc_new w _,Ac2 _,by unfold Af0;omega,rfl,rfl⟩⟩
 clear hl hc h1 cR cT aN ba;have q:∀(w:Aa4) (a:Option Addr) (n c n' c':Nat),(binOp .eql 27 (.slice a n c) (.slice none n' c')).run prog w=.ok (.bool a.isNone) w:=fun w a n c n' c'=>Lib.run_eql_slice_nil w _ _ a n c n' c' (U Tryz.underlying27)
 go_enter func201,Tryz.ntmps201;go_wp2_with (first
  | (at_builtin
     refine Agx _ rfl (.tmp 5) (.tmp 6) 27 rfl w.heap.size 56 i0 (.agg #[.int .i64 0,.int .i64 0]) 2 16 (U Tryz.underlying27) bI.out.1 bI.out.2.1 bI.out.2.2.1 bI.out.2.2.2 rfl (by decide) _ 0 _ rfl HO.out ad n c news rfl HL.out.1 HC.out HL.out.2 ?c3 ?c4 ?c5 ?_
     case c3=>(simp only[Af0];omega)
     case c4=>omega
     case c5=>simp
     intro v' w1 cK dT _;have gW:=Af3 cK;have gV:=Af3 dT;clear cK dT))
 go_ret;refine⟨_,rfl,by have:=gW.out;rwa[Nat.zero_add,Ahl] at this,((Af6 _ _).alloc (Ac2 _) _).grown gV.out (by simp) (fun k hk=>ei HO.out k hk)⟩
theorem cS.Ok.alloc{X:cS}{B:Nat}(ok:X.Ok B)(hB:B<=X.w.heap.size)(o:Obj):cS.Ok {X with w:=X.w.alloc o} B where
 book:=ok.book.still ((Still.refl _).alloc hB o)
 valid:=ok.valid
 lens:=ok.lens
 sv:=ok.sv
 B:=ok.B
 s:=by have:=ok.s;simp[cS.s] at this |-;omega
 o:=by have:=ok.o;simp[cS.s] at this |-;omega
 gn:=by have:=ok.gn;simp[cS.s] at this |-;omega
 gm:=by have:=ok.gm;simp[cS.s] at this |-;omega
 ns:=ok.ns
 no:=ok.no
 nn:=ok.nn
 cs:=ok.cs.alloc o
 co:=ok.co.alloc o
 cn:=ok.cn.alloc o
 eg:=ok.eg
 out k W hk hg:=ok.out k W hk ((Ahe X.w o _).trans hg)
theorem cS.Ok.RF{X:cS}{B:Nat}(ok:X.Ok B)(l:Nat):cS.Ok {X with l:=l} B:=⟨ok.book,ok.valid,ok.lens,ok.sv,ok.B,ok.s,ok.o,ok.gn,ok.gm,ok.ns,ok.no,ok.nn,ok.cs,ok.co,ok.cn,ok.eg,ok.out⟩
end Go.Tw
namespace Go.Tw
variable [Go.Tw.aR]
open Go Go.Proofs Go.RowKit
attribute [local go_sem] ze zd Ag5
structure FZ(w0:Aa4)(gm:Nat)(b:ao)(rc:Loop)(np:Nat)(full:List Cut)(W:Aa4):Prop where
 r0:∃v,Bk W w0.heap.size 27 #[v]/\W.ownsRow (w0.heap.size+8) 56 2 v np (full.flatMap Cut.vs)
 r1:Bk W (w0.heap.size+1) 4 #[.bool true]
 d:W.heap[w0.heap.size+2]?=some (.deferred (some []))
 l:W.heap[w0.heap.size+3]?=some (.loop {rc with state:=.done,pending:=some .ret})
 lv:∃i,Bk W (w0.heap.size+4+2) 27 #[.slice (some ⟨w0.heap.size+4+1,0,none⟩) i np]
 gr:w0.grownBy W (some gm)
 known:dK W gm b
theorem Es{W:Aa4}{g:Nat}{b:ao}{p:Addr}{u:Value}(h:dK W g b)(hp:g≠p.block):dK (W.setCell p u) g b:=by
 obtain⟨es,clock,h1,h2⟩:=h;exact⟨es,clock,(Ag8 _ _ _ _ hp).trans h1,h2⟩
theorem FZ.set{w0:Aa4}{gm:Nat}{b:ao}{rc:Loop}{np:Nat}{full:List Cut}{W:Aa4}(h:FZ w0 gm b rc np full W)(Ar:gm<w0.heap.size)(i:Nat):FZ w0 gm b rc np full (W.setCell ⟨w0.heap.size+4+2,0,none⟩ (.slice (some ⟨w0.heap.size+4+1,0,none⟩) i np)):=by
 obtain⟨v,v1,v2⟩:=h.r0;obtain⟨i',hi⟩:=h.lv;exact⟨⟨v,v1.dn (by simp;omega) _,mO v2 (by simp)⟩,h.r1.dn (by simp) _,(Ag8 _ _ _ _ (by simp)).trans h.d,(Ag8 _ _ _ _ (by simp)).trans h.l,⟨i,hi.set 0 _⟩,xr h.gr (by simp;omega),Es h.known (by simp;omega)⟩
def Yu(X:cS)(e:Ending)(W':Aa4):Prop:=
 ((∃full v,search X.b X.n X.out X.np []=some full/\e=.returned (.tuple #[v,.bool true])/\W'.ownsRow X.w.heap.size 56 2 v X.np (full.flatMap Cut.vs))\/(search X.b X.n X.out X.np []=none/\e=.returned (.tuple #[.slice none 0 0,.bool false])))/\
 X.w.grownBy W' (some X.gm)/\dK W' X.gm X.b
theorem vT{w:Aa4}{base:Nat}{e:Aa1}{sz n g cap:Nat}{xs:List Value}(h:w.ownsRow base e sz (.slice (some ⟨g,0,none⟩) n cap) n xs):∀j u,xs[j]?=some u-> w.cell? ((⟨g,0,none⟩:Addr).add j)=some u:=by
 intro j u hu;rcases h.2 with⟨h0,_⟩ | ⟨g',xc,cur,h1,h2,h3,h4,h5,h6,h7⟩
 ·cases h0
 ·cases h1
  rw[nu];refine(cell_of_row w g j cur _ (0,0) h3).trans ?_
  rw[<-h7,List.getElem?_take] at hu
  split at hu
  ·rw[<-Agv];exact hu
  ·cases hu
theorem aba(l:List Cut):∀u∈l.flatMap Cut.vs,u.oneCell'=true:=by
 intro u hu;simp only[List.mem_flatMap,Cut.vs,List.mem_cons,List.not_mem_nil,or_false] at hu;obtain⟨c,_,rfl|rfl⟩:=hu<;>rfl
set_option maxRecDepth 40000 in
theorem S9{X:cS}{B:Nat}(ok:X.Ok B)(hB:B<=X.w.heap.size)(hk:dK X.w X.gm X.b):
 Af1 prog 170 #[fv 174 #[.pointer (some ⟨X.gs,0,none⟩),.pointer (some ⟨X.go,0,none⟩),.pointer (some ⟨X.gn,0,none⟩)]] X.w (Yu X):=by
 refine(callsIn_wide (n:=0)).1 ?_
 have Ar:=ok.gm;have hs:X.s=X.w.heap.size:=rfl;have aol:X.gm<X.w.heap.size:=Ar;have OK:=Af3 ok;have HK:=Af3 hk;have kH:1<=X.np/\X.np<=3:=ok.valid.np;clear ok hk;refine callsIn_of_wp_marks func170 rfl trivial ?_
 simp only[Tryz.ntmps170,Ahg,Ahh,Ahi,Ahs,Aht,Agt,Agu,Ahj,Ahk,Ahl,Ahm]
 gi_wp2
 refine Pr (gf:=174) (pre:=#[]) (lb:=#[.pointer (some ⟨X.gs,0,none⟩),.pointer (some ⟨X.go,0,none⟩),.pointer (some ⟨X.gn,0,none⟩)]) rfl call174 fun fn rc gP=>?_
 simp only[World.size_alloc,Nat.add_assoc,Ahs,Ahk,Ahm,Ahl,List.append_nil];obtain⟨W1,eJ⟩:∃W1,W1=(((X.w.alloc (Af4 #[Value.slice none 0 0] 27)).alloc (Af4 #[Value.bool false] 4)).alloc (Obj.deferred (some []))).alloc (Obj.loop rc):=⟨_,rfl⟩
 have AA:=((((OK.out.alloc hB (.cells #[.slice none 0 0] 27)).alloc (by simp;omega) (.cells #[.bool false] 4)).alloc (by simp;omega) (.deferred (some []))).alloc (by simp;omega) (.loop rc)).RF (X.w.heap.size+3)
 have ML:W1.heap.size=X.w.heap.size+4:=by rw[eJ];simp
 have xT:W1.heap[X.w.heap.size+3]?=some (.loop rc):=by rw[eJ];exact uI (by simp)
 have jT:W1.heap[X.w.heap.size+2]?=some (.deferred (some [])):=by rw[eJ];exact mm (uI (by simp))
 have k0:Bk W1 X.w.heap.size 27 #[.slice none 0 0]:=by rw[eJ];exact(((Bk.new _ _ _).alloc _).alloc _).alloc _
 have k1:Bk W1 (X.w.heap.size+1) 4 #[.bool false]:=by rw[eJ];exact((Bk.cG (by simp) _ _).alloc _).alloc _
 have dB:X.w.grownBy W1 (some X.gm):=by rw[eJ];exact(((Ahe _ _ _).trans (Ahe _ _ _)).trans (Ahe _ _ _)).trans (Ahe _ _ _)
 have dg:dK W1 X.gm X.b:=HK.out.grown (row:=none) (by rw[eJ];exact(((Ahe _ _ _).trans (Ahe _ _ _)).trans (Ahe _ _ _)).trans (Ahe _ _ _)) (by simp)
 rw[<-eJ] at AA |-
 clear eJ;obtain⟨X1,gv⟩:∃X1:cS,X1={X with w:=W1,l:=X.w.heap.size+3}:=⟨_,rfl⟩
 have dh:X1.Ok B:=by rw[gv];exact AA
 have e0:X1.s=X.w.heap.size+4:=by rw[gv];exact ML
 have hZ:zx X1 (FZ X.w X.gm X.b rc X.np):=by
  refine⟨fun full W hz=>?_,fun full W i hz=>?_,?yr⟩
  ·obtain⟨i,hi⟩:=hz.lv
   rw[e0,show X1.np=X.np by rw[gv];rfl];exact⟨i,hi⟩
  ·rw[e0,show X1.np=X.np by rw[gv];rfl];exact hz.set (by rw[<-hs];exact Ar) i
  ·intro m full W hlen hD
   have xY:X1.np=X.np:=by rw[gv];rfl
   have Np:X1.gm=X.gm:=by rw[gv]
   have yo:X1.w=W1:=by rw[gv]
   have ae:X1.b=X.b:=by rw[gv]
   have UA:X1.l=X.w.heap.size+3:=by rw[gv]
   have eh:=hD.gr;rw[yo,Np] at eh;have oz:W.heap[X.w.heap.size+3]?=some (.loop rc):=(eh.block _ (by omega) (by simp;omega)).trans xT
   have fJ:W.heap[X.w.heap.size+2]?=some (.deferred (some [])):=(eh.block _ (by omega) (by simp;omega)).trans jT
   have Eo:Bk W X.w.heap.size 27 #[.slice none 0 0]:=k0.grown eh (by simp;omega)
   have tP:Bk W (X.w.heap.size+1) 4 #[.bool false]:=k1.grown eh (by simp;omega)
   have oA:Bk W (X.w.heap.size+4+2) 27 #[.slice (some ⟨X.w.heap.size+4+1,0,none⟩) X.np X.np]:=by have:=hD.lv;rw[e0,hlen,xY] at this;exact this
   have Ag:W.ownsRow (X.w.heap.size+4+1) 56 2 (.slice (some ⟨X.w.heap.size+4+1,0,none⟩) X.np X.np) X.np (full.flatMap Cut.vs):=by have:=hD.arr;rw[e0,hlen,xY] at this;exact this
   have da:dK W X.gm X.b:=by have:=hD.known;rw[Np,ae] at this;exact this
   have mG:X.w.heap.size+4+3<W.heap.size:=by have:=hD.nx.lt;rw[e0] at this;exact this
   rw[UA,e0,xY];refine Qy (n:=0) gP oz rfl ?_
   gi_wp2
   refine⟨_,LA gP oz,?_⟩
   obtain⟨Wb,qe⟩:∃Wb,Wb=W.putObj (X.w.heap.size+3) (.loop {rc with state:=.busy}):=⟨_,rfl⟩
   rw[<-qe];have k8:∀g,g≠X.w.heap.size+3->Wb.heap[g]?=W.heap[g]?:=fun g hg=>by rw[qe];exact Ahd hg
   have tE:Wb.heap[X.w.heap.size+3]?=some (.loop {rc with state:=.busy}):=by rw[qe];exact Ahc (by omega)
   have DZ:Wb.heap.size=W.heap.size:=by rw[qe];simp
   have Aq:X.w.grownBy Wb (some X.gm):=by
    rw[qe];exact xq (dB.trans eh) (Agz W _ _) (fun g e=>by cases e;omega)
   have ig:dK Wb X.gm X.b:=by
    obtain⟨es,clock,h1,h2⟩:=da;exact⟨es,clock,(k8 _ (by omega)).trans h1,h2⟩
   have VL:Bk Wb X.w.heap.size 27 #[.slice none 0 0]:=(k8 _ (by omega)).trans Eo
   have VM:Bk Wb (X.w.heap.size+1) 4 #[.bool false]:=(k8 _ (by omega)).trans tP
   have Uf:Wb.heap[X.w.heap.size+2]?=some (.deferred (some [])):=(k8 _ (by omega)).trans fJ
   have UO:Bk Wb (X.w.heap.size+4+2) 27 #[.slice (some ⟨X.w.heap.size+4+1,0,none⟩) X.np X.np]:=(k8 _ (by omega)).trans oA
   have hab:Wb.ownsRow (X.w.heap.size+4+1) 56 2 (.slice (some ⟨X.w.heap.size+4+1,0,none⟩) X.np X.np) X.np (full.flatMap Cut.vs):=by
    rw[qe];exact EK Ag (by omega)
   have UG:full.length=X.np:=hlen.trans xY;have eI:=lu (R:=Cut.R) (f:=Cut.vs) (l:=full) (by rw[UG];exact hab) (fun _=>rfl) (fun _ _=>rfl)
   have Hs:∀j u,(full.flatMap Cut.vs)[j]?=some u-> Wb.cell? ((⟨X.w.heap.size+4+1,0,none⟩:Addr).add j)=some u:=fun j u hu=>vT hab j u hu
   have AB:∀u∈full.flatMap Cut.vs,u.oneCell'=true:=aba full
   have Az:(full.flatMap Cut.vs).length=X.np * 2:=hab.1;have aB:=Af3 (aaC (n:=X.np) (c:=X.np) Az Hs AB (by omega) (by simp;omega))
   have FR:=Af3 (Afx Aq (Afx ig (Afx VL (Afx VM (Afx Uf (Afx UO tE))))));clear qe k8 hab eI Hs AB Az Aq ig VL VM Uf UO tE oz fJ Eo tP oA Ag da eh hD gv dh AA UG hlen xY Np yo ae UA e0 k0 k1 dB dg xT jT ML hs
   gi_wp2_with (first
    | (gi_at_call 201;refine(callsIn_wide.2 aB.out).mono ?_;rintro e w1 ⟨v,rfl,aG,ae⟩
       obtain⟨A9,m9,c9,rfl⟩:=j8 aG;have q0:Bk w1 X.w.heap.size 27 #[.slice none 0 0]:=FR.out.2.2.1.below ae (by omega)
       have q1:Bk w1 (X.w.heap.size+1) 4 #[.bool false]:=FR.out.2.2.2.1.below ae (by omega)
       have r0: w1.cell? ⟨X.w.heap.size,0,none⟩=some (.slice none 0 0):=q0.cell 0;have z0:=q0.frozen 0;have r1: w1.cell? ⟨X.w.heap.size+1,0,none⟩=some (.bool false):=q1.cell 0;have z1:=q1.frozen 0;have sO:=Af3 (Afx aG (Afx ae (Afx q0 q1)));clear aG ae q0 q1))
   have hzb:X.w.heap.size+7<Wb.heap.size:=by omega
   have aN:=sO.out.2.1.size;refine⟨_,_,SQ .ret ((Ag8 _ _ _ _ (by simp)).trans ((Ag8 _ _ _ _ (by simp)).trans ((sO.out.2.1.block _ (by omega)).trans FR.out.2.2.2.2.2.2))),rfl,?_⟩
   refine⟨⟨_,(Ahd (by omega)).trans ((sO.out.2.2.1.set 0 _).dn (by simp) _),EK (mO (mO (sO.out.1.base (by omega)) (by simp)) (by simp)) (by omega)⟩,
    (Ahd (by omega)).trans ((sO.out.2.2.2.dn (by simp) _).set 0 _),(Ahd (by omega)).trans ((Ag8 _ _ _ _ (by simp)).trans ((Ag8 _ _ _ _ (by simp)).trans ((sO.out.2.1.block _ (by omega)).trans FR.out.2.2.2.2.1))),
    Ahc (by simp[Ac0];omega),⟨_,(Ahd (by omega)).trans (((FR.out.2.2.2.2.2.1.below sO.out.2.1 (by omega)).dn (by simp;omega) _).dn (by simp) _)⟩,?_,?_⟩
   ·exact xq (xr (xr (FR.out.1.trans (je sO.out.2.1 (Ac2 _) _)) (by simp)) (by simp)) (Agz _ _ _) (fun g e=>by cases e;omega)
   ·have fh:=Es (u:=.bool true) (p:=⟨X.w.heap.size+1,0,none⟩) (Es (u:=.slice A9 m9 c9) (p:=⟨X.w.heap.size,0,none⟩) (FR.out.2.1.below sO.out.2.1 FR.out.2.1.lt) (by simp;omega)) (by simp;omega)
    obtain⟨es,clock,h1,h2⟩:=fh;exact⟨es,clock,(Ahd (by omega)).trans h1,h2⟩
 have call:=SJ dh (by rw[e0];omega) hZ (by rw[gv];exact dg)
 rw[show X1.l=X.w.heap.size+3 by rw[gv],show X1.gs=X.gs by rw[gv],show X1.go=X.go by rw[gv],show X1.gn=X.gn by rw[gv],show X1.w=W1 by rw[gv],show X1.b=X.b by rw[gv],show X1.n=X.n by rw[gv],show X1.out=X.out by rw[gv],show X1.np=X.np by rw[gv];rfl] at call
 refine(callsIn_wide.2 call).mono ?_
 rintro e W2 ⟨⟨v,rfl⟩,(⟨full,tM,hz⟩ | ⟨tM,hD⟩)⟩
 ·have HZ:=Af3 hz
  have HS:=Af3 tM;obtain⟨v2,v21,v22⟩:=hz.r0;obtain⟨A9,m9,c9,rfl⟩:=j8 v22;refine⟨some .ret,_,SW hz.l,?_⟩
  obtain⟨W3,iL⟩:∃W3,W3=W2.putObj (X.w.heap.size+3) (.loop {rc with state:=.exhausted,pending:=some .ret}):=⟨_,rfl⟩
  have q0:Bk W3 X.w.heap.size 27 #[.slice A9 m9 c9]:=by rw[iL];exact(Ahd (by omega)).trans v21
  have q1:Bk W3 (X.w.heap.size+1) 4 #[.bool true]:=by rw[iL];exact(Ahd (by omega)).trans hz.r1
  have Ky:Hid (W3.heap[X.w.heap.size+2]?=some (.deferred (some []))):=Af3 (by rw[iL];exact(Ahd (by omega)).trans hz.d)
  have iD:Hid (X.w.grownBy W3 (some X.gm)/\dK W3 X.gm X.b/\W3.ownsRow (X.w.heap.size+8) 56 2 (.slice A9 m9 c9) X.np (full.flatMap Cut.vs)):=Af3 (by
   rw[iL];refine⟨xq hz.gr (Agz _ _ _) (fun g e=>by cases e;omega),?_,EK v22 (by omega)⟩
   obtain⟨es,clock,h1,h2⟩:=hz.known;exact⟨es,clock,(Ahd (by omega)).trans h1,h2⟩)
  have Q:=Af3 (Afx q0 q1);have cT:X.w.heap.size+1<W3.heap.size:=q1.lt;rw[<-iL];clear iL hz v21 v22 tM q0 q1;show Code.wpIn Ag3 0 prog Code.ret _ _ _
  gi_wp2
  refine⟨by simp,.inl ⟨_,_,rfl,Ag0 Ky.out,?_⟩⟩
  have r0:(W3.putObj (X.w.heap.size+2) (.deferred none)).cell? ⟨X.w.heap.size,0,none⟩=some (.slice A9 m9 c9):=Bk.cell (g:=X.w.heap.size) ((Ahd (by omega)).trans Q.out.1) 0
  have r1:(W3.putObj (X.w.heap.size+2) (.deferred none)).cell? ⟨X.w.heap.size+1,0,none⟩=some (.bool true):=Bk.cell (g:=X.w.heap.size+1) ((Ahd (by omega)).trans Q.out.2) 0
  refine⟨.tuple #[.slice A9 m9 c9,.bool true],by simp[results,Tryz.results170,go_sem,r0,r1],.inl ⟨full,.slice A9 m9 c9,HS.out,rfl,(EK iD.out.2.2 (by omega)).base (by omega)⟩,xq iD.out.1 (Agz _ _ _) (fun g e=>by cases e;omega),?_⟩
  obtain⟨es,clock,h1,h2⟩:=iD.out.2.1;exact⟨es,clock,(Ahd (by omega)).trans h1,h2⟩
 ·have HS:=Af3 tM
  have eh:=hD.gr;rw[show X1.w=W1 by rw[gv],show X1.gm=X.gm by rw[gv]] at eh
  have da:dK W2 X.gm X.b:=by have:=hD.known;rw[show X1.gm=X.gm by rw[gv],show X1.b=X.b by rw[gv]] at this;exact this
  have oz:W2.heap[X.w.heap.size+3]?=some (.loop rc):=(eh.block _ (by omega) (by simp;omega)).trans xT
  have fJ:W2.heap[X.w.heap.size+2]?=some (.deferred (some [])):=(eh.block _ (by omega) (by simp;omega)).trans jT
  have Eo:Bk W2 X.w.heap.size 27 #[.slice none 0 0]:=k0.grown eh (by simp;omega)
  have tP:Bk W2 (X.w.heap.size+1) 4 #[.bool false]:=k1.grown eh (by simp;omega)
  refine⟨none,_,L7 gP oz,?_⟩
  obtain⟨W3,iL⟩:∃W3,W3=W2.putObj (X.w.heap.size+3) (.loop {rc with state:=.exhausted}):=⟨_,rfl⟩
  have q0:Bk W3 X.w.heap.size 27 #[.slice none 0 0]:=by rw[iL];exact(Ahd (by omega)).trans Eo
  have q1:Bk W3 (X.w.heap.size+1) 4 #[.bool false]:=by rw[iL];exact(Ahd (by omega)).trans tP
  have Ky:Hid (W3.heap[X.w.heap.size+2]?=some (.deferred (some []))):=Af3 (by rw[iL];exact(Ahd (by omega)).trans fJ)
  have iD:Hid (X.w.grownBy W3 (some X.gm)/\dK W3 X.gm X.b):=Af3 (by
   rw[iL];refine⟨xq (dB.trans eh) (Agz _ _ _) (fun g e=>by cases e;omega),?_⟩
   obtain⟨es,clock,h1,h2⟩:=da;exact⟨es,clock,(Ahd (by omega)).trans h1,h2⟩)
  have Q:=Af3 (Afx q0 q1);have r0: W3.cell? ⟨X.w.heap.size,0,none⟩=some (.slice none 0 0):=q0.cell 0;have r1: W3.cell? ⟨X.w.heap.size+1,0,none⟩=some (.bool false):=q1.cell 0;have z0:=q0.frozen 0;have z1:=q1.frozen 0;have cT:X.w.heap.size+1<W3.heap.size:=q1.lt;rw[<-iL];clear iL hD tM eh da oz fJ Eo tP q0 q1 hZ call dh AA gv e0 k0 k1 dB dg xT jT ML hs;show Exit.inBlock _ _ _ _ _
  gi_wp2
  refine⟨by simp,.inl ⟨_,_,rfl,Ag0 ((Ag8 _ _ _ _ (by simp)).trans ((Ag8 _ _ _ _ (by simp)).trans Ky.out)),?_⟩⟩
  have t0:(((W3.setCell ⟨X.w.heap.size,0,none⟩ (.slice none 0 0)).setCell ⟨X.w.heap.size+1,0,none⟩ (.bool false)).putObj (X.w.heap.size+2) (.deferred none)).cell? ⟨X.w.heap.size,0,none⟩=some (.slice none 0 0):=Bk.cell (g:=X.w.heap.size) (t:=27) (cs:=#[.slice none 0 0]) ((Ahd (by omega)).trans ((Q.out.1.set 0 (.slice none 0 0)).dn (by simp) _)) 0
  have t1:(((W3.setCell ⟨X.w.heap.size,0,none⟩ (.slice none 0 0)).setCell ⟨X.w.heap.size+1,0,none⟩ (.bool false)).putObj (X.w.heap.size+2) (.deferred none)).cell? ⟨X.w.heap.size+1,0,none⟩=some (.bool false):=Bk.cell (g:=X.w.heap.size+1) (t:=4) (cs:=#[.bool false]) ((Ahd (by omega)).trans ((Q.out.2.dn (by simp) _).set 0 (.bool false))) 0
  refine⟨.tuple #[.slice none 0 0,.bool false],by simp[results,Tryz.results170,go_sem,t0,t1],.inr ⟨HS.out,rfl⟩,xq (xr (xr iD.out.1 (by simp)) (by simp)) (Agz _ _ _) (fun g e=>by cases e;omega),?_⟩
  obtain⟨es,clock,h1,h2⟩:=Es (u:=.bool false) (p:=⟨X.w.heap.size+1,0,none⟩) (Es (u:=.slice none 0 0) (p:=⟨X.w.heap.size,0,none⟩) iD.out.2 (by simp;omega)) (by simp;omega)
  exact⟨es,clock,(Ahd (by omega)).trans h1,h2⟩
end Go.Tw
namespace Go.Tw
variable [Go.Tw.aR]
open Go Go.Proofs Go.RowKit
def Xl(w:Aa4)(b:ao)(pv bv tv:Value)(e:Ending)(w':Aa4):Prop:=∃g,e=.returned (.tuple #[.agg #[.int .i64 0,.slice none 0 0,.slice none 0 0,.slice none 0 0,.slice none 0 0,.map (some g)],.int .i64 (cj b 0)])/\Below w.heap.size w w'
theorem als{w:Aa4}{b:ao}{pv bv tv:Value}{B:Nat}(hB:B<=w.heap.size)(ai:bg w B b pv bv tv)(h:cj b 0≠0):
 Af1 prog 119 #[.agg #[.int .i64 b.ag,pv,bv,tv]] w (Xl w b pv bv tv):=by
 have st:Still B w ((w.alloc (.cells #[.int .i64 b.ag,pv,bv,tv] 26)).alloc (.cells #[.int .i64 0,.slice none 0 0,.slice none 0 0,.slice none 0 0,.slice none 0 0,.map none] 151)):=((Still.refl w).alloc hB _).alloc (by simp;omega) _
 have aB:=Af3 (ajn (w:=((w.alloc (.cells #[.int .i64 b.ag,pv,bv,tv] 26)).alloc (.cells #[.int .i64 0,.slice none 0 0,.slice none 0 0,.slice none 0 0,.slice none 0 0,.map none] 151))) (B:=B) (by simp;omega) (ai.still st) (Gp (ai.still st)) h)
 obtain⟨s,hs⟩:∃s,s=cj b 0:=⟨_,rfl⟩
 have HS:=Af3 hs;rw[<-hs] at aB h;obtain⟨A1,n1,c1,rfl,-⟩:=ai.pieces.open_;obtain⟨A2,n2,c2,rfl,-⟩:=ai.aF.open_;obtain⟨A3,n3,c3,rfl,-⟩:=ai.aJ.open_;clear ai st hs;have hmm:= @run_makeMap prog;go_enter func119,Tryz.ntmps119;go_wp2_with (first
  | (go_at_call 98;refine aB.out.mono ?_;rintro e w1 ⟨rfl,ae⟩
     have k1:Bk w1 (w.heap.size+1) 151 #[.int .i64 0,.slice none 0 0,.slice none 0 0,.slice none 0 0,.slice none 0 0,.map none]:=(Bk.cG (by simp) _ _).below ae (by simp)
     have r0:=k1.cell 0;have z0:=k1.frozen 0;have r1:=k1.cell 1;have z1:=k1.frozen 1;have r2:=k1.cell 2;have z2:=k1.frozen 2;have r3:=k1.cell 3;have z3:=k1.frozen 3;have r4:=k1.cell 4;have z4:=k1.frozen 4;have r5:=k1.cell 5;have z5:=k1.frozen 5;have aN:w.heap.size+1<w1.heap.size:=by have:=ae.size;simp at this;omega
     have ba:w.heap.size+1<=w1.heap.size:=by omega
     have jB:w.heap.size<w1.heap.size:=by omega
     have vG:w.heap.size<=w1.heap.size:=by omega
     have YI:=Af3 k1;have aY:Hid (Below w.heap.size w w1):=Af3 ((((Af6 _ _).alloc (Ac2 _) _).alloc (by simp) _).trans (ae.mono (by simp;omega)))
     clear ae k1))
 refine Ag1 (v:=.tuple #[.agg #[.int .i64 0,.slice none 0 0,.slice none 0 0,.slice none 0 0,.slice none 0 0,.map (some (w1.heap.size+1))],.int .i64 s]) (by simp[results,Tryz.results119,go_sem,r0,r1,r2,r3,r4,r5,aN,ba,jB,vG]) rfl ?_
 rw[show s=cj b 0 from HS.out]
 refine⟨_,rfl,?_⟩
 ((refine Ahb (Ahb ?_ (by simp[Ac0];omega) _) (by simp[Ac0];omega) _);(repeat refine Aha ?_ (by simp) _);exact aY.out)
def alr(w:Aa4)(b:ao)(pv bv tv:Value)(e:Ending)(w':Aa4):Prop:=∃sv g,e=.returned (.tuple #[.agg #[.int .i64 b.ag,pv,bv,tv,sv,.map (some g)],.int .i64 0])/\eZ w' w.heap.size sv (aD b)/\dK w' g b/\w.heap.size<=g/\Below w.heap.size w w'
theorem PO{w:Aa4}{b:ao}{pv bv tv:Value}{B:Nat}(hB:B<=w.heap.size)(ai:bg w B b pv bv tv)(h:cj b 0=0):
 Af1 prog 119 #[.agg #[.int .i64 b.ag,pv,bv,tv]] w (alr w b pv bv tv):=by
 have st:Still B w ((w.alloc (.cells #[.int .i64 b.ag,pv,bv,tv] 26)).alloc (.cells #[.int .i64 0,.slice none 0 0,.slice none 0 0,.slice none 0 0,.slice none 0 0,.map none] 151)):=((Still.refl w).alloc hB _).alloc (by simp;omega) _
 have aB:=Af3 (yL (w:=((w.alloc (.cells #[.int .i64 b.ag,pv,bv,tv] 26)).alloc (.cells #[.int .i64 0,.slice none 0 0,.slice none 0 0,.slice none 0 0,.slice none 0 0,.map none] 151))) (B:=B) (by simp;omega) (ai.still st) (Gp (ai.still st)) h)
 obtain⟨A1,n1,c1,rfl,-⟩:=ai.pieces.open_;obtain⟨A2,n2,c2,rfl,-⟩:=ai.aF.open_;obtain⟨A3,n3,c3,rfl,-⟩:=ai.aJ.open_;clear ai st h;have hmm:= @run_makeMap prog;go_enter func119,Tryz.ntmps119;go_wp2_with (first
  | (go_at_call 98;refine aB.out.mono ?_;rintro e w1 ⟨sv,rfl,aG,ae⟩
     obtain⟨A9,m9,c9,rfl⟩:=j8 aG;have HO:=Af3 aG;have k1:Bk w1 (w.heap.size+1) 151 #[.int .i64 0,.slice none 0 0,.slice none 0 0,.slice none 0 0,.slice none 0 0,.map none]:=(Bk.cG (by simp) _ _).below ae (by simp)
     have r0:=k1.cell 0;have z0:=k1.frozen 0;have r1:=k1.cell 1;have z1:=k1.frozen 1;have r2:=k1.cell 2;have z2:=k1.frozen 2;have r3:=k1.cell 3;have z3:=k1.frozen 3;have r4:=k1.cell 4;have z4:=k1.frozen 4;have r5:=k1.cell 5;have z5:=k1.frozen 5;have aN:w.heap.size+1<w1.heap.size:=by have:=ae.size;simp at this;omega
     have ba:w.heap.size+1<=w1.heap.size:=by omega
     have jB:w.heap.size<w1.heap.size:=by omega
     have vG:w.heap.size<=w1.heap.size:=by omega
     have YI:=Af3 k1;have aY:Hid (Below w.heap.size w w1):=Af3 ((((Af6 _ _).alloc (Ac2 _) _).alloc (by simp) _).trans (ae.mono (by simp;omega)))
     clear ae k1 aG))
 refine Ag1 (v:=.tuple #[.agg #[.int .i64 b.ag,.slice A1 n1 c1,.slice A2 n2 c2,.slice A3 n3 c3,.slice A9 m9 c9,.map (some (w1.heap.size+1))],.int .i64 0]) (by simp[results,Tryz.results119,go_sem,r0,r1,r2,r3,r4,r5,aN,ba,jB,vG]) rfl ?_
 refine⟨_,_,rfl,?_,?_,?_,?_⟩
 ·refine eZ.base (base:=w.heap.size+2) ?_ (by omega)
  have h0:eZ w1 (w.heap.size+2) (.slice A9 m9 c9) (aD b):=by have:=HO.out;simpa using this
  first
   |exact((((((((h0.set (by simp)).set (by simp)).set (by simp)).set (by simp)).set (by simp)).set (by simp)).alloc _).alloc _)
   | (repeat(first|exact h0|refine eZ.set ?_ (by simp) |refine eZ.alloc ?_ _))
 ·exact⟨#[],0,uI (by simp[Ac0]),by simp⟩
 ·omega
 · ((refine Ahb (Ahb ?_ (by simp[Ac0];omega) _) (by simp[Ac0];omega) _);(repeat refine Aha ?_ (by simp) _);exact aY.out)
end Go.Tw
