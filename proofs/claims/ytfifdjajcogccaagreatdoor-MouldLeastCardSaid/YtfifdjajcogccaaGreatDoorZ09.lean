/- In the best cuttings of the mould no piece can be cut from a place nearer to the beginning of its board, all others staying where they are: MouldLeast returns true for every book, piece and place. Conditions: the card's own (no input is left out; mould.measures is as the program's text lays it). Printed from longer texts by a program: names and blanks are cut. -/
import Derived.Test.YtfifdjajcogccaaGreatDoorZ08
import Derived.Test.YtfifdjajcogccaaGreatDoorZ06
import Derived.BigGuard
import Derived.Deep.RegionWith
import Derived.Deep.RegionLaw
set_option linter.all false
set_option maxHeartbeats 64000000
set_option maxRecDepth 20000
open And renaming intro -> Afx
open Array renaming getD_eq_getD_getElem? -> Aaa, replicate -> Aeo, getElem?_setIfInBounds -> Aai, getElem?_eq_none_iff -> Ajd, getElem?_eq_getElem -> Adb, getElem?_eq_some_iff -> Aaf, getElem?_eq_none -> Aan, getElem?_replicate -> Aje
open Go renaming Addr -> Aay, World -> Aa4, Calls -> Af1, Oper -> Aev, wpList -> Ajf, wpAny -> Ajg, maxLen -> Af0, wpAny_take -> Ajh, getD_set_ne -> Aji
open Go.IntKind renaming i64 -> Ack
open Go.Lib renaming hid -> Af3
open Go.Obj renaming cells -> Af4
open Go.Region renaming ready -> Afj, wanted -> Afi
open Go.RowKit renaming Below -> Ahz, intOf -> Ag7
open Go.RowKit.Below renaming refl -> Ai4, alloc -> Ajj, trans -> Ajk, refl -> Af6
open Int renaming ofNat -> Ajl
open List renaming all_eq_true -> Ajm, range -> Af9, mem_cons -> Aef, take_succ_cons -> Agi, not_mem_nil -> Aeg, drop_zero -> Agl, drop_succ_cons -> Agk, take_zero -> Agj, setIfInBounds_toArray -> Ajn, set_cons_zero -> Ajo, set_cons_succ -> Ai7
open Nat renaming le_refl -> Ac2
open Ne renaming symm -> Aei
open Option renaming getD_some -> Afv, map_some -> Afu
namespace Go.Jn
open Go Go.Proofs Go.Sim Go.Conc Go.Tw Go.RowKit
section
variable [Go.Tw.aR]
set_option maxRecDepth 400000 in
theorem rz3{gE gp gb gt gc g3:Nat}{W:Option Aay->Nat->Nat->Aa4->Prop}{a:Act}{w:Aa4}(hs:Sl [(0,.bool false),(1,.pointer (some ⟨gE,0,none⟩)),(2,.slice (some ⟨gc,0,none⟩) 3 3),(3,.slice (some ⟨g3,0,none⟩) 3 3)] a)(hc:Bk w gE 26 #[.int .i64 1,.slice (some ⟨gp,0,none⟩) 3 3,.slice (some ⟨gb,0,none⟩) 2 2,.slice (some ⟨gt,0,none⟩) 1 1])
 (aB:Af1 prog 47 #[.agg #[.int .i64 1,.slice (some ⟨gp,0,none⟩) 3 3,.slice (some ⟨gb,0,none⟩) 2 2,.slice (some ⟨gt,0,none⟩) 1 1],.int .i64 0] w fun e w'=>∃A4 n4 c4,e=.returned (.tuple #[.slice A4 n4 c4,.int .i64 0])/\W A4 n4 c4 w'):sx.wp prog (dP fun a w=>∃A4 n4 c4,Sl [(0,.bool false),(1,.pointer (some ⟨gE,0,none⟩)),(2,.slice (some ⟨gc,0,none⟩) 3 3),(3,.slice (some ⟨g3,0,none⟩) 3 3),(4,.slice A4 n4 c4),(5,.int .i64 0)] a/\W A4 n4 c4 w) a w:=by
 obtain⟨x,rfl,hx⟩:=hs.lit;simp only[Al] at hx;have q0:=hc.cell 0;have q1:=hc.cell 1;have q2:=hc.cell 2;have q3:=hc.cell 3;have aB:=Af3 aB;clear hc;unfold lit;simp only[hx];simp only[sx,iB,gT,gS,gR,hJ,Tryz.f21,bO,a8,Afv];go_wp2_with (go_at_call 47;refine aB.out.mono ?_;rintro e w1 ⟨A4,n4,c4,rfl,hp⟩;have HP:=Af3 hp;clear hp)
 exact⟨A4,n4,c4,⟨rfl,rfl,(by repeat first|exact iT|refine eN rfl ?_)⟩,HP.out⟩
set_option maxRecDepth 400000 in
theorem rz4{gE gp gb gt gc g3:Nat}{A4:Option Aay}{n4 c4:Nat}{W:Aa4->Prop}{a:Act}{w:Aa4}(hs:Sl [(0,.bool false),(1,.pointer (some ⟨gE,0,none⟩)),(2,.slice (some ⟨gc,0,none⟩) 3 3),(3,.slice (some ⟨g3,0,none⟩) 3 3),(4,.slice A4 n4 c4),(5,.int .i64 0)] a)(hc:Bk w gE 26 #[.int .i64 1,.slice (some ⟨gp,0,none⟩) 3 3,.slice (some ⟨gb,0,none⟩) 2 2,.slice (some ⟨gt,0,none⟩) 1 1])
 (aB:Af1 prog 48 #[.agg #[.int .i64 1,.slice (some ⟨gp,0,none⟩) 3 3,.slice (some ⟨gb,0,none⟩) 2 2,.slice (some ⟨gt,0,none⟩) 1 1],.int .i64 0,.int .i64 0] w fun e w'=>e=.returned (.tuple #[.int .i64 4,.int .i64 0])/\W w'):sA.wp prog (dP fun a w=>Sl [(0,.bool false),(1,.pointer (some ⟨gE,0,none⟩)),(2,.slice (some ⟨gc,0,none⟩) 3 3),(3,.slice (some ⟨g3,0,none⟩) 3 3),(4,.slice A4 n4 c4),(5,.int .i64 0),(6,.int .i64 4),(7,.int .i64 0)] a/\W w) a w:=by
 obtain⟨x,rfl,hx⟩:=hs.lit;simp only[Al] at hx;have q0:=hc.cell 0;have q1:=hc.cell 1;have q2:=hc.cell 2;have q3:=hc.cell 3;have aB:=Af3 aB;clear hc;unfold lit;simp only[hx];simp only[sA,iV,iB,gT,gS,gR,hJ,Tryz.f21,bO,a8,Afv];go_wp2_with (go_at_call 48;refine aB.out.mono ?_;rintro e w1 ⟨rfl,hp⟩;have HP:=Af3 hp;clear hp)
 exact⟨⟨rfl,rfl,(by repeat first|exact iT|refine eN rfl ?_)⟩,HP.out⟩
set_option maxRecDepth 400000 in
theorem rz5{gE gp gb gt gc g3:Nat}{A4:Option Aay}{n4 c4:Nat}{W:Aa4->Prop}{a:Act}{w:Aa4}(hs:Sl [(0,.bool false),(1,.pointer (some ⟨gE,0,none⟩)),(2,.slice (some ⟨gc,0,none⟩) 3 3),(3,.slice (some ⟨g3,0,none⟩) 3 3),(4,.slice A4 n4 c4),(5,.int .i64 0),(6,.int .i64 4),(7,.int .i64 0)] a)(hc:Bk w gE 26 #[.int .i64 1,.slice (some ⟨gp,0,none⟩) 3 3,.slice (some ⟨gb,0,none⟩) 2 2,.slice (some ⟨gt,0,none⟩) 1 1])
 (aB:Af1 prog 48 #[.agg #[.int .i64 1,.slice (some ⟨gp,0,none⟩) 3 3,.slice (some ⟨gb,0,none⟩) 2 2,.slice (some ⟨gt,0,none⟩) 1 1],.int .i64 0,.int .i64 1] w fun e w'=>e=.returned (.tuple #[.int .i64 8,.int .i64 0])/\W w'):sB.wp prog (dP fun a w=>Sl [(0,.bool false),(1,.pointer (some ⟨gE,0,none⟩)),(2,.slice (some ⟨gc,0,none⟩) 3 3),(3,.slice (some ⟨g3,0,none⟩) 3 3),(4,.slice A4 n4 c4),(5,.int .i64 0),(6,.int .i64 4),(7,.int .i64 0),(8,.int .i64 8),(9,.int .i64 0)] a/\W w) a w:=by
 obtain⟨x,rfl,hx⟩:=hs.lit;simp only[Al] at hx;have q0:=hc.cell 0;have q1:=hc.cell 1;have q2:=hc.cell 2;have q3:=hc.cell 3;have aB:=Af3 aB;clear hc;unfold lit;simp only[hx];simp only[sB,jl,iV,iB,gT,gS,gR,hJ,Tryz.f21,bO,a8,Afv];go_wp2_with (go_at_call 48;refine aB.out.mono ?_;rintro e w1 ⟨rfl,hp⟩;have HP:=Af3 hp;clear hp)
 exact⟨⟨rfl,rfl,(by repeat first|exact iT|refine eN rfl ?_)⟩,HP.out⟩
set_option maxRecDepth 400000 in
theorem rz8{gE gp gb gt gc g3:Nat}{A4:Option Aay}{n4 c4:Nat}{W:Aa4->Prop}{a:Act}{w:Aa4}(hs:Sl [(0,.bool false),(1,.pointer (some ⟨gE,0,none⟩)),(2,.slice (some ⟨gc,0,none⟩) 3 3),(3,.slice (some ⟨g3,0,none⟩) 3 3),(4,.slice A4 n4 c4),(5,.int .i64 0),(6,.int .i64 4),(7,.int .i64 0),(8,.int .i64 8),(9,.int .i64 0),(10,.bool true),(11,.int .i64 0),(12,.bool false),(13,.int .i64 0)] a)(hc:Bk w gE 26 #[.int .i64 1,.slice (some ⟨gp,0,none⟩) 3 3,.slice (some ⟨gb,0,none⟩) 2 2,.slice (some ⟨gt,0,none⟩) 1 1])
 (aB:Af1 prog 22 #[.agg #[.int .i64 1,.slice (some ⟨gp,0,none⟩) 3 3,.slice (some ⟨gb,0,none⟩) 2 2,.slice (some ⟨gt,0,none⟩) 1 1]] w fun e w'=>e=.returned (.tuple #[.int .i64 2,.int .i64 0])/\W w'):sE.wp prog (dP fun a w=>Sl [(0,.bool false),(1,.pointer (some ⟨gE,0,none⟩)),(2,.slice (some ⟨gc,0,none⟩) 3 3),(3,.slice (some ⟨g3,0,none⟩) 3 3),(4,.slice A4 n4 c4),(5,.int .i64 0),(6,.int .i64 4),(7,.int .i64 0),(8,.int .i64 8),(9,.int .i64 0),(10,.bool true),(11,.int .i64 0),(12,.bool false),(13,.int .i64 0),(14,.int .i64 2),(15,.int .i64 0)] a/\W w) a w:=by
 obtain⟨x,rfl,hx⟩:=hs.lit;simp only[Al] at hx;have q0:=hc.cell 0;have q1:=hc.cell 1;have q2:=hc.cell 2;have q3:=hc.cell 3;have aB:=Af3 aB;clear hc;unfold lit;simp only[hx];simp only[sE,kN,kz,jI,jl,iV,iB,gT,gS,gR,hJ,Tryz.f21,bO,a8,Afv];go_wp2_with (go_at_call 22;refine aB.out.mono ?_;rintro e w1 ⟨rfl,hp⟩;have HP:=Af3 hp;clear hp)
 exact⟨⟨rfl,rfl,(by repeat first|exact iT|refine eN rfl ?_)⟩,HP.out⟩
set_option maxRecDepth 400000 in
theorem rz9{gE gp gb gt gc g3:Nat}{A4:Option Aay}{n4 c4:Nat}{W:Option Aay->Nat->Nat->Aa4->Prop}{a:Act}{w:Aa4}(hs:Sl [(0,.bool false),(1,.pointer (some ⟨gE,0,none⟩)),(2,.slice (some ⟨gc,0,none⟩) 3 3),(3,.slice (some ⟨g3,0,none⟩) 3 3),(4,.slice A4 n4 c4),(5,.int .i64 0),(6,.int .i64 4),(7,.int .i64 0),(8,.int .i64 8),(9,.int .i64 0),(10,.bool true),(11,.int .i64 0),(12,.bool false),(13,.int .i64 0),(14,.int .i64 2),(15,.int .i64 0)] a)(hc:Bk w gE 26 #[.int .i64 1,.slice (some ⟨gp,0,none⟩) 3 3,.slice (some ⟨gb,0,none⟩) 2 2,.slice (some ⟨gt,0,none⟩) 1 1])
 (aB:Af1 prog 24 #[.agg #[.int .i64 1,.slice (some ⟨gp,0,none⟩) 3 3,.slice (some ⟨gb,0,none⟩) 2 2,.slice (some ⟨gt,0,none⟩) 1 1],.int .i64 0] w fun e w'=>∃kO n16 c16,e=.returned (.tuple #[.slice kO n16 c16,.int .i64 0])/\W kO n16 c16 w'):sF.wp prog (dP fun a w=>∃kO n16 c16,Sl [(0,.bool false),(1,.pointer (some ⟨gE,0,none⟩)),(2,.slice (some ⟨gc,0,none⟩) 3 3),(3,.slice (some ⟨g3,0,none⟩) 3 3),(4,.slice A4 n4 c4),(5,.int .i64 0),(6,.int .i64 4),(7,.int .i64 0),(8,.int .i64 8),(9,.int .i64 0),(10,.bool true),(11,.int .i64 0),(12,.bool false),(13,.int .i64 0),(14,.int .i64 2),(15,.int .i64 0),(16,.slice kO n16 c16),(17,.int .i64 0)] a/\W kO n16 c16 w) a w:=by
 obtain⟨x,rfl,hx⟩:=hs.lit;simp only[Al] at hx;have q0:=hc.cell 0;have q1:=hc.cell 1;have q2:=hc.cell 2;have q3:=hc.cell 3;have aB:=Af3 aB;clear hc;unfold lit;simp only[hx];simp only[sF,lA,kN,kz,jI,jl,iV,iB,gT,gS,gR,hJ,Tryz.f21,bO,a8,Afv];go_wp2_with (go_at_call 24;refine aB.out.mono ?_;rintro e w1 ⟨kO,n16,c16,rfl,hp⟩;have HP:=Af3 hp;clear hp)
 exact⟨kO,n16,c16,⟨rfl,rfl,(by repeat first|exact iT|refine eN rfl ?_)⟩,HP.out⟩
set_option maxRecDepth 400000 in
theorem akz{gE gp gb gt gc g3:Nat}{W:Aa4->Prop}{a:Act}{w:Aa4}(hs:Sl [(0,.bool false),(1,.pointer (some ⟨gE,0,none⟩)),(2,.slice (some ⟨gc,0,none⟩) 3 3),(3,.slice (some ⟨g3,0,none⟩) 3 3)] a)(hc:Bk w gE 26 #[.int .i64 1,.slice (some ⟨gp,0,none⟩) 3 3,.slice (some ⟨gb,0,none⟩) 2 2,.slice (some ⟨gt,0,none⟩) 1 1])
 (aB:Af1 prog 28 #[.agg #[.int .i64 1,.slice (some ⟨gp,0,none⟩) 3 3,.slice (some ⟨gb,0,none⟩) 2 2,.slice (some ⟨gt,0,none⟩) 1 1],.slice (some ⟨gc,0,none⟩) 3 3] w fun e w'=>e=.returned (.tuple #[.int .i64 1,.int .i64 0])/\W w'):sk.wp prog (dP fun a w=>Sl [(0,.bool false),(1,.pointer (some ⟨gE,0,none⟩)),(2,.slice (some ⟨gc,0,none⟩) 3 3),(3,.slice (some ⟨g3,0,none⟩) 3 3),(5,.int .i64 0),(20,.int .i64 1)] a/\W w) a w:=by
 obtain⟨x,rfl,hx⟩:=hs.lit;simp only[Al] at hx;have q0:=hc.cell 0;have q1:=hc.cell 1;have q2:=hc.cell 2;have q3:=hc.cell 3;have aB:=Af3 aB;clear hc;unfold lit;simp only[hx];simp only[sk,nT,mX,mg,lA,kN,kz,jI,jl,iV,iB,gT,gS,gR,hJ,Tryz.f21,bO,a8,Afv];go_wp2_with (go_at_call 28;refine aB.out.mono ?_;rintro e w1 ⟨rfl,hp⟩;have HP:=Af3 hp;clear hp)
 exact⟨⟨rfl,rfl,(by repeat first|exact iT|refine eN rfl ?_)⟩,HP.out⟩
set_option maxRecDepth 400000 in
theorem akA{gE gp gb gt gc g3:Nat}{W:Aa4->Prop}{a:Act}{w:Aa4}(hs:Sl [(0,.bool false),(1,.pointer (some ⟨gE,0,none⟩)),(2,.slice (some ⟨gc,0,none⟩) 3 3),(3,.slice (some ⟨g3,0,none⟩) 3 3),(5,.int .i64 0),(20,.int .i64 1)] a)(hc:Bk w gE 26 #[.int .i64 1,.slice (some ⟨gp,0,none⟩) 3 3,.slice (some ⟨gb,0,none⟩) 2 2,.slice (some ⟨gt,0,none⟩) 1 1])
 (aB:Af1 prog 28 #[.agg #[.int .i64 1,.slice (some ⟨gp,0,none⟩) 3 3,.slice (some ⟨gb,0,none⟩) 2 2,.slice (some ⟨gt,0,none⟩) 1 1],.slice (some ⟨g3,0,none⟩) 3 3] w fun e w'=>e=.returned (.tuple #[.int .i64 0,.int .i64 0])/\W w'):sn.wp prog (dP fun a w=>Sl [(0,.bool false),(1,.pointer (some ⟨gE,0,none⟩)),(2,.slice (some ⟨gc,0,none⟩) 3 3),(3,.slice (some ⟨g3,0,none⟩) 3 3),(5,.int .i64 0),(7,.int .i64 0),(20,.int .i64 1),(21,.int .i64 0)] a/\W w) a w:=by
 obtain⟨x,rfl,hx⟩:=hs.lit;simp only[Al] at hx;have q0:=hc.cell 0;have q1:=hc.cell 1;have q2:=hc.cell 2;have q3:=hc.cell 3;have aB:=Af3 aB;clear hc;unfold lit;simp only[hx];simp only[sn,oM,nT,mX,mg,lA,kN,kz,jI,jl,iV,iB,gT,gS,gR,hJ,Tryz.f21,bO,a8,Afv];go_wp2_with (go_at_call 28;refine aB.out.mono ?_;rintro e w1 ⟨rfl,hp⟩;have HP:=Af3 hp;clear hp)
 exact⟨⟨rfl,rfl,(by repeat first|exact iT|refine eN rfl ?_)⟩,HP.out⟩
set_option maxRecDepth 400000 in
theorem akB{gE gp gb gt gc g3:Nat}{W:Option Aay->Nat->Nat->Aa4->Prop}{a:Act}{w:Aa4}(hs:Sl [(0,.bool false),(1,.pointer (some ⟨gE,0,none⟩)),(2,.slice (some ⟨gc,0,none⟩) 3 3),(3,.slice (some ⟨g3,0,none⟩) 3 3),(5,.int .i64 0),(7,.int .i64 0),(20,.int .i64 1),(21,.int .i64 0)] a)(hc:Bk w gE 26 #[.int .i64 1,.slice (some ⟨gp,0,none⟩) 3 3,.slice (some ⟨gb,0,none⟩) 2 2,.slice (some ⟨gt,0,none⟩) 1 1])
 (aB:Af1 prog 31 #[.agg #[.int .i64 1,.slice (some ⟨gp,0,none⟩) 3 3,.slice (some ⟨gb,0,none⟩) 2 2,.slice (some ⟨gt,0,none⟩) 1 1],.slice (some ⟨gc,0,none⟩) 3 3] w fun e w'=>∃dk n22 c22,e=.returned (.tuple #[.slice dk n22 c22,.int .i64 0])/\W dk n22 c22 w'):so.wp prog (dP fun a w=>∃dk n22 c22,Sl [(0,.bool false),(1,.pointer (some ⟨gE,0,none⟩)),(2,.slice (some ⟨gc,0,none⟩) 3 3),(3,.slice (some ⟨g3,0,none⟩) 3 3),(5,.int .i64 0),(7,.int .i64 0),(9,.int .i64 0),(20,.int .i64 1),(21,.int .i64 0),(22,.slice dk n22 c22)] a/\W dk n22 c22 w) a w:=by
 obtain⟨x,rfl,hx⟩:=hs.lit;simp only[Al] at hx;have q0:=hc.cell 0;have q1:=hc.cell 1;have q2:=hc.cell 2;have q3:=hc.cell 3;have aB:=Af3 aB;clear hc;unfold lit;simp only[hx];simp only[so,pF,oM,nT,mX,mg,lA,kN,kz,jI,jl,iV,iB,gT,gS,gR,hJ,Tryz.f21,bO,a8,Afv];go_wp2_with (go_at_call 31;refine aB.out.mono ?_;rintro e w1 ⟨dk,n22,c22,rfl,hp⟩;have HP:=Af3 hp;clear hp)
 exact⟨dk,n22,c22,⟨rfl,rfl,(by repeat first|exact iT|refine eN rfl ?_)⟩,HP.out⟩
set_option maxRecDepth 400000 in
theorem akC{gE gp gb gt gc g3:Nat}{dk:Option Aay}{n22 c22:Nat}{W:Aa4->Prop}{a:Act}{w:Aa4}(hs:Sl [(0,.bool false),(1,.pointer (some ⟨gE,0,none⟩)),(2,.slice (some ⟨gc,0,none⟩) 3 3),(3,.slice (some ⟨g3,0,none⟩) 3 3),(5,.int .i64 0),(7,.int .i64 0),(9,.int .i64 0),(20,.int .i64 1),(21,.int .i64 0),(22,.slice dk n22 c22)] a)(hc:Bk w gE 26 #[.int .i64 1,.slice (some ⟨gp,0,none⟩) 3 3,.slice (some ⟨gb,0,none⟩) 2 2,.slice (some ⟨gt,0,none⟩) 1 1])
 (aB:Af1 prog 31 #[.agg #[.int .i64 1,.slice (some ⟨gp,0,none⟩) 3 3,.slice (some ⟨gb,0,none⟩) 2 2,.slice (some ⟨gt,0,none⟩) 1 1],.slice (some ⟨g3,0,none⟩) 3 3] w fun e w'=>e=.returned (.tuple #[.slice none 0 0,.int .i64 8])/\W w'):sr.wp prog (dP fun a w=>Sl [(0,.bool false),(1,.pointer (some ⟨gE,0,none⟩)),(2,.slice (some ⟨gc,0,none⟩) 3 3),(3,.slice (some ⟨g3,0,none⟩) 3 3),(5,.int .i64 0),(7,.int .i64 0),(9,.int .i64 0),(20,.int .i64 1),(21,.int .i64 0),(22,.slice dk n22 c22),(23,.slice none 0 0),(24,.int .i64 8)] a/\W w) a w:=by
 obtain⟨x,rfl,hx⟩:=hs.lit;simp only[Al] at hx;have q0:=hc.cell 0;have q1:=hc.cell 1;have q2:=hc.cell 2;have q3:=hc.cell 3;have aB:=Af3 aB;clear hc;unfold lit;simp only[hx];simp only[sr,qX,pF,oM,nT,mX,mg,lA,kN,kz,jI,jl,iV,iB,gT,gS,gR,hJ,Tryz.f21,bO,a8,Afv];go_wp2_with (go_at_call 31;refine aB.out.mono ?_;rintro e w1 ⟨rfl,hp⟩;have HP:=Af3 hp;clear hp)
 exact⟨⟨rfl,rfl,(by repeat first|exact iT|refine eN rfl ?_)⟩,HP.out⟩
set_option maxRecDepth 400000 in
theorem akD{gE gp gb gt gc g3:Nat}{dk:Option Aay}{n22 c22:Nat}{W:Option Aay->Nat->Nat->Aa4->Prop}{a:Act}{w:Aa4}(hs:Sl [(0,.bool false),(1,.pointer (some ⟨gE,0,none⟩)),(2,.slice (some ⟨gc,0,none⟩) 3 3),(3,.slice (some ⟨g3,0,none⟩) 3 3),(5,.int .i64 0),(7,.int .i64 0),(9,.int .i64 0),(20,.int .i64 1),(21,.int .i64 0),(22,.slice dk n22 c22),(23,.slice none 0 0),(24,.int .i64 8)] a)(hc:Bk w gE 26 #[.int .i64 1,.slice (some ⟨gp,0,none⟩) 3 3,.slice (some ⟨gb,0,none⟩) 2 2,.slice (some ⟨gt,0,none⟩) 1 1])
 (aB:Af1 prog 33 #[.agg #[.int .i64 1,.slice (some ⟨gp,0,none⟩) 3 3,.slice (some ⟨gb,0,none⟩) 2 2,.slice (some ⟨gt,0,none⟩) 1 1]] w fun e w'=>∃bZ n25 b6,e=.returned (.tuple #[.slice bZ n25 b6,.int .i64 2,.bool true,.int .i64 0])/\W bZ n25 b6 w'):ss.wp prog (dP fun a w=>∃bZ n25 b6,Sl [(0,.bool false),(1,.pointer (some ⟨gE,0,none⟩)),(2,.slice (some ⟨gc,0,none⟩) 3 3),(3,.slice (some ⟨g3,0,none⟩) 3 3),(5,.int .i64 0),(7,.int .i64 0),(9,.int .i64 0),(11,.int .i64 0),(20,.int .i64 1),(21,.int .i64 0),(22,.slice dk n22 c22),(23,.slice none 0 0),(24,.int .i64 8),(25,.slice bZ n25 b6),(26,.int .i64 2),(27,.bool true)] a/\W bZ n25 b6 w) a w:=by
 obtain⟨x,rfl,hx⟩:=hs.lit;simp only[Al] at hx;have q0:=hc.cell 0;have q1:=hc.cell 1;have q2:=hc.cell 2;have q3:=hc.cell 3;have aB:=Af3 aB;clear hc;unfold lit;simp only[hx];simp only[ss,sJ,qX,pF,oM,nT,mX,mg,lA,kN,kz,jI,jl,iV,iB,gT,gS,gR,hJ,Tryz.f21,bO,a8,Afv];go_wp2_with (go_at_call 33;refine aB.out.mono ?_;rintro e w1 ⟨bZ,n25,b6,rfl,hp⟩;have HP:=Af3 hp;clear hp)
 exact⟨bZ,n25,b6,⟨rfl,rfl,(by repeat first|exact iT|refine eN rfl ?_)⟩,HP.out⟩
set_option maxRecDepth 400000 in
theorem akE{gE gp gb gt gc g3:Nat}{dk:Option Aay}{n22 c22:Nat}{bZ:Option Aay}{n25 b6:Nat}{W:Option Aay->Nat->Nat->Aa4->Prop}{a:Act}{w:Aa4}(hs:Sl [(0,.bool false),(1,.pointer (some ⟨gE,0,none⟩)),(2,.slice (some ⟨gc,0,none⟩) 3 3),(3,.slice (some ⟨g3,0,none⟩) 3 3),(5,.int .i64 0),(7,.int .i64 0),(9,.int .i64 0),(11,.int .i64 0),(20,.int .i64 1),(21,.int .i64 0),(22,.slice dk n22 c22),(23,.slice none 0 0),(24,.int .i64 8),(25,.slice bZ n25 b6),(26,.int .i64 2),(27,.bool true)] a)(hc:Bk w gE 26 #[.int .i64 1,.slice (some ⟨gp,0,none⟩) 3 3,.slice (some ⟨gb,0,none⟩) 2 2,.slice (some ⟨gt,0,none⟩) 1 1])
 (aB:Af1 prog 36 #[.agg #[.int .i64 1,.slice (some ⟨gp,0,none⟩) 3 3,.slice (some ⟨gb,0,none⟩) 2 2,.slice (some ⟨gt,0,none⟩) 1 1]] w fun e w'=>∃er n28 ew,e=.returned (.tuple #[.slice er n28 ew,.int .i64 14,.bool true,.int .i64 0])/\W er n28 ew w'):su.wp prog (dP fun a w=>∃er n28 ew,Sl [(0,.bool false),(1,.pointer (some ⟨gE,0,none⟩)),(2,.slice (some ⟨gc,0,none⟩) 3 3),(3,.slice (some ⟨g3,0,none⟩) 3 3),(5,.int .i64 0),(7,.int .i64 0),(9,.int .i64 0),(11,.int .i64 0),(13,.int .i64 0),(20,.int .i64 1),(21,.int .i64 0),(22,.slice dk n22 c22),(23,.slice none 0 0),(24,.int .i64 8),(25,.slice bZ n25 b6),(26,.int .i64 2),(27,.bool true),(28,.slice er n28 ew),(29,.int .i64 14),(30,.bool true)] a/\W er n28 ew w) a w:=by
 obtain⟨x,rfl,hx⟩:=hs.lit;simp only[Al] at hx;have q0:=hc.cell 0;have q1:=hc.cell 1;have q2:=hc.cell 2;have q3:=hc.cell 3;have aB:=Af3 aB;clear hc;unfold lit;simp only[hx];simp only[su,uo,sJ,qX,pF,oM,nT,mX,mg,lA,kN,kz,jI,jl,iV,iB,gT,gS,gR,hJ,Tryz.f21,bO,a8,Afv];go_wp2_with (go_at_call 36;refine aB.out.mono ?_;rintro e w1 ⟨er,n28,ew,rfl,hp⟩;have HP:=Af3 hp;clear hp)
 exact⟨er,n28,ew,⟨rfl,rfl,(by repeat first|exact iT|refine eN rfl ?_)⟩,HP.out⟩
set_option maxRecDepth 400000 in
theorem akF{gE gp gb gt gc g3:Nat}{dk:Option Aay}{n22 c22:Nat}{bZ:Option Aay}{n25 b6:Nat}{er:Option Aay}{n28 ew:Nat}{iW:Option Aay}{n31 iZ:Nat}{W:Aa4->Prop}{a:Act}{w:Aa4}(hs:Sl [(0,.bool false),(1,.pointer (some ⟨gE,0,none⟩)),(2,.slice (some ⟨gc,0,none⟩) 3 3),(3,.slice (some ⟨g3,0,none⟩) 3 3),(5,.int .i64 0),(7,.int .i64 0),(9,.int .i64 0),(11,.int .i64 0),(13,.int .i64 0),(15,.int .i64 0),(20,.int .i64 1),(21,.int .i64 0),(22,.slice dk n22 c22),(23,.slice none 0 0),(24,.int .i64 8),(25,.slice bZ n25 b6),(26,.int .i64 2),(27,.bool true),(28,.slice er n28 ew),(29,.int .i64 14),(30,.bool true),(31,.slice iW n31 iZ)] a)(hc:Bk w gE 26 #[.int .i64 1,.slice (some ⟨gp,0,none⟩) 3 3,.slice (some ⟨gb,0,none⟩) 2 2,.slice (some ⟨gt,0,none⟩) 1 1])
 (aB:Af1 prog 61 #[.agg #[.int .i64 1,.slice (some ⟨gp,0,none⟩) 3 3,.slice (some ⟨gb,0,none⟩) 2 2,.slice (some ⟨gt,0,none⟩) 1 1]] w fun e w'=>e=.returned (.tuple #[.int .i64 0,.int .i64 1,.int .i64 0])/\W w'):we.wp prog (dP fun a w=>Sl [(0,.bool false),(1,.pointer (some ⟨gE,0,none⟩)),(2,.slice (some ⟨gc,0,none⟩) 3 3),(3,.slice (some ⟨g3,0,none⟩) 3 3),(5,.int .i64 0),(7,.int .i64 0),(9,.int .i64 0),(11,.int .i64 0),(13,.int .i64 0),(15,.int .i64 0),(17,.int .i64 0),(20,.int .i64 1),(21,.int .i64 0),(22,.slice dk n22 c22),(23,.slice none 0 0),(24,.int .i64 8),(25,.slice bZ n25 b6),(26,.int .i64 2),(27,.bool true),(28,.slice er n28 ew),(29,.int .i64 14),(30,.bool true),(31,.slice iW n31 iZ),(32,.int .i64 0),(33,.int .i64 1)] a/\W w) a w:=by
 obtain⟨x,rfl,hx⟩:=hs.lit;simp only[Al] at hx;have q0:=hc.cell 0;have q1:=hc.cell 1;have q2:=hc.cell 2;have q3:=hc.cell 3;have aB:=Af3 aB;clear hc;unfold lit;simp only[hx];simp only[we,wC,wA,uo,sJ,qX,pF,oM,nT,mX,mg,lA,kN,kz,jI,jl,iV,iB,gT,gS,gR,hJ,Tryz.f21,bO,a8,Afv];go_wp2_with (go_at_call 61;refine aB.out.mono ?_;rintro e w1 ⟨rfl,hp⟩;have HP:=Af3 hp;clear hp)
 exact⟨⟨rfl,rfl,(by repeat first|exact iT|refine eN rfl ?_)⟩,HP.out⟩
end
end Go.Jn
namespace Go.Jn
open Go
section
variable {P:Program}{md:Region.Mode}{ops:Array Aev}{Q:Exit->Act->Aa4->Prop}
def fP(n i:Nat):Array Bool:=Array.ofFn fun k:Fin n=>decide (k.val<i)
theorem OQ{n i k:Nat}(h:k<n):(fP n i)[k]?=some (decide (k<i)):=by
 unfold fP;rw[Array.getElem?_ofFn,dif_pos h]
theorem Ew{n i k:Nat}(d:Bool)(h:k<n):(fP n i).getD k d=decide (k<i):=by
 rw[Aaa,OQ h];rfl
theorem aho(n:Nat):Aeo n false=fP n 0:=by
 apply Array.ext
 ·simp[fP]
 ·intro k h1 h2
  simp[fP]
theorem OR(n i:Nat):(fP n i).size=n:=by simp[fP]
theorem yE{n i:Nat}(h:i<n):(fP n i).setIfInBounds i true=fP n (i+1):=by
 apply Array.ext_getElem?;intro k;rw[Aai,OR]
 by_cases hk:k<n
 ·rw[OQ hk,OQ hk]
  split
  ·subst_vars;simp[hk]
  ·rename_i aw
   simp only[Option.some.injEq,decide_eq_decide];omega
 ·have h1:(fP n i)[k]?=none:=by rw[Ajd,OR];omega
  have h2:(fP n (i+1))[k]?=none:=by rw[Ajd,OR];omega
  rw[h1,h2,if_neg (by omega)]
theorem V1{n i j:Nat}(hj:j=i+1)(h:j<n):((fP n i).setIfInBounds i true).setIfInBounds j true=fP n (j+1):=by
 subst hj;rw[yE (by omega),yE h]
theorem ahn{n i j:Nat}(hj:j=i+1)(h:j<n):((fP n i).setIfInBounds j true).setIfInBounds i true=fP n (j+1):=by
 rw[Array.setIfInBounds_comm _ _ (by omega)]
 exact V1 hj h
def L6(o:Aev)(j:Nat):Bool:=o.after.toList.all fun e=>decide (e.on<j)
def MM(md:Region.Mode)(o:Aev)(k:Nat):Bool:=o.after.toList.any fun e=>Region.binds md e && decide (k<=e.on)
def seqB(md:Region.Mode)(n s e:Nat):List Aev->Nat->Bool
 | [],_=>true
 |o::l,j=>(decide (e<=j) ||L6 o j) && (decide (j<=s) ||MM md o (min (j - 1) (e - 1))) && (o.after.toList.all fun x=>decide (x.on<n)) && seqB md n s e l (j+1)
theorem Xg{n s e:Nat}:∀(l:List Aev) (j:Nat),seqB md n s e l j=true->∀(k:Nat) (o:Aev),l[k]?=some o->(j+k<e->L6 o (j+k)=true)/\(s<j+k->MM md o (min (j+k - 1) (e - 1))=true)/\∀x∈o.after.toList,x.on<n
 | [],_,_,k,o,h=>by simp at h
 |p::l,j,hs,k,o,h=>by
  simp only[seqB,Bool.and_eq_true,Bool.or_eq_true,decide_eq_true_eq,Ajm] at hs;obtain⟨⟨⟨h1,h2⟩,h3⟩,h4⟩:=hs;cases k with
  |zero=>
   simp only[List.getElem?_cons_zero,Option.some.injEq] at h
   subst h;refine⟨fun hj=>h1.resolve_left (by omega),fun hj=>h2.resolve_left (by omega),h3⟩
  |succ k=>
   simp only[List.getElem?_cons_succ] at h
   have:=Xg l (j+1) h4 k o h;rw[show j+1+k=j+(k+1) by omega] at this
   exact this
theorem filter_one{p:Nat->Bool}{n i:Nat}(hi:i<n)(h1:p i=true)(h2:∀j,j<n->j≠i->p j=false):(Af9 n).filter p=[i]:=by
 have e:(Af9 n).filter p=(Af9 n).filter (fun j=>j==i):=by
  apply List.filter_congr;intro j hj;have hj:=List.mem_range.1 hj;by_cases e:j=i
  ·subst e;simp[h1]
  ·rw[h2 j hj e];simp[e]
 rw[e];have hn:(Af9 n).Nodup:=List.nodup_range;have hm:i∈Af9 n:=by simpa using hi
 have:∀l:List Nat,l.Nodup->i∈l->l.filter (fun j=>j==i)=[i]:=by
  intro l;induction l with
  |nil=>intro _ h;cases h
  |cons a l ih=>
   intro nH mB;rw[List.nodup_cons] at nH;by_cases e:a=i
   ·subst e
    rw[List.filter_cons_of_pos (by simp)]
    have:l.filter (fun j=>j==a)=[]:=by
     rw[List.filter_eq_nil_iff];intro b hb;simp only[beq_iff_eq];rintro rfl;exact nH.1 hb
    rw[this]
   ·rw[List.filter_cons_of_neg (by simpa using e)]
    exact ih nH.2 ((Aef.1 mB).resolve_left (Aei e))
 exact this _ hn hm
theorem alk{s e i:Nat}(h:seqB md ops.size s e ops.toList 0=true)(hs:s<=i)(he:i<e)(hi:i<ops.size):Afj md ops (fP ops.size i)=[i]:=by
 have ou:∀k (hk:k<ops.size),_:=fun k hk=>Xg ops.toList 0 h k ops[k] (by simp[hk])
 simp only[Nat.zero_add] at ou;refine filter_one hi ?_ fun j hj aw=>?_
 ·rw[Ew _ hi,Adb hi]
  simp only[Nat.lt_irrefl,decide_false,Bool.not_false,Afu,Afv,Bool.true_and];rw[<-Array.all_toList,Ajm];intro x hx;obtain⟨h1,_,h3⟩:=ou i hi;have h1:=h1 he;unfold L6 at h1;rw[Ajm] at h1;have Ia:x.on<i:=by simpa using h1 x hx
  rw[Ew _ (h3 x hx)];simp[Ia]
 ·by_cases al:j<i
  ·rw[Ew _ hj];simp[al]
  ·have As:i<j:=by omega
   rw[Ew _ hj,Adb hj]
   simp only[al,decide_false,Bool.not_false,Afu,Afv,Bool.true_and];rw[<-Array.all_toList];obtain⟨_,h2,h3⟩:=ou j hj;have h2:=h2 (by omega)
   unfold MM at h2;rw[List.any_eq_true] at h2;obtain⟨x,hx,rT⟩:=h2;simp only[Bool.and_eq_true,decide_eq_true_eq] at rT;rw[List.all_eq_false];refine⟨x,hx,?_⟩
   rw[Ew _ (h3 x hx),rT.1];have:¬x.on<i:=by have:=rT.2;omega
   simp[this]
theorem Ws{K K':Act->Aa4->Prop}{o:Aev}{a:Act}{w:Aa4}(h:o.wp P a w K' (Exit.then K Q)):o.wp P a w K' Q:=by
 unfold Oper.wp at *;generalize (execOp a.eval o).run P w=r at *;cases r with
 |ok n w'=>
  cases n<;>simp only[Oper.upon] at h |- <;>
   first
    |exact h
    |exact Calls.mono h (fun e bq he=>by cases e<;>exact he)
 |halt x w'=>cases x<;>simp only[Oper.upon] at h |- <;>exact h
theorem Yf{i:Nat}{o:Aev}(hi:ops[i]?=some o){K:Act->Aa4->Prop}{l:List Aev}{R:Exit->Act->Aa4->Prop}(hR:∀a w,Ajf P ops R l a w->K a w)(hp:∀ {o:Aev} {K':Act->Aa4->Prop} {a:Act} {w:Aa4},o.wp P a w K' R->o.wp P a w K' Q)(hl:LetsOut R->LetsOut Q){a:Act}{w:Aa4}
 (h:Ajf P ops R (o::l) a w):wpOp P ops Q i K a w:=by
 unfold wpOp;simp only[hi];unfold Ajf at h;split
 ·rename_i hw
  rw[if_pos hw] at h;exact h.imp (fun h=>Oper.wp_mono hR (hp h)) (fun h=>⟨h.1,hl h.2⟩)
 ·rename_i hw
  rw[if_neg hw] at h;exact hR _ _ h
theorem uH{fuel s e N:Nat}(hN:ops.size=N)(h:seqB md N s e ops.toList 0=true)(he:e<=N):∀(n i:Nat) {a:Act} {w:Aa4},s<=i->i+n=e->
 Ajf P ops (Exit.then (Ajg P md ops Q fuel (fP N e)) Q) ((ops.toList.drop i).take n) a w->Ajg P md ops Q (fuel+n) (fP N i) a w
 |0,i,a,w,_,hie,h2=>by
  obtain rfl:i=e:=by omega
  have h2:Exit.then (Ajg P md ops Q fuel (fP N i)) Q .normal a w:=by simpa [Ajf] using h2
  exact h2
 |n+1,i,a,w,hs,hie,h2=>by
  rw[show fuel+(n+1)=(fuel+n)+1 by omega]
  have hi:i<ops.size:=by omega
  subst hN;refine wpAny_all (alk h hs (by omega) hi) (by simp) fun j hj=>?_
  obtain rfl:j=i:=by simpa using hj
  have hl:(ops.toList.drop j).take (n+1)=ops[j]::(ops.toList.drop (j+1)).take n:=by
   rw[List.drop_eq_getElem_cons (by simpa using hi),Agi]
   simp
  rw[hl] at h2;rw[yE hi];exact Yf (Adb hi) (fun a w h2=>uH rfl h he n (j+1) (by omega) (by omega) h2) Ws (fun h=>h) h2
theorem Zj{id N:Nat}{a:Act}{w:Aa4}(hm:P.follows .mixedOrders=true)(hN:ops.size=N)(h:Ajg P .any ops Q N (fP N 0) a w.drew):(Code.region id ops true).wp P Q a w:=by
 refine wp_region_any hm ?_
 rw[aho,hN];exact h
theorem zG{fuel:Nat}{l l':Array Bool}{a:Act}{w:Aa4}(h:l=l')(hh:Ajg P md ops Q fuel l' a w):Ajg P md ops Q fuel l a w:=h▸hh
theorem Ln{fuel:Nat}{listed:Array Bool}{a:Act}{w:Aa4}(rs:List Nat)(hr:Afj md ops listed=rs)(aw:rs≠ [])(h:∀i∈rs,wpOp P ops Q i (Ajg P md ops Q fuel (listed.setIfInBounds i true)) a w):Ajg P md ops Q (fuel+1) listed a w:=
 wpAny_all hr aw h
theorem IF{fuel i:Nat}{listed:Array Bool}{a:Act}{w:Aa4}(o:Aev)(hi:ops[i]?=some o)(h:Ajf P ops (Exit.then (Ajg P md ops Q fuel (listed.setIfInBounds i true)) Q) [o] a w):wpOp P ops Q i (Ajg P md ops Q fuel (listed.setIfInBounds i true)) a w:=
 Yf hi (fun _ _ h=>h) Ws (fun h=>h) h
theorem Gu{i:Nat}{is:List Nat}{K:Nat->Prop}(h1:K i)(h2:∀k∈is,K k):∀k∈i::is,K k:=by
 intro k hk;rcases Aef.1 hk with rfl|hk
 ·exact h1
 ·exact h2 k hk
theorem Ly{K:Nat->Prop}:∀k∈([]:List Nat),K k:=fun _ h=>absurd h Aeg
theorem mf{rest:List Aev}{o og:Aev}{g d:Nat}{b:Bool}{a:Act}{w:Aa4}(gx:o.guard=some (g,b))(U1:ops.toList[g]?=some og)(hd:og.dst=some d)(ht:a.tmps[d]?=some (.bool b))
 (h:∀K:Act->Aa4->Prop,(∀a w,Ajf P ops Q rest a w->K a w)->o.wp P a w K Q):Ajf P ops Q (o::rest) a w:=by
 refine wpList_step fun K hK=>?_
 have hw:Afi o (yielded ops a.tmps)=true:=by
  unfold Afi;rw[gx];rw[Array.getElem?_toList] at U1
  simp only[yielded,U1,Option.bind_some,hd,ht,beq_self_eq_true]
 rw[if_pos hw];exact h K hK
end
end Go.Jn
namespace Go.Jn
open Go Go.Proofs Go.Sim Go.Conc Go.Tw Go.RowKit
section
variable [Go.Tw.aR]
theorem wX{α:Type}{w:Aa4}{g sz e:Nat}{R:α->List Value->Prop}{f:α->List Value}{xs:List α}{cs:Array Value}(hb:Bk w g e cs)(hx:xs.length<=1000)(hf:∀x,(f x).length=sz)(hR:∀x∈xs,R x (f x))(hc:cs=(xs.flatMap f).toArray):
 Row w w.heap.size sz R (.slice (some ⟨g,0,none⟩) xs.length xs.length) xs:=by
 have ql:∀l:List α,(l.flatMap f).length=l.length * sz:=by
  intro l;induction l with
  |nil=>simp
  |cons a l ih=>simp only[List.flatMap_cons,List.length_append,ih,hf,List.length_cons,Nat.succ_mul];omega
 refine lu (f:=f) ?_ hf hR (e:=e) (base:=g)
 refine⟨ql xs,.inr ⟨g,xs.length,cs,rfl,Ac2 _,hb,Ac2 _,by unfold Af0;omega,by rw[hc,List.size_toArray,ql],?_⟩⟩
 rw[hc];simp only[List.toList_toArray];rw[List.take_of_length_le (by rw[ql];omega)]
theorem ru{w:Aa4}{g:Nat}(xs:List Int)(hx:xs.length<=1000){cs:Array Value}(h:Bk w g 3 cs)(hc:cs=(xs.flatMap fun x=> [Value.int .i64 x]).toArray):Row w w.heap.size 1 cH (.slice (some ⟨g,0,none⟩) xs.length xs.length) xs:=
 wX h hx (fun _=>rfl) (fun _ _=>rfl) hc
theorem Lz{w:Aa4}{g:Nat}(xs:List Span)(hx:xs.length<=1000){cs:Array Value}(h:Bk w g 37 cs)(hc:cs=(xs.flatMap Span.vs).toArray):Row w w.heap.size 2 Span.R (.slice (some ⟨g,0,none⟩) xs.length xs.length) xs:=
 wX h hx (fun _=>rfl) (fun _ _=>rfl) hc
theorem RJ{w:Aa4}{g:Nat}(xs:List Cut)(hx:xs.length<=1000){cs:Array Value}(h:Bk w g 56 cs)(hc:cs=(xs.flatMap Cut.vs).toArray):Row w w.heap.size 2 Cut.R (.slice (some ⟨g,0,none⟩) xs.length xs.length) xs:=
 wX h hx (fun _=>rfl) (fun _ _=>rfl) hc
theorem ft{α:Type}{w w':Aa4}{sz:Nat}{R:α->List Value->Prop}{v:Value}{xs:List α}(h:Row w w.heap.size sz R v xs)(hb:Ahz w.heap.size w w'):Row w' w'.heap.size sz R v xs:=
 (h.still (Still.aK hb (Ac2 _)) fun _ _ h=>h).more hb.size
set_option maxRecDepth 400000 in
theorem rz6{gE gp gb gt gc g3:Nat}{A4:Option Aay}{n4 c4:Nat}{W:Aa4->Prop}{a:Act}{w:Aa4}(hs:Sl [(0,.bool false),(1,.pointer (some ⟨gE,0,none⟩)),(2,.slice (some ⟨gc,0,none⟩) 3 3),(3,.slice (some ⟨g3,0,none⟩) 3 3),(4,.slice A4 n4 c4),(5,.int .i64 0),(6,.int .i64 4),(7,.int .i64 0),(8,.int .i64 8),(9,.int .i64 0)] a)(hc:Bk w gE 26 #[.int .i64 1,.slice (some ⟨gp,0,none⟩) 3 3,.slice (some ⟨gb,0,none⟩) 2 2,.slice (some ⟨gt,0,none⟩) 1 1])
 (aB:Af1 prog 43 #[.agg #[.int .i64 1,.slice (some ⟨gp,0,none⟩) 3 3,.slice (some ⟨gb,0,none⟩) 2 2,.slice (some ⟨gt,0,none⟩) 1 1],.slice (some ⟨w.heap.size,0,none⟩) 3 3,.slice (some ⟨gc,0,none⟩) 3 3] (w.alloc (.cells #[.int .i64 4,.int .i64 3,.int .i64 3] 3)) fun e w'=>e=.returned (.tuple #[.bool true,.int .i64 0])/\W w'):sC.wp prog (dP fun a w=>Sl [(0,.bool false),(1,.pointer (some ⟨gE,0,none⟩)),(2,.slice (some ⟨gc,0,none⟩) 3 3),(3,.slice (some ⟨g3,0,none⟩) 3 3),(4,.slice A4 n4 c4),(5,.int .i64 0),(6,.int .i64 4),(7,.int .i64 0),(8,.int .i64 8),(9,.int .i64 0),(10,.bool true),(11,.int .i64 0)] a/\W w) a w:=by
 obtain⟨x,rfl,hx⟩:=hs.lit;simp only[Al] at hx;have q0:=hc.cell 0;have q1:=hc.cell 1;have q2:=hc.cell 2;have q3:=hc.cell 3;have aB:=Af3 aB;clear hc;unfold lit;simp only[hx];simp only[sC,jI,jl,iV,iB,gT,gS,gR,hJ,Tryz.f21,bO,a8,Afv];go_wp2_with (go_at_call 43;refine aB.out.mono ?_;rintro e w1 ⟨rfl,hp⟩;have HP:=Af3 hp;clear hp)
 exact⟨⟨rfl,rfl,(by repeat first|exact iT|refine eN rfl ?_)⟩,HP.out⟩
set_option maxRecDepth 400000 in
theorem rz7{gE gp gb gt gc g3:Nat}{A4:Option Aay}{n4 c4:Nat}{W:Aa4->Prop}{a:Act}{w:Aa4}(hs:Sl [(0,.bool false),(1,.pointer (some ⟨gE,0,none⟩)),(2,.slice (some ⟨gc,0,none⟩) 3 3),(3,.slice (some ⟨g3,0,none⟩) 3 3),(4,.slice A4 n4 c4),(5,.int .i64 0),(6,.int .i64 4),(7,.int .i64 0),(8,.int .i64 8),(9,.int .i64 0),(10,.bool true),(11,.int .i64 0)] a)(hc:Bk w gE 26 #[.int .i64 1,.slice (some ⟨gp,0,none⟩) 3 3,.slice (some ⟨gb,0,none⟩) 2 2,.slice (some ⟨gt,0,none⟩) 1 1])
 (aB:Af1 prog 43 #[.agg #[.int .i64 1,.slice (some ⟨gp,0,none⟩) 3 3,.slice (some ⟨gb,0,none⟩) 2 2,.slice (some ⟨gt,0,none⟩) 1 1],.slice (some ⟨w.heap.size,0,none⟩) 3 3,.slice (some ⟨g3,0,none⟩) 3 3] (w.alloc (.cells #[.int .i64 4,.int .i64 3,.int .i64 3] 3)) fun e w'=>e=.returned (.tuple #[.bool false,.int .i64 0])/\W w'):sD.wp prog (dP fun a w=>Sl [(0,.bool false),(1,.pointer (some ⟨gE,0,none⟩)),(2,.slice (some ⟨gc,0,none⟩) 3 3),(3,.slice (some ⟨g3,0,none⟩) 3 3),(4,.slice A4 n4 c4),(5,.int .i64 0),(6,.int .i64 4),(7,.int .i64 0),(8,.int .i64 8),(9,.int .i64 0),(10,.bool true),(11,.int .i64 0),(12,.bool false),(13,.int .i64 0)] a/\W w) a w:=by
 obtain⟨x,rfl,hx⟩:=hs.lit;simp only[Al] at hx;have q0:=hc.cell 0;have q1:=hc.cell 1;have q2:=hc.cell 2;have q3:=hc.cell 3;have aB:=Af3 aB;clear hc;unfold lit;simp only[hx];simp only[sD,kz,jI,jl,iV,iB,gT,gS,gR,hJ,Tryz.f21,bO,a8,Afv];go_wp2_with (go_at_call 43;refine aB.out.mono ?_;rintro e w1 ⟨rfl,hp⟩;have HP:=Af3 hp;clear hp)
 exact⟨⟨rfl,rfl,(by repeat first|exact iT|refine eN rfl ?_)⟩,HP.out⟩
set_option maxRecDepth 400000 in
theorem akx{gE gp gb gt gc g3:Nat}{A4:Option Aay}{n4 c4:Nat}{kO:Option Aay}{n16 c16:Nat}{W:Aa4->Prop}{a:Act}{w:Aa4}(hs:Sl [(0,.bool false),(1,.pointer (some ⟨gE,0,none⟩)),(2,.slice (some ⟨gc,0,none⟩) 3 3),(3,.slice (some ⟨g3,0,none⟩) 3 3),(4,.slice A4 n4 c4),(5,.int .i64 0),(6,.int .i64 4),(7,.int .i64 0),(8,.int .i64 8),(9,.int .i64 0),(10,.bool true),(11,.int .i64 0),(12,.bool false),(13,.int .i64 0),(14,.int .i64 2),(15,.int .i64 0),(16,.slice kO n16 c16),(17,.int .i64 0)] a)(hc:Bk w gE 26 #[.int .i64 1,.slice (some ⟨gp,0,none⟩) 3 3,.slice (some ⟨gb,0,none⟩) 2 2,.slice (some ⟨gt,0,none⟩) 1 1])
 (aB:Af1 prog 26 #[.agg #[.int .i64 1,.slice (some ⟨gp,0,none⟩) 3 3,.slice (some ⟨gb,0,none⟩) 2 2,.slice (some ⟨gt,0,none⟩) 1 1]] w fun e w'=>e=.returned (.tuple #[.agg #[.int .i64 10,.int .i64 10],.int .i64 0])/\W w'):
 si.wp prog (dP fun a w=>∃w1,W w1/\(∃g8,g8=w1.heap.size/\Sl [(0,.bool false),(1,.pointer (some ⟨gE,0,none⟩)),(2,.slice (some ⟨gc,0,none⟩) 3 3),(3,.slice (some ⟨g3,0,none⟩) 3 3),(4,.slice A4 n4 c4),(5,.int .i64 0),(6,.int .i64 4),(7,.int .i64 0),(8,.int .i64 8),(9,.int .i64 0),(10,.bool true),(11,.int .i64 0),(12,.bool false),(13,.int .i64 0),(14,.int .i64 2),(15,.int .i64 0),(16,.slice kO n16 c16),(17,.int .i64 0),(18,.pointer (some ⟨g8,0,none⟩)),(19,.int .i64 0)] a)/\w=w1.alloc (.cells #[.int .i64 10,.int .i64 10] 37)) a w:=by
 obtain⟨x,rfl,hx⟩:=hs.lit;simp only[Al] at hx;have q0:=hc.cell 0;have q1:=hc.cell 1;have q2:=hc.cell 2;have q3:=hc.cell 3;have aB:=Af3 aB;clear hc;unfold lit;simp only[hx];simp only[si,mg,lA,kN,kz,jI,jl,iV,iB,gT,gS,gR,hJ,Tryz.f21,bO,a8,Afv];go_wp2_with (go_at_call 26;refine aB.out.mono ?_;rintro e w1 ⟨rfl,hp⟩;have HP:=Af3 hp;clear hp)
 exact⟨_,HP.out,⟨_,rfl,⟨rfl,rfl,(by repeat first|exact iT|refine eN rfl ?_)⟩⟩,rfl⟩
theorem RU{w:Aa4}{g:Nat}{t:TypeId}{cs:Array Value}(h:Bk w g t cs):Bk w.drew g t cs:=h
set_option maxRecDepth 400000 in
theorem aky{gE gp gb gt gc g3 g8:Nat}{A4:Option Aay}{n4 c4:Nat}{kO:Option Aay}{n16 c16:Nat}{a:Act}{w:Aa4}(hs:Sl [(0,.bool false),(1,.pointer (some ⟨gE,0,none⟩)),(2,.slice (some ⟨gc,0,none⟩) 3 3),(3,.slice (some ⟨g3,0,none⟩) 3 3),(4,.slice A4 n4 c4),(5,.int .i64 0),(6,.int .i64 4),(7,.int .i64 0),(8,.int .i64 8),(9,.int .i64 0),(10,.bool true),(11,.int .i64 0),(12,.bool false),(13,.int .i64 0),(14,.int .i64 2),(15,.int .i64 0),(16,.slice kO n16 c16),(17,.int .i64 0),(18,.pointer (some ⟨g8,0,none⟩)),(19,.int .i64 0)] a)(h8:Bk w g8 37 #[.int .i64 10,.int .i64 10])
 (cV:Row w w.heap.size 2 Span.R (.slice A4 n4 c4) [⟨0,2⟩,⟨4,7⟩])(AF:Row w w.heap.size 1 cH (.slice kO n16 c16) [4,5]):
 sj.wp prog (dP fun a w'=>Sl [(0,.bool false),(1,.pointer (some ⟨gE,0,none⟩)),(2,.slice (some ⟨gc,0,none⟩) 3 3),(3,.slice (some ⟨g3,0,none⟩) 3 3)] a/\Ahz w.heap.size w w') a w:=by
 obtain⟨x,rfl,hx⟩:=hs.lit;simp only[Al] at hx;have q0:=h8.cell 0;have q1:=h8.cell 1;have lt8:g8<w.heap.size:=h8.lt;have le8:g8<=w.heap.size:=Nat.le_of_lt lt8;have QP:Hid (∀W,Ahz w.heap.size w W->∀g,Bk W g 37 #[.int .i64 0,.int .i64 2,.int .i64 4,.int .i64 7]->Af1 prog 75 #[.slice A4 n4 c4,.slice (some ⟨g,0,none⟩) 2 2] W fun e w'=>e=.returned (.bool true)/\Ahz W.heap.size W w'):=Af3 fun W hb g hg=>by
  have:=abR (ft cV hb) (Lz [⟨0,2⟩,⟨4,7⟩] (by decide) hg rfl) (Ac2 _)
  exact this
 have QJ:Hid (∀W,Ahz w.heap.size w W->∀g,Bk W g 3 #[.int .i64 4,.int .i64 5]->Af1 prog 30 #[.slice kO n16 c16,.slice (some ⟨g,0,none⟩) 2 2] W fun e w'=>e=.returned (.bool true)/\Ahz W.heap.size W w'):=Af3 fun W hb g hg=>by
  have:=GK (ft AF hb) (ru [4,5] (by decide) hg rfl) (Ac2 _)
  exact this
 clear h8 cV AF;unfold lit;simp only[hx];simp only[sj,mX,mg,lA,kN,kz,jI,jl,iV,iB,gT,gS,gR,hJ,Tryz.f21,bO,a8,Afv];refine wp_seq (Zj (N:=68) (by kernel_rfl) rfl ?_)
 refine uH (N:=68) (s:=0) (e:=50) (fuel:=18) rfl (by kernel_rfl) (by omega) 50 0 (by omega) rfl ?_
 generalize hQ:Exit.then _ _=Q';simp only[Agl];repeat(first| (refine mf rfl rfl rfl (by kernel_rfl) (fun _ _=>?_)) |go_step)
 subst hQ;show Ajg _ _ _ _ _ _ _ _;have hcut:∀x:Act,x=x:=fun _=>rfl
 refine Ln (fuel:=17) [50,51] (by kernel_rfl) (by simp) (Gu (IF _ rfl ?_) (Gu (IF _ rfl ?_) Ly))
 ·generalize hQ:Exit.then _ _=Q'
  repeat(first
   | (refine mf rfl rfl rfl (by kernel_rfl) (fun _ _=>?_))
   |go_step
   | (go_at_call 50;refine(Bc _ _).mono ?_;rintro e w1 ⟨rfl,rfl⟩)
   | (dsimp only)
   |go_upon
   |go_back
   |go_values)
  subst hQ;show Ajg _ _ _ _ _ _ _ _;refine Ln (fuel:=16) [51] (by kernel_rfl) (by simp) (Gu (IF _ rfl ?_) Ly)
  generalize hQ:Exit.then _ _=Q';repeat(first
   | (refine mf rfl rfl rfl (by kernel_rfl) (fun _ _=>?_))
   |go_step
   | (go_at_call 50;refine(Bc _ _).mono ?_;rintro e w1 ⟨rfl,rfl⟩)
   | (dsimp only)
   |go_upon
   |go_back
   |go_values)
  subst hQ;show Ajg _ _ _ _ _ _ _ _;refine zG (l':=fP 68 52) (V1 (n:=68) (i:=50) (j:=51) rfl (by omega)) ?_
  refine uH (N:=68) (s:=52) (e:=55) (fuel:=13) rfl (by kernel_rfl) (by omega) 3 52 (by omega) rfl ?_
  generalize hQ:Exit.then _ _=Q';simp only[Agk,Agl,Agi,Agj];repeat(first
   | (refine mf rfl rfl rfl (by kernel_rfl) (fun _ _=>?_))
   |go_step
   | (dsimp only)
   |go_upon
   |go_back
   |go_values)
  subst hQ;show Ajg _ _ _ _ _ _ _ _;refine Ajh (fuel:=12) (i:=55) (v:=.slice A4 n4 c4) rfl (by kernel_rfl) (by kernel_rfl) (by kernel_rfl) (fun _ _ _ h=>h) (Or.inl ⟨by kernel_rfl,fun w=>by kernel_rfl⟩) ?_
  refine zG (l':=fP 68 (55+1)) (yE (by omega)) ?_
  simp only[Act.put,Ajn,Ajo,Ai7];refine uH (N:=68) (s:=56) (e:=63) (fuel:=5) rfl (by kernel_rfl) (by omega) 7 56 (by omega) rfl ?_
  generalize hQ:Exit.then _ _=Q';simp only[Agk,Agl,Agi,Agj];repeat(first
   | (refine mf rfl rfl rfl (by kernel_rfl) (fun _ _=>?_))
   |go_step
   | (go_at_call 67;refine(P8 _ _ _).mono ?_;rintro e w1 ⟨rfl,rfl⟩)
   | (go_at_call 75;refine(QP.out _ (by repeat first|exact Ai4 _ _|refine iY ?_|refine Ajj ?_ (by simp<;>omega) _) _ (by first|exact RU (Bk.cG (by simp) _ _) |exact Bk.cG (by simp) _ _)).mono ?_;rintro e w5 ⟨rfl,eR⟩;have H5:Hid (Ahz w.heap.size w w5):=Af3 (Ajk (B:=w.heap.size) (by repeat first|exact Ai4 _ _|refine iY ?_|refine Ajj ?_ (by simp<;>omega) _) (eR.mono (by simp<;>omega)));clear eR)
   | (dsimp only)
   |go_upon
   |go_back
   |go_values)
  subst hQ;show Ajg _ _ _ _ _ _ _ _;refine Ajh (fuel:=4) (i:=63) (v:=.slice kO n16 c16) rfl (by kernel_rfl) (by kernel_rfl) (by kernel_rfl) (fun _ _ _ h=>h) (Or.inl ⟨by kernel_rfl,fun w=>by kernel_rfl⟩) ?_
  refine zG (l':=fP 68 (63+1)) (yE (by omega)) ?_
  simp only[Act.put,Ajn,Ajo,Ai7];refine uH (N:=68) (s:=64) (e:=68) (fuel:=0) rfl (by kernel_rfl) (by omega) 4 64 (by omega) rfl ?_
  generalize hQ:Exit.then _ _=Q';simp only[Agk,Agl,Agi,Agj];repeat(first
   | (refine mf rfl rfl rfl (by kernel_rfl) (fun _ _=>?_))
   |go_step
   | (go_at_call 30;have qi:=QJ.out (w5.alloc (Af4 #[Value.int Ack 4,Value.int Ack 5] 3)) (H5.out.alloc H5.out.size _) w5.heap.size (Bk.new _ _ _);refine qi.mono ?_;rintro e w6 ⟨rfl,fI⟩;have H6:=Af3 ((H5.out.alloc H5.out.size _).trans (fI.mono (by have:=H5.out.size;simp;omega)));clear fI)
   | (dsimp only)
   |go_upon
   |go_back
   |go_values)
  subst hQ;show Ajg _ _ _ _ _ _ _ _;refine wpAny_done (by kernel_rfl) ?_ _
  go_wp2;exact⟨⟨rfl,rfl,eN rfl (eN rfl (eN rfl (eN rfl (iT))))⟩,H6.out⟩
 ·generalize hQ:Exit.then _ _=Q'
  repeat(first
   | (refine mf rfl rfl rfl (by kernel_rfl) (fun _ _=>?_))
   |go_step
   | (go_at_call 50;refine(Bc _ _).mono ?_;rintro e w1 ⟨rfl,rfl⟩)
   | (dsimp only)
   |go_upon
   |go_back
   |go_values)
  subst hQ;show Ajg _ _ _ _ _ _ _ _;refine Ln (fuel:=16) [50] (by kernel_rfl) (by simp) (Gu (IF _ rfl ?_) Ly)
  generalize hQ:Exit.then _ _=Q';repeat(first
   | (refine mf rfl rfl rfl (by kernel_rfl) (fun _ _=>?_))
   |go_step
   | (go_at_call 50;refine(Bc _ _).mono ?_;rintro e w1 ⟨rfl,rfl⟩)
   | (dsimp only)
   |go_upon
   |go_back
   |go_values)
  subst hQ;show Ajg _ _ _ _ _ _ _ _;refine zG (l':=fP 68 52) (ahn (n:=68) (i:=50) (j:=51) rfl (by omega)) ?_
  refine uH (N:=68) (s:=52) (e:=55) (fuel:=13) rfl (by kernel_rfl) (by omega) 3 52 (by omega) rfl ?_
  generalize hQ:Exit.then _ _=Q';simp only[Agk,Agl,Agi,Agj];repeat(first
   | (refine mf rfl rfl rfl (by kernel_rfl) (fun _ _=>?_))
   |go_step
   | (dsimp only)
   |go_upon
   |go_back
   |go_values)
  subst hQ;show Ajg _ _ _ _ _ _ _ _;refine Ajh (fuel:=12) (i:=55) (v:=.slice A4 n4 c4) rfl (by kernel_rfl) (by kernel_rfl) (by kernel_rfl) (fun _ _ _ h=>h) (Or.inl ⟨by kernel_rfl,fun w=>by kernel_rfl⟩) ?_
  refine zG (l':=fP 68 (55+1)) (yE (by omega)) ?_
  simp only[Act.put,Ajn,Ajo,Ai7];refine uH (N:=68) (s:=56) (e:=63) (fuel:=5) rfl (by kernel_rfl) (by omega) 7 56 (by omega) rfl ?_
  generalize hQ:Exit.then _ _=Q';simp only[Agk,Agl,Agi,Agj];repeat(first
   | (refine mf rfl rfl rfl (by kernel_rfl) (fun _ _=>?_))
   |go_step
   | (go_at_call 67;refine(P8 _ _ _).mono ?_;rintro e w1 ⟨rfl,rfl⟩)
   | (go_at_call 75;refine(QP.out _ (by repeat first|exact Ai4 _ _|refine iY ?_|refine Ajj ?_ (by simp<;>omega) _) _ (by first|exact RU (Bk.cG (by simp) _ _) |exact Bk.cG (by simp) _ _)).mono ?_;rintro e w5 ⟨rfl,eR⟩;have H5:Hid (Ahz w.heap.size w w5):=Af3 (Ajk (B:=w.heap.size) (by repeat first|exact Ai4 _ _|refine iY ?_|refine Ajj ?_ (by simp<;>omega) _) (eR.mono (by simp<;>omega)));clear eR)
   | (dsimp only)
   |go_upon
   |go_back
   |go_values)
  subst hQ;show Ajg _ _ _ _ _ _ _ _;refine Ajh (fuel:=4) (i:=63) (v:=.slice kO n16 c16) rfl (by kernel_rfl) (by kernel_rfl) (by kernel_rfl) (fun _ _ _ h=>h) (Or.inl ⟨by kernel_rfl,fun w=>by kernel_rfl⟩) ?_
  refine zG (l':=fP 68 (63+1)) (yE (by omega)) ?_
  simp only[Act.put,Ajn,Ajo,Ai7];refine uH (N:=68) (s:=64) (e:=68) (fuel:=0) rfl (by kernel_rfl) (by omega) 4 64 (by omega) rfl ?_
  generalize hQ:Exit.then _ _=Q';simp only[Agk,Agl,Agi,Agj];repeat(first
   | (refine mf rfl rfl rfl (by kernel_rfl) (fun _ _=>?_))
   |go_step
   | (go_at_call 30;have qi:=QJ.out (w5.alloc (Af4 #[Value.int Ack 4,Value.int Ack 5] 3)) (H5.out.alloc H5.out.size _) w5.heap.size (Bk.new _ _ _);refine qi.mono ?_;rintro e w6 ⟨rfl,fI⟩;have H6:=Af3 ((H5.out.alloc H5.out.size _).trans (fI.mono (by have:=H5.out.size;simp;omega)));clear fI)
   | (dsimp only)
   |go_upon
   |go_back
   |go_values)
  subst hQ;show Ajg _ _ _ _ _ _ _ _;refine wpAny_done (by kernel_rfl) ?_ _
  go_wp2;exact⟨⟨rfl,rfl,eN rfl (eN rfl (eN rfl (eN rfl (iT))))⟩,H6.out⟩
def FB(w0:Aa4)(a:Act)(w:Aa4):Prop:=∃gE gp gb gk gt gl gc g3,Sl [(0,.bool false),(1,.pointer (some ⟨gE,0,none⟩)),(2,.slice (some ⟨gc,0,none⟩) 3 3),(3,.slice (some ⟨g3,0,none⟩) 3 3)] a/\jo w0 w gE gp gb gk gt gl gc g3
theorem FA.fb{w0:Aa4}{a:Act}{w:Aa4}(h:FA w0 a w):FB w0 a w:=by
 obtain⟨hd,aI,h0,gE,gp,gb,gk,gt,gl,gc,g3,h1,h2,h3,hx⟩:=h;exact⟨gE,gp,gb,gk,gt,gl,gc,g3,⟨hd,aI,eN h0 (eN h1 (eN h2 (eN h3 iT)))⟩,hx⟩
theorem jo.kD{w0 w:Aa4}{gE gp gb gk gt gl gc g3:Nat}(h:jo w0 w gE gp gb gk gt gl gc g3):Row w w.heap.size 2 Cut.R (.slice (some ⟨gc,0,none⟩) 3 3) dQ:=aa9 h.bc
theorem jo.LV{w0 w:Aa4}{gE gp gb gk gt gl gc g3:Nat}(h:jo w0 w gE gp gb gk gt gl gc g3):Row w w.heap.size 2 Cut.R (.slice (some ⟨g3,0,none⟩) 3 3) uS:=RJ uS (by decide) h.b3 rfl
theorem ak0{w0:Aa4}{a:Act}{w:Aa4}(hf:FB w0 a w):eX prog [sx,sA,sB,sC,sD,sE,sF,si,sj] (dP (FB w0)) a w:=by
 obtain⟨gE,gp,gb,gk,gt,gl,gc,g3,hs,hx⟩:=hf;refine jj (rz3 (W:=fun A n c w'=>Row w' w'.heap.size 2 Span.R (.slice A n c) [⟨0,2⟩,⟨4,7⟩]/\Ahz w.heap.size w w') hs hx.bE ?c3) ?_
 case c3=>
  refine(aaz (Ac2 _) (kY hx.ex) xh (x:=te) (k:=0) rfl).mono ?_
  rintro e w' ⟨v,rfl,ho,hb⟩;obtain⟨A,n,c,rfl⟩:=j8 ho;rw[abZ] at ho;exact⟨A,n,c,rfl,lu ho (fun _=>rfl) (fun _ _=>rfl),hb⟩
 rintro a w1 ⟨A4,n4,c4,hs,cV,hb⟩;replace hx:=hx.grown hb;clear hb;refine jj (rz4 (W:=fun w'=>Ahz w1.heap.size w1 w') hs hx.bE ?c4) ?_
 case c4=>
  refine(V0 (Ac2 _) (kY hx.ex) xh (x:=te) (k:=0) (bears:=0) rfl rfl).mono ?_
  rintro e w' ⟨rfl,hb⟩;exact⟨by rw[ab7],hb⟩
 rintro a w2 ⟨hs,hb⟩;replace hx:=hx.grown hb;replace cV:=ft cV hb;clear hb;refine jj (rz5 (W:=fun w'=>Ahz w2.heap.size w2 w') hs hx.bE ?c5) ?_
 case c5=>
  refine(V0 (Ac2 _) (kY hx.ex) xh (x:=te) (k:=0) (bears:=1) rfl rfl).mono ?_
  rintro e w' ⟨rfl,hb⟩;exact⟨by rw[ab8],hb⟩
 rintro a w3 ⟨hs,hb⟩;replace hx:=hx.grown hb;replace cV:=ft cV hb;clear hb;have ow:Ahz w3.heap.size w3 (w3.alloc (.cells #[.int .i64 4,.int .i64 3,.int .i64 3] 3)):=(Ai4 _ _).alloc (Ac2 _) _;have yp:=hx.grown ow;refine jj (rz6 (W:=fun w'=>Ahz w3.heap.size w3 w') hs hx.bE ?c6) ?_
 case c6=>
  refine(Ta (l:=[4,3,3]) (kD:=dQ) (Ac2 _) (kY yp.ex) (ru [4,3,3] (by decide) (Bk.new _ _ _) rfl) yp.kD xh acd).mono ?_
  rintro e w' ⟨rfl,hb⟩;exact⟨by rw[ab4],ow.trans (hb.mono (by simp))⟩
 rintro a w4 ⟨hs,hb⟩;replace hx:=hx.grown hb;replace cV:=ft cV hb;clear hb ow yp;have ow:Ahz w4.heap.size w4 (w4.alloc (.cells #[.int .i64 4,.int .i64 3,.int .i64 3] 3)):=(Ai4 _ _).alloc (Ac2 _) _;have yp:=hx.grown ow;refine jj (rz7 (W:=fun w'=>Ahz w4.heap.size w4 w') hs hx.bE ?c7) ?_
 case c7=>
  refine(Ta (l:=[4,3,3]) (kD:=uS) (Ac2 _) (kY yp.ex) (ru [4,3,3] (by decide) (Bk.new _ _ _) rfl) yp.LV xh ace).mono ?_
  rintro e w' ⟨rfl,hb⟩;exact⟨by rw[ab5],ow.trans (hb.mono (by simp))⟩
 rintro a w5 ⟨hs,hb⟩;replace hx:=hx.grown hb;replace cV:=ft cV hb;clear hb ow yp;refine jj (rz8 (W:=fun w'=>Ahz w5.heap.size w5 w') hs hx.bE ?c8) ?_
 case c8=>
  refine(ZL (Ac2 _) (kY hx.ex)).mono ?_
  rintro e w' ⟨rfl,hb⟩;exact⟨by rw[abX,xh],hb⟩
 rintro a w6 ⟨hs,hb⟩;replace hx:=hx.grown hb;replace cV:=ft cV hb;clear hb;refine jj (rz9 (W:=fun A n c w'=>Row w' w'.heap.size 1 cH (.slice A n c) [4,5]/\Ahz w6.heap.size w6 w') hs hx.bE ?c9) ?_
 case c9=>
  refine(ag8 (k:=0) (Ac2 _) (kY hx.ex) aca).mono ?_
  rintro e w' ⟨v,rfl,ho,hb⟩;obtain⟨A,n,c,rfl⟩:=j8 ho;rw[ab6] at ho;exact⟨A,n,c,rfl,Ih ho,hb⟩
 rintro a w7 ⟨kO,n16,c16,hs,AF,hb⟩;replace hx:=hx.grown hb;replace cV:=ft cV hb;clear hb;refine jj (akx (W:=fun w'=>Ahz w7.heap.size w7 w') hs hx.bE ?c10) ?_
 case c10=>
  refine(amm (Ac2 _) (kY hx.ex) CS).mono ?_
  rintro e w' ⟨rfl,hb⟩;exact⟨by rw[ack],hb⟩
 rintro a w8 ⟨qW,hb,⟨g8,Nn,hs⟩,rfl⟩;have ak:Ahz w7.heap.size w7 (qW.alloc (.cells #[.int .i64 10,.int .i64 10] 37)):=hb.alloc hb.size _;replace hx:=hx.grown ak;replace cV:=ft cV ak;replace AF:=ft AF ak;clear hb ak;refine jj (aky (gp:=0) (gb:=0) (gt:=0) hs (by rw[Nn];exact Bk.new _ _ _) cV AF) ?_
 rintro a w9 ⟨hs,hb⟩;exact⟨gE,gp,gb,gk,gt,gl,gc,g3,hs,hx.grown hb⟩
def FC(w0:Aa4)(a:Act)(w:Aa4):Prop:=∃gE gp gb gk gt gl gc g3 dk n22 c22 bZ n25 b6 er n28 ew,
 Sl [(0,.bool false),(1,.pointer (some ⟨gE,0,none⟩)),(2,.slice (some ⟨gc,0,none⟩) 3 3),(3,.slice (some ⟨g3,0,none⟩) 3 3),(5,.int .i64 0),(7,.int .i64 0),(9,.int .i64 0),(11,.int .i64 0),(13,.int .i64 0),(20,.int .i64 1),(21,.int .i64 0),(22,.slice dk n22 c22),(23,.slice none 0 0),(24,.int .i64 8),(25,.slice bZ n25 b6),(26,.int .i64 2),(27,.bool true),(28,.slice er n28 ew),(29,.int .i64 14),(30,.bool true)] a/\
 jo w0 w gE gp gb gk gt gl gc g3/\Row w w.heap.size 1 cH (.slice dk n22 c22) [1,1]/\Row w w.heap.size 2 Cut.R (.slice bZ n25 b6) dQ/\Row w w.heap.size 2 Cut.R (.slice er n28 ew) dQ
theorem OV{w0 w:Aa4}{gE gp gb gk gt gl gc g3:Nat}(hm:gI w0)(h:jo w0 w gE gp gb gk gt gl gc g3):gI w:=hm.below h.below hm.lt
theorem S5{w w':Aa4}{mI:List Cut->Int}{n:Int}{e:Ending}(hb:fA aW mI=some (dQ,n))(h:wM w aW mI e w'):
 ∃A k c,e=.returned (.tuple #[.slice A k c,.int .i64 n,.bool true,.int .i64 0])/\Row w' w'.heap.size 2 Cut.R (.slice A k c) dQ/\Ahz w.heap.size w w':=by
 obtain⟨cv,mv,fv,rfl,aQ,fX⟩:=h;rw[hb] at aQ;obtain⟨ho,rfl,rfl⟩:=aQ;obtain⟨A,k,c,rfl⟩:=j8 ho;exact⟨A,k,c,by rw[CS],lu (l:=dQ) ho (fun _=>rfl) (fun _ _=>rfl),fX⟩
theorem ak1{w0:Aa4}(hm:gI w0){a:Act}{w:Aa4}(hf:FB w0 a w):eX prog [sk,sn,so,sr,ss,su] (dP (FC w0)) a w:=by
 obtain⟨gE,gp,gb,gk,gt,gl,gc,g3,hs,hx⟩:=hf;refine jj (akz (W:=fun w'=>Ahz w.heap.size w w') hs hx.bE ?c12) ?_
 case c12=>
  refine(L4 (Ac2 _) (kY hx.ex) hx.kD S0).mono ?_
  rintro e w' ⟨rfl,hb⟩;exact⟨by rw[ab1],hb⟩
 rintro a w1 ⟨hs,hb⟩;replace hx:=hx.grown hb;clear hb;refine jj (akA (W:=fun w'=>Ahz w1.heap.size w1 w') hs hx.bE ?c13) ?_
 case c13=>
  refine(L4 (Ac2 _) (kY hx.ex) hx.LV S3).mono ?_
  rintro e w' ⟨rfl,hb⟩;exact⟨by rw[ab2],hb⟩
 rintro a w2 ⟨hs,hb⟩;replace hx:=hx.grown hb;clear hb;refine jj (akB (W:=fun A n c w'=>Row w' w'.heap.size 1 cH (.slice A n c) [1,1]/\Ahz w2.heap.size w2 w') hs hx.bE ?c14) ?_
 case c14=>
  refine(alD (Ac2 _) (kY hx.ex) hx.kD S0 ach).mono ?_
  rintro e w' ⟨v,rfl,ho,hb⟩;obtain⟨A,n,c,rfl⟩:=j8 ho;rw[acg] at ho;exact⟨A,n,c,rfl,Ih ho,hb⟩
 rintro a w3 ⟨dk,n22,c22,hs,j4,hb⟩;replace hx:=hx.grown hb;clear hb;refine jj (akC (W:=fun w'=>Ahz w3.heap.size w3 w') hs hx.bE ?c15) ?_
 case c15=>
  refine(alC (Ac2 _) (kY hx.ex) hx.LV S3 aci).mono ?_
  rintro e w' ⟨rfl,hb⟩;exact⟨rfl,hb⟩
 rintro a w4 ⟨hs,hb⟩;replace hx:=hx.grown hb;replace j4:=ft j4 hb;clear hb;refine jj (akD (W:=fun A n c w'=>Row w' w'.heap.size 2 Cut.R (.slice A n c) dQ/\Ahz w4.heap.size w4 w') hs hx.bE ?c16) ?_
 case c16=>
  refine(Md (Ac2 _) (kY hx.ex) (OV hm hx)).mono ?_
  rintro e w' h;exact S5 ab3 h
 rintro a w5 ⟨bZ,n25,b6,hs,gO,hb⟩;replace hx:=hx.grown hb;replace j4:=ft j4 hb;clear hb;refine jj (akE (W:=fun A n c w'=>Row w' w'.heap.size 2 Cut.R (.slice A n c) dQ/\Ahz w5.heap.size w5 w') hs hx.bE ?c17) ?_
 case c17=>
  refine(Xm (Ac2 _) (kY hx.ex) (OV hm hx)).mono ?_
  rintro e w' h;exact S5 acf h
 rintro a w6 ⟨er,n28,ew,hs,mE,hb⟩;exact⟨gE,gp,gb,gk,gt,gl,gc,g3,dk,n22,c22,bZ,n25,b6,er,n28,ew,hs,hx.grown hb,ft j4 hb,ft gO hb,mE⟩
theorem akZ{w0:Aa4}(hm:gI w0){a:Act}(h:eX prog [ui,uj,uk] (dP (FA w0)) a w0):eX prog [ui,uj,uk,sx,sA,sB,sC,sD,sE,sF,si,sj,sk,sn,so,sr,ss,su] (dP (FC w0)) a w0:=by
 refine FN (jQ:=[sx,sA,sB,sC,sD,sE,sF,si,sj,sk,sn,so,sr,ss,su]) (fun a w hf=>?_) [ui,uj,uk] h
 exact FN (jQ:=[sk,sn,so,sr,ss,su]) (fun a w hf=>ak1 hm hf) [sx,sA,sB,sC,sD,sE,sF,si,sj] (ak0 hf.fb)
set_option maxRecDepth 400000 in
theorem akG{gE gc g3:Nat}{dk:Option Aay}{n22 c22:Nat}{bZ:Option Aay}{n25 b6:Nat}{er:Option Aay}{n28 ew:Nat}{iW:Option Aay}{n31 iZ:Nat}{a:Act}{w:Aa4}(hs:Sl [(0,.bool false),(1,.pointer (some ⟨gE,0,none⟩)),(2,.slice (some ⟨gc,0,none⟩) 3 3),(3,.slice (some ⟨g3,0,none⟩) 3 3),(5,.int .i64 0),(7,.int .i64 0),(9,.int .i64 0),(11,.int .i64 0),(13,.int .i64 0),(15,.int .i64 0),(17,.int .i64 0),(20,.int .i64 1),(21,.int .i64 0),(22,.slice dk n22 c22),(23,.slice none 0 0),(24,.int .i64 8),(25,.slice bZ n25 b6),(26,.int .i64 2),(27,.bool true),(28,.slice er n28 ew),(29,.int .i64 14),(30,.bool true),(31,.slice iW n31 iZ),(32,.int .i64 0),(33,.int .i64 1)] a)
 (hc:Row w w.heap.size 2 Cut.R (.slice (some ⟨gc,0,none⟩) 3 3) dQ)(j4:Row w w.heap.size 1 cH (.slice dk n22 c22) [1,1])(gO:Row w w.heap.size 2 Cut.R (.slice bZ n25 b6) dQ)(mE:Row w w.heap.size 2 Cut.R (.slice er n28 ew) dQ)(yf:Row w w.heap.size 1 cH (.slice iW n31 iZ) [0,1]):
 wh.wp prog (dP fun a w'=>Sl [(1,.pointer (some ⟨gE,0,none⟩))] a/\Ahz w.heap.size w w') a w:=by
 obtain⟨x,rfl,hx⟩:=hs.lit;simp only[Al] at hx;have CA:Hid (∀W,Ahz w.heap.size w W->Af1 prog 35 #[.slice bZ n25 b6,.slice (some ⟨gc,0,none⟩) 3 3] W fun e w'=>e=.returned (.bool true)/\Ahz W.heap.size W w'):=Af3 fun W hb=>by
  have:=PF (ft gO hb) (ft hc hb) (Ac2 _);exact this
 have CB:Hid (∀W,Ahz w.heap.size w W->Af1 prog 35 #[.slice er n28 ew,.slice (some ⟨gc,0,none⟩) 3 3] W fun e w'=>e=.returned (.bool true)/\Ahz W.heap.size W w'):=Af3 fun W hb=>by
  have:=PF (ft mE hb) (ft hc hb) (Ac2 _);exact this
 have CC:Hid (∀W,Ahz w.heap.size w W->∀g,Bk W g 3 #[.int .i64 1,.int .i64 1]->Af1 prog 30 #[.slice dk n22 c22,.slice (some ⟨g,0,none⟩) 2 2] W fun e w'=>e=.returned (.bool true)/\Ahz W.heap.size W w'):=Af3 fun W hb g hg=>by
  have:=GK (ft j4 hb) (ru [1,1] (by decide) hg rfl) (Ac2 _)
  exact this
 have CD:Hid (∀W,Ahz w.heap.size w W->∀g,Bk W g 3 #[.int .i64 0,.int .i64 1]->Af1 prog 30 #[.slice iW n31 iZ,.slice (some ⟨g,0,none⟩) 2 2] W fun e w'=>e=.returned (.bool true)/\Ahz W.heap.size W w'):=Af3 fun W hb g hg=>by
  have:=GK (ft yf hb) (ru [0,1] (by decide) hg rfl) (Ac2 _)
  exact this
 clear hc j4 gO mE yf;unfold lit;simp only[hx];simp only[wh,zf,wC,wA,uo,sJ,qX,pF,oM,nT,mX,mg,lA,kN,kz,jI,jl,iV,iB,gT,gS,gR,hJ,Tryz.f21,bO,a8,Afv];refine wp_seq (wp_region_lit ?_)
 generalize hQ:Exit.then _ _=Q';repeat(first
  | (refine mf rfl rfl rfl (by kernel_rfl) (fun _ _=>?_))
  |go_step
  | (dsimp only)
  |go_upon
  |go_back
  |go_values)
 go_at_call 35
 refine(CA.out _ (Ai4 _ _)).mono ?_
 rintro e w1 ⟨rfl,ae⟩;have H1:=Af3 ae;clear ae CA;repeat(first
  | (refine mf rfl rfl rfl (by kernel_rfl) (fun _ _=>?_))
  |go_step
  | (dsimp only)
  |go_upon
  |go_back
  |go_values)
 go_at_call 35
 refine(CB.out _ H1.out).mono ?_
 rintro e w2 ⟨rfl,ak⟩;have H2:=Af3 (H1.out.trans (ak.mono H1.out.size));clear ak CB H1;repeat(first
  | (refine mf rfl rfl rfl (by kernel_rfl) (fun _ _=>?_))
  |go_step
  | (dsimp only)
  |go_upon
  |go_back
  |go_values)
 go_at_call 30
 have qi:=CC.out (w2.alloc (Af4 #[Value.int Ack 1,Value.int Ack 1] 3)) (H2.out.alloc H2.out.size _) w2.heap.size (Bk.new _ _ _);refine qi.mono ?_
 rintro e w3 ⟨rfl,bD⟩;have H3:=Af3 ((H2.out.alloc H2.out.size _).trans (bD.mono (by have:=H2.out.size;simp;omega)))
 clear bD qi H2 CC;repeat(first
  | (refine mf rfl rfl rfl (by kernel_rfl) (fun _ _=>?_))
  |go_step
  | (dsimp only)
  |go_upon
  |go_back
  |go_values)
 go_at_call 30
 have qi:=CD.out (w3.alloc (Af4 #[Value.int Ack 0,Value.int Ack 1] 3)) (H3.out.alloc H3.out.size _) w3.heap.size (Bk.new _ _ _);refine qi.mono ?_
 rintro e w4 ⟨rfl,cO⟩;have H4:=Af3 ((H3.out.alloc H3.out.size _).trans (cO.mono (by have:=H3.out.size;simp;omega)))
 clear cO qi H3 CD;repeat(first
  | (refine mf rfl rfl rfl (by kernel_rfl) (fun _ _=>?_))
  |go_step
  | (dsimp only)
  |go_upon
  |go_back
  |go_values)
 subst hQ;go_wp2;exact⟨⟨rfl,rfl,eN rfl (iT)⟩,H4.out⟩
set_option maxRecDepth 400000 in
theorem akH{gE gp gb gt:Nat}{W:Option Aay->Nat->Nat->Option Aay->Nat->Nat->Option Aay->Nat->Nat->Aa4->Prop}{a:Act}{w:Aa4}(hs:Sl [(1,.pointer (some ⟨gE,0,none⟩))] a)(hc:Bk w gE 26 #[.int .i64 1,.slice (some ⟨gp,0,none⟩) 3 3,.slice (some ⟨gb,0,none⟩) 2 2,.slice (some ⟨gt,0,none⟩) 1 1])
 (aB:Af1 prog 53 #[.agg #[.int .i64 1,.slice (some ⟨gp,0,none⟩) 3 3,.slice (some ⟨gb,0,none⟩) 2 2,.slice (some ⟨gt,0,none⟩) 1 1],.agg #[.string O1,.int .i64 13,.slice none 0 0]] w fun e w'=>∃Ap np cp Ab nb cb At nt ct,e=.returned (.tuple #[.agg #[.int .i64 1,.slice Ap np cp,.slice Ab nb cb,.slice At nt ct],.int .i64 0])/\W Ap np cp Ab nb cb At nt ct w'):
 wj.wp prog (dP fun a w=>∃Ap np cp Ab nb cb At nt ct w1,W Ap np cp Ab nb cb At nt ct w1/\Sl [(1,.pointer (some ⟨gE,0,none⟩)),(5,.int .i64 0),(34,.pointer (some ⟨w1.heap.size,0,none⟩))] a/\w=w1.alloc (.cells #[.int .i64 1,.slice Ap np cp,.slice Ab nb cb,.slice At nt ct] 26)) a w:=by
 obtain⟨x,rfl,hx⟩:=hs.lit;simp only[Al] at hx;have q0:=hc.cell 0;have q1:=hc.cell 1;have q2:=hc.cell 2;have q3:=hc.cell 3;have aB:=Af3 aB;clear hc;unfold lit;simp only[hx];simp only[wj,BP,zf,wC,wA,uo,sJ,qX,pF,oM,nT,mX,mg,lA,kN,kz,jI,jl,iV,iB,gT,gS,gR,hJ,Tryz.f21,bO,a8,Afv];go_wp2_with (go_at_call 53;refine aB.out.mono ?_;rintro e w1 ⟨Ap,np,cp,Ab,nb,cb,At,nt,ct,rfl,hp⟩;have HP:=Af3 hp;clear hp)
 exact⟨_,_,_,_,_,_,_,_,_,_,HP.out,⟨rfl,rfl,eN rfl (eN rfl (eN rfl iT))⟩,rfl⟩
set_option maxRecDepth 400000 in
theorem akI{gE Tv:Nat}{Ap Ab At:Option Aay}{np cp nb cb nt ct:Nat}{W:Option Aay->Nat->Nat->Aa4->Prop}{a:Act}{w:Aa4}(hs:Sl [(1,.pointer (some ⟨gE,0,none⟩)),(5,.int .i64 0),(34,.pointer (some ⟨Tv,0,none⟩))] a)(hc:Bk w Tv 26 #[.int .i64 1,.slice Ap np cp,.slice Ab nb cb,.slice At nt ct])
 (aB:Af1 prog 33 #[.agg #[.int .i64 1,.slice Ap np cp,.slice Ab nb cb,.slice At nt ct]] w fun e w'=>∃bZ n25 b6,e=.returned (.tuple #[.slice bZ n25 b6,.int .i64 1,.bool true,.int .i64 0])/\W bZ n25 b6 w'):wm.wp prog (dP fun a w=>∃bZ n25 b6,Sl [(1,.pointer (some ⟨gE,0,none⟩)),(5,.int .i64 0),(7,.int .i64 0),(25,.slice bZ n25 b6),(26,.int .i64 1)] a/\W bZ n25 b6 w) a w:=by
 obtain⟨x,rfl,hx⟩:=hs.lit;simp only[Al] at hx;have q0:=hc.cell 0;have q1:=hc.cell 1;have q2:=hc.cell 2;have q3:=hc.cell 3;have aB:=Af3 aB;clear hc;unfold lit;simp only[hx];simp only[wm,FQ,BP,zf,wC,wA,uo,sJ,qX,pF,oM,nT,mX,mg,lA,kN,kz,jI,jl,iV,iB,gT,gS,gR,hJ,Tryz.f21,bO,a8,Afv];go_wp2_with (go_at_call 33;refine aB.out.mono ?_;rintro e w1 ⟨bZ,n25,b6,rfl,hp⟩;have HP:=Af3 hp;clear hp)
 exact⟨bZ,n25,b6,⟨rfl,rfl,(by repeat first|exact iT|refine eN rfl ?_)⟩,HP.out⟩
set_option maxRecDepth 400000 in
theorem akK{gE:Nat}{Ap Ab At:Option Aay}{np cp nb cb nt ct:Nat}{bZ:Option Aay}{n25 b6:Nat}{W:Option Aay->Nat->Nat->Aa4->Prop}{a:Act}{w:Aa4}(hs:Sl [(1,.pointer (some ⟨gE,0,none⟩)),(5,.int .i64 0),(7,.int .i64 0),(25,.slice bZ n25 b6),(26,.int .i64 1)] a)(hc:Bk w gE 26 #[.int .i64 1,.slice Ap np cp,.slice Ab nb cb,.slice At nt ct])
 (aB:Af1 prog 56 #[.agg #[.int .i64 1,.slice Ap np cp,.slice Ab nb cb,.slice At nt ct]] w fun e w'=>∃kP n35 jd,e=.returned (.tuple #[.slice kP n35 jd,.int .i64 0])/\W kP n35 jd w'):wu.wp prog (dP fun a w=>∃kP n35 jd,Sl [(5,.int .i64 0),(7,.int .i64 0),(9,.int .i64 0),(25,.slice bZ n25 b6),(26,.int .i64 1),(35,.slice kP n35 jd)] a/\W kP n35 jd w) a w:=by
 obtain⟨x,rfl,hx⟩:=hs.lit;simp only[Al] at hx;have q0:=hc.cell 0;have q1:=hc.cell 1;have q2:=hc.cell 2;have q3:=hc.cell 3;have aB:=Af3 aB;clear hc;unfold lit;simp only[hx];simp only[wu,JX,JW,FQ,BP,zf,wC,wA,uo,sJ,qX,pF,oM,nT,mX,mg,lA,kN,kz,jI,jl,iV,iB,gT,gS,gR,hJ,Tryz.f21,bO,a8,Afv];go_wp2_with (go_at_call 56;refine aB.out.mono ?_;rintro e w1 ⟨kP,n35,jd,rfl,hp⟩;have HP:=Af3 hp;clear hp)
 exact⟨kP,n35,jd,⟨rfl,rfl,(by repeat first|exact iT|refine eN rfl ?_)⟩,HP.out⟩
set_option maxRecDepth 400000 in
theorem akL{bZ:Option Aay}{n25 b6:Nat}{kP:Option Aay}{n35 jd:Nat}{a:Act}{w:Aa4}(hs:Sl [(5,.int .i64 0),(7,.int .i64 0),(9,.int .i64 0),(25,.slice bZ n25 b6),(26,.int .i64 1),(35,.slice kP n35 jd)] a)
 (gO:Row w w.heap.size 2 Cut.R (.slice bZ n25 b6) mr)(Hx:Row w w.heap.size 1 cH (.slice kP n35 jd) [0,1,2]):
 wD.wp prog (fun e a w'=>e=.ret/\a.defers=[cQ]/\a.tmps.size=349/\a.tmps[0]?=some (.bool true)/\Ahz w.heap.size w w') a w:=by
 obtain⟨x,rfl,hx⟩:=hs.lit;simp only[Al] at hx;have CA:Hid (∀W,Ahz w.heap.size w W->∀g,Bk W g 56 #[.int .i64 2,.int .i64 0,.int .i64 2,.int .i64 6,.int .i64 2,.int .i64 10]->Af1 prog 35 #[.slice bZ n25 b6,.slice (some ⟨g,0,none⟩) 3 3] W fun e w'=>e=.returned (.bool true)/\Ahz W.heap.size W w'):=Af3 fun W hb g hg=>by
  have:=PF (ft gO hb) (RJ mr (by decide) hg rfl) (Ac2 _)
  exact this
 have CB:Hid (∀W,Ahz w.heap.size w W->∀g,Bk W g 3 #[.int .i64 0,.int .i64 1,.int .i64 2]->Af1 prog 30 #[.slice kP n35 jd,.slice (some ⟨g,0,none⟩) 3 3] W fun e w'=>e=.returned (.bool true)/\Ahz W.heap.size W w'):=Af3 fun W hb g hg=>by
  have:=GK (ft Hx hb) (ru [0,1,2] (by decide) hg rfl) (Ac2 _)
  exact this
 clear gO Hx;unfold lit;simp only[hx];simp only[wD,JX,JW,FQ,BP,zf,wC,wA,uo,sJ,qX,pF,oM,nT,mX,mg,lA,kN,kz,jI,jl,iV,iB,gT,gS,gR,hJ,Tryz.f21,bO,a8,Afv];go_wp2_with (first
  | (go_at_call 66;refine(di _ _ _).mono ?_;rintro e w1 ⟨rfl,rfl⟩)
  | (go_at_call 35;refine(CA.out _ (by repeat first|exact Ai4 _ _|refine Ajj ?_ (by simp<;>omega) _) _ (Bk.cG (by simp) _ _)).mono ?_;rintro e w5 ⟨rfl,eR⟩;have H5:Hid (Ahz w.heap.size w w5):=Af3 (Ajk (B:=w.heap.size) (by repeat first|exact Ai4 _ _|refine Ajj ?_ (by simp<;>omega) _) (eR.mono (by simp<;>omega)));clear eR)
  | (go_at_call 30;have qi:=CB.out (w5.alloc (Af4 #[Value.int Ack 0,Value.int Ack 1,Value.int Ack 2] 3)) (H5.out.alloc H5.out.size _) w5.heap.size (Bk.new _ _ _);refine qi.mono ?_;rintro e w6 ⟨rfl,fI⟩;have H6:=Af3 ((H5.out.alloc H5.out.size _).trans (fI.mono (by have:=H5.out.size;simp;omega)));clear fI))
 exact H6.out
end
end Go.Jn
namespace Go.Jn
open Go Go.Proofs Go.Sim Go.Conc Go.Tw Go.RowKit
theorem akn{α:Type}{w:Aa4}{No:Nat->Prop}{sz:Nat}{R:α->List Value->Prop}{v:Value}{xs:List α}(h:cW w No sz R v xs){p:Aay}(hp:No p.block)(u:Value):cW (w.setCell p u) No sz R v xs:=by
 obtain⟨A,c,hv,h1,h2,h3⟩:=h;refine⟨A,c,hv,h1,h2,fun hx=>?_⟩
 obtain⟨ad,ha,hb,hn,hc⟩:=h3 hx;refine⟨ad,ha,by simpa [World.setCell] using hb,hn,fun i x hi=>?_⟩
 obtain⟨cs,r,hl,au⟩:=hc i x hi;refine⟨cs,r,hl,fun j u hu=>?_⟩
 have aw:(ad.add (i * sz+j)).block≠p.block:=by rw[cq];intro e;rw[e] at hn;exact hn hp
 exact(World.cell?_of_block (Below.heap_setCell w p _ _ aw)).trans (au j u hu)
section
variable [Go.Tw.aR]
def zR(gk:Nat):List (bR×Value):=[(te,.slice (some ⟨gk,0,none⟩) 1 1),(⟨EC,6,[]⟩,.slice none 0 0)]
def CU(gl g1 g2:Nat):List (Tw.Tape×Value):=[(⟨[0,2],⟨7,7⟩⟩,.slice (some ⟨gl,0,none⟩) 2 2),(⟨[0],⟨4,4⟩⟩,.slice (some ⟨g1,0,none⟩) 1 1),(⟨[2],⟨2,2⟩⟩,.slice (some ⟨g2,0,none⟩) 1 1)]
theorem amc{W:Aa4}{gp gb gk gl g1 g2 base:Nat}{tv:Value}(hp:Bk W gp 72 #[.string It,.int .i64 4,.int .i64 5,.int .i64 0,.string Iu,.int .i64 3,.int .i64 3,.int .i64 1,.string Is,.int .i64 2,.int .i64 3,.int .i64 0])
 (hb:Bk W gb 59 #[.string EA,.int .i64 8,.slice (some ⟨gk,0,none⟩) 1 1,.string EC,.int .i64 6,.slice none 0 0])(hk:Bk W gk 37 #[.int .i64 3,.int .i64 3])(hl:Bk W gl 3 #[.int .i64 0,.int .i64 2])
 (h1:Bk W g1 3 #[.int .i64 0])(h2:Bk W g2 3 #[.int .i64 2])(ho:W.ownsRow base 95 3 tv 3 ((CU gl g1 g2).flatMap eG)):
 bg W W.heap.size zS (.slice (some ⟨gp,0,none⟩) 3 3) (.slice (some ⟨gb,0,none⟩) 2 2) tv:=by
 refine⟨?_,?_,?_⟩
 ·exact wX (xs:=aW.pieces) (f:=vV) hp (by decide) (fun _=>rfl) (fun x hx=>by
   refine⟨rfl,?_⟩
   simp only[aW,Aef,Aeg,or_false] at hx;rcases hx with rfl|rfl|rfl<;>decide) rfl
 ·have:=wX (xs:=zR gk) (sz:=3) (f:=eP) (R:=fun p cs=>cs=eP p) hb (by show 2<=1000;decide) (fun _=>rfl) (fun _ _=>rfl) rfl
  exact yY (ps:=zR gk) this (fun p hm cs hc=>by
   simp only[zR,Aef,Aeg,or_false] at hm;rcases hm with rfl|rfl
   ·exact⟨_,hc,(by show te.name.size<=Af0;decide),Lz [⟨3,3⟩] (by decide) hk rfl⟩
   ·exact⟨_,hc,by decide,Row.nil⟩)
 ·have:=lu (l:=CU gl g1 g2) (f:=eG) (R:=fun p cs=>cs=eG p) ho (fun _=>rfl) (fun _ _=>rfl)
  exact yY (ps:=CU gl g1 g2) this (fun p hm cs hc=>by
   simp only[CU,Aef,Aeg,or_false] at hm;rcases hm with rfl|rfl|rfl
   ·exact⟨_,hc,ru [0,2] (by decide) hl rfl⟩
   ·exact⟨_,hc,ru [0] (by decide) h1 rfl⟩
   ·exact⟨_,hc,ru [2] (by decide) h2 rfl⟩)
theorem kT{w:Aa4}{g g':Nat}{t t':TypeId}{cs bh:Array Value}(h:Bk w g t cs)(h':Bk w g' t' bh)(ht:t≠t'):g≠g':=by
 rintro rfl;have h:w.heap[g]?=_:=h;have h':w.heap[g]?=_:=h';rw[h] at h';simp only[Option.some.injEq,Obj.cells.injEq] at h';exact ht h'.2.1
theorem ajt{w:Aa4}{base n sz g:Nat}{e t:TypeId}{v:Value}{xs:List Value}{cs:Array Value}(h:w.ownsRow base e sz v n xs)(hb:Bk w g t cs)(ht:e≠t):∀k,v.ownBlock=some k->g≠k:=by
 rcases h.2 with⟨rfl,_⟩ | ⟨k,cap,cur,rfl,jU,hk,_⟩
 ·intro k hk;simp[Value.ownBlock] at hk
 ·intro k' rH
  simp[Value.ownBlock] at rH;subst rH;exact fun e=>kT (show Bk w k _ cur from hk) hb ht e.symm
theorem amd{w0 w W4 w6:Aa4}{gE gp gb gk gt gl gc g3 g1 g2:Nat}{v':Value}(hx:jo w0 w gE gp gb gk gt gl gc g3)(h4:Ahz w.heap.size w W4)(b1:Bk W4 g1 3 #[.int .i64 0])(b2:Bk W4 g2 3 #[.int .i64 2])
 (aG:w6.ownsRow w0.heap.size 95 3 v' 3 ((CU gl g1 g2).flatMap eG))(hg:W4.grownBy w6 (some gt)):
 Bk w6 gE 26 #[.int .i64 1,.slice (some ⟨gp,0,none⟩) 3 3,.slice (some ⟨gb,0,none⟩) 2 2,.slice (some ⟨gt,0,none⟩) 1 1]/\
 Bk (w6.setCell ⟨gE,3,none⟩ v') gE 26 #[.int .i64 1,.slice (some ⟨gp,0,none⟩) 3 3,.slice (some ⟨gb,0,none⟩) 2 2,v']/\
 bg (w6.setCell ⟨gE,3,none⟩ v') (w6.setCell ⟨gE,3,none⟩ v').heap.size zS (.slice (some ⟨gp,0,none⟩) 3 3) (.slice (some ⟨gb,0,none⟩) 2 2) v'/\
 ∀ {A:Option Aay} {n c:Nat},cW w (fun k=>k=gE\/k=gt) 2 Cut.R (.slice A n c) mr->cW (w6.setCell ⟨gE,3,none⟩ v') (fun k=>k=gE\/k=gt) 2 Cut.R (.slice A n c) mr:=by
 have up:∀ {g t cs},Bk w g t cs->g≠gt->Bk w6 g t cs:=fun h aw=>Bk.grown (W:=W4) (h.below h4 h.lt) hg (by simpa using aw)
 have ht:=hx.ex.t;have hE:=up hx.bE (kT hx.bE ht (by decide))
 have hp:=up hx.ex.p (kT hx.ex.p ht (by decide))
 have hb:=up hx.ex.b (kT hx.ex.b ht (by decide))
 have hk:=up hx.ex.k (kT hx.ex.k ht (by decide))
 have hl:=up hx.ex.l (kT hx.ex.l ht (by decide))
 have Vj:=ht.below h4 ht.lt;have h1:Bk w6 g1 3 #[.int .i64 0]:=Bk.grown (W:=W4) b1 hg (by simpa using kT b1 Vj (by decide))
 have h2:Bk w6 g2 3 #[.int .i64 2]:=Bk.grown (W:=W4) b2 hg (by simpa using kT b2 Vj (by decide))
 have ho:=lj (u:=v') (p:=⟨gE,3,none⟩) aG (ajt aG hE (by decide))
 refine⟨hE,hE.set 3 v',amc (hp.dn (kT hp hE (by decide)) _) (hb.dn (kT hb hE (by decide)) _) (hk.dn (kT hk hE (by decide)) _) (hl.dn (kT hl hE (by decide)) _) (h1.dn (kT h1 hE (by decide)) _) (h2.dn (kT h2 hE (by decide)) _) ho,fun hr=>?_⟩
 have cV:cW W4 (fun k=>k=gE\/k=gt) 2 Cut.R _ mr:=hr.below h4 (fun k hk=>.inl hk)
 exact akn (cV.grown hg (fun k hk=>.inr (by simpa using hk.symm))) (.inl rfl) _
end
end Go.Jn
namespace Go.Jn
open Go Go.Proofs Go.Sim Go.Conc Go.Tw Go.RowKit
theorem anb{P:Program}{md:Region.Mode}{ops:Array Aev}{Q:Exit->Act->Aa4->Prop}(I:Nat->Array Bool->Act->Aa4->Prop)
 (dq:∀n l a w i (K:Act->Aa4->Prop),I n l a w->i∈Afj md ops l->(∀a' w',I (n+1) (l.setIfInBounds i true) a' w'->K a' w')->wpOp P ops Q i K a w)
 (qk:∀n l a w,I n l a w->Afj md ops l=[]->Q .normal a w)(Uj:∀l a w,I ops.size l a w->Afj md ops l=[]):
 ∀fuel n l a w,n+fuel=ops.size->I n l a w->Ajg P md ops Q fuel l a w:=by
 intro fuel;induction fuel with
 |zero=>
  intro n l a w hn h;have hn:n=ops.size:=hn;subst hn;exact⟨Uj l a w h,qk _ l a w h (Uj l a w h)⟩
 |succ k ih=>exact fun n l a w hn h=>⟨qk n l a w h,fun i hi=>dq n l a w i _ h hi fun a' w' h'=>ih (n+1) _ a' w' (by omega) h'⟩
def waits(ops:Array Aev)(i:Nat):List Nat:=((ops[i]?).map fun o=>(o.after.toList.filter (Region.binds .any ·)).map (·.on)).getD []
theorem IX{ops:Array Aev}{l:Array Bool}{i:Nat}:i∈Afj .any ops l↔i<ops.size/\l.getD i true=false/\∀d∈waits ops i,l.getD d false=true:=by
 rw[mem_ready];unfold waits;constructor
 ·rintro⟨h,o,ho,ha⟩
  refine⟨(Aaf.1 ho).1,h,fun d hd=>?_⟩
  rw[ho] at hd;simp only[Afu,Afv,List.mem_map,List.mem_filter] at hd;obtain⟨e,⟨he,hb⟩,rfl⟩:=hd;exact ha e (by simpa using he) hb
 ·rintro⟨hi,h,ha⟩
  refine⟨h,ops[i],Aaf.2 ⟨hi,rfl⟩,fun e he hb=>ha _ ?_⟩
  rw[Aaf.2 ⟨hi,rfl⟩]
  simp only[Afu,Afv,List.mem_map,List.mem_filter];exact⟨e,⟨by simpa using he,hb⟩,rfl⟩
noncomputable def dt:Array Aev:=opsOf sw
noncomputable def af1:Nat:=match sw with| .region i _ _=>i|_=>0
theorem al7:sw=.region af1 dt true:=by kernel_rfl
theorem By:dt.size=12:=by kernel_rfl
theorem abo:∃o,dt[0]?=some o/\o.op=.fieldAddr 26 (.tmp 1) 3/\o.dst=some 306/\o.guard=none:=⟨_,rfl,rfl,rfl,rfl⟩
theorem abp:∃o,dt[1]?=some o/\o.op=.load 24 (.tmp 306)/\o.dst=some 307/\o.guard=none:=⟨_,rfl,rfl,rfl,rfl⟩
theorem abt:∃o,dt[2]?=some o/\o.op=.buildSlice 33 1 #[(0,.const (.int .i64 0))]/\o.dst=some 308/\o.guard=none:=⟨_,rfl,rfl,rfl,rfl⟩
theorem abu:∃o,dt[3]?=some o/\o.op=.call {callee:=.value (.func 50),args:=#[.const (.int .i64 4)],argTypes:=#[3]}/\o.dst=some 309/\o.guard=none:=⟨_,rfl,rfl,rfl,rfl⟩
theorem abv:∃o,dt[4]?=some o/\o.op=.build 95 #[(0,.tmp 308),(1,.tmp 309)]/\o.dst=some 310/\o.guard=none:=⟨_,rfl,rfl,rfl,rfl⟩
theorem abw:∃o,dt[5]?=some o/\o.op=.buildSlice 33 1 #[(0,.const (.int .i64 2))]/\o.dst=some 311/\o.guard=none:=⟨_,rfl,rfl,rfl,rfl⟩
theorem abx:∃o,dt[6]?=some o/\o.op=.call {callee:=.value (.func 50),args:=#[.const (.int .i64 2)],argTypes:=#[3]}/\o.dst=some 312/\o.guard=none:=⟨_,rfl,rfl,rfl,rfl⟩
theorem aby:∃o,dt[7]?=some o/\o.op=.build 95 #[(0,.tmp 311),(1,.tmp 312)]/\o.dst=some 313/\o.guard=none:=⟨_,rfl,rfl,rfl,rfl⟩
theorem abz:∃o,dt[8]?=some o/\o.op=.buildSlice 24 2 #[(0,.tmp 310),(1,.tmp 313)]/\o.dst=some 314/\o.guard=none:=⟨_,rfl,rfl,rfl,rfl⟩
theorem abA:∃o,dt[9]?=some o/\o.op=.call {callee:=.builtin .append,args:=#[.tmp 307,.tmp 314],argTypes:=#[24,24]}/\o.dst=some 315/\o.guard=none:=⟨_,rfl,rfl,rfl,rfl⟩
theorem abq:∃o,dt[10]?=some o/\o.op=.fieldAddr 26 (.tmp 1) 3/\o.dst=some 316/\o.guard=none:=⟨_,rfl,rfl,rfl,rfl⟩
theorem abr:∃o,dt[11]?=some o/\o.op=.store 24 (.tmp 316) (.tmp 315)/\o.dst=none/\o.guard=none:=⟨_,rfl,rfl,rfl,rfl⟩
theorem Yg:waits dt 1=[0]:=by kernel_rfl
theorem Jp:waits dt 4=[2,3]:=by kernel_rfl
theorem Qu:waits dt 7=[5,6]:=by kernel_rfl
theorem Qv:waits dt 8=[4,7]:=by kernel_rfl
theorem Qw:waits dt 9=[1,8,6]:=by kernel_rfl
theorem FP:waits dt 10=[0,1,2,3,4,5,6,7,8,9]:=by kernel_rfl
theorem Jo:10∈waits dt 11:=List.contains_iff_mem.1 (by kernel_rfl)
theorem wlt:(Af9 12).all (fun i=>(waits dt i).all fun d=>decide (d<i))=true:=by kernel_rfl
theorem Lm{l:Array Bool}(h:Afj .any dt l=[]):∀i,i<12->l.getD i true=true:=by
 intro i;induction i using Nat.strongRecOn with
 |_ i ih=>
  intro hi;cases hb:l.getD i true with
  |true=>rfl
  |false=>
   have:i∈Afj .any dt l:=IX.2 ⟨by rw[By];exact hi,hb,fun d hd=>by
    have al:d<i:=by
     have:=Ajm.1 (Ajm.1 wlt i (List.mem_range.2 hi)) d hd;simpa using this
    have:=ih d al (by omega)
    have hs:i<l.size:=by
     apply Classical.byContradiction;intro hn;rw[Aaa,Aan (by omega)] at hb
     cases hb
    rw[Aaa,Aaf.2 ⟨by omega,rfl⟩] at this |-
    exact this⟩
   rw[h] at this;cases this
theorem GP{l:Array Bool}{i:Nat}(h:i<l.size)(d e:Bool):l.getD i d=l.getD i e:=by
 rw[Aaa,Aaa,Aaf.2 ⟨h,rfl⟩];rfl
theorem Mm{l:Array Bool}{i:Nat}(h:i<l.size)(d:Bool):(l.setIfInBounds i true).getD i d=true:=by
 rw[Aaa,Aai,if_pos rfl,if_pos h];rfl
theorem aaT{l:Array Bool}{i n:Nat}(hc:l.toList.countP id=n)(hi:i<l.size)(hb:l.getD i true=false):(l.setIfInBounds i true).toList.countP id=n+1:=by
 rw[Array.toList_setIfInBounds,List.countP_set (by simpa using hi)]
 have e:l.toList[i]'(by simpa using hi)=false:=by
  rw[Aaa,Aaf.2 ⟨hi,rfl⟩] at hb
  simpa using hb
 rw[e,hc];simp
theorem aaS{l:Array Bool}(h:l.toList.countP id=12)(hs:l.size=12):Afj .any dt l=[]:=by
 rw[List.eq_nil_iff_forall_not_mem];intro i hi;obtain⟨h1,h2,-⟩:=IX.1 hi;rw[By] at h1;have:=List.countP_eq_length.1 (h.trans (by simpa using hs.symm:12=l.toList.length)) (l[i]'(by omega)) (by simp)
 rw[Aaa,Aaf.2 ⟨by omega,rfl⟩] at h2
 simp only[id,Afv] at this h2;rw[this] at h2;cases h2
end Go.Jn
namespace Go.Jn
open Go Go.Proofs Go.Sim Go.Conc Go.Tw Go.RowKit
section
variable [Go.Tw.aR]
def FV(gE gt k:Nat)(W:Aa4)(v:Value):Prop:=match k with
 |0=>v=.pointer (some ⟨gE,3,none⟩)
 |1=>v=.slice (some ⟨gt,0,none⟩) 1 1
 |2=>∃b,v=.slice (some ⟨b,0,none⟩) 1 1/\Bk W b 3 #[.int .i64 0]
 |3=>v=.agg #[.int .i64 4,.int .i64 4]
 |4=>∃b,v=.agg #[.slice (some ⟨b,0,none⟩) 1 1,.int .i64 4,.int .i64 4]/\Bk W b 3 #[.int .i64 0]
 |5=>∃b,v=.slice (some ⟨b,0,none⟩) 1 1/\Bk W b 3 #[.int .i64 2]
 |6=>v=.agg #[.int .i64 2,.int .i64 2]
 |7=>∃b,v=.agg #[.slice (some ⟨b,0,none⟩) 1 1,.int .i64 2,.int .i64 2]/\Bk W b 3 #[.int .i64 2]
 |_=>∃d b c,v=.slice (some ⟨d,0,none⟩) 2 2/\Bk W d 95 #[.slice (some ⟨b,0,none⟩) 1 1,.int .i64 4,.int .i64 4,.slice (some ⟨c,0,none⟩) 1 1,.int .i64 2,.int .i64 2]/\Bk W b 3 #[.int .i64 0]/\Bk W c 3 #[.int .i64 2]
theorem FV.below{gE gt k:Nat}{W W':Aa4}{v:Value}(h:FV gE gt k W v)(hb:Ahz W.heap.size W W'):FV gE gt k W' v:=by
 have up:∀ {g t cs},Bk W g t cs->Bk W' g t cs:=fun h=>h.below hb h.lt
 unfold FV at *;split at h<;>first
  |exact h
  | (obtain⟨b,e,h⟩:=h;exact⟨b,e,up h⟩)
  | (obtain⟨d,b,c,e,h1,h2,h3⟩:=h;exact⟨d,b,c,e,up h1,up h2,up h3⟩)
def BK(W:Aa4)(gE gp gb:Nat)(v:Value):Prop:=Bk W gE 26 #[.int .i64 1,.slice (some ⟨gp,0,none⟩) 3 3,.slice (some ⟨gb,0,none⟩) 2 2,v]
def QT(gE gp gb:Nat)(v25:Value)(W:Aa4)(v:Value):Prop:=∃A n c,v=.slice A n c/\BK W gE gp gb (.slice A n c)/\bg W W.heap.size zS (.slice (some ⟨gp,0,none⟩) 3 3) (.slice (some ⟨gb,0,none⟩) 2 2) (.slice A n c)/\Row W W.heap.size 2 Cut.R v25 mr
def Lb(gE gp gb gt:Nat)(v25:Value)(W:Aa4)(v:Value):Prop:=BK W gE gp gb (.slice (some ⟨gt,0,none⟩) 1 1)/\QT gE gp gb v25 (W.setCell ⟨gE,3,none⟩ v) v
structure zr(m:List (Nat×Value))(w:Aa4)(gE gp gb gt:Nat)(v25:Value)(n:Nat)(l:Array Bool)(a:Act)(W:Aa4):Prop where
 sz:l.size=12
 cnt:l.toList.countP id=n
 cl:∀k,l.getD k false=true->∀d∈waits dt k,l.getD d false=true
 sl:Sl m a
 ph:(l.getD 9 false=false/\Ahz w.heap.size w W/\∀k,k<9->l.getD k false=true->∃v,a.tmps[306+k]?=some v/\FV gE gt k W v)\/
  (l.getD 9 false=true/\l.getD 10 false=false/\∃v,a.tmps[315]?=some v/\Lb gE gp gb gt v25 W v)\/
  (l.getD 10 false=true/\l.getD 11 false=false/\∃v,a.tmps[315]?=some v/\a.tmps[316]?=some (.pointer (some ⟨gE,3,none⟩))/\Lb gE gp gb gt v25 W v)\/
  (l.getD 11 false=true/\∃v,QT gE gp gb v25 W v)
theorem PT{m:List (Nat×Value)}{a:Act}(h:Sl m a)(hm:∀p∈m,p.1<306){d:Nat}(hd:306<=d)(v:Value):Sl m (a.put (some d) v):=by
 refine⟨h.1,by simpa [Act.put] using h.2.1,fun p hp=>?_⟩
 have:=h.2.2 p hp;have:=hm p hp;simp only[Act.put];rw[Aai,if_neg (by omega)]
 exact h.2.2 p hp
section
variable {m:List (Nat×Value)}{w:Aa4}{gE gp gb gt:Nat}{v25:Value}{n:Nat}{l:Array Bool}{a:Act}{W:Aa4}
theorem zr.next(h:zr m w gE gp gb gt v25 n l a W){i:Nat}(hi:i∈Afj .any dt l):
 (l.setIfInBounds i true).size=12/\(l.setIfInBounds i true).toList.countP id=n+1/\(∀k,(l.setIfInBounds i true).getD k false=true->∀d∈waits dt k,(l.setIfInBounds i true).getD d false=true):=by
 obtain⟨h1,h2,h3⟩:=IX.1 hi;rw[By] at h1;have hs:=h.sz;refine⟨by simpa using hs,aaT h.cnt (by omega) h2,fun k hk d hd=>?_⟩
 by_cases qu:i=k
 ·subst qu
  exact getD_set_true (h3 d hd)
 ·rw[Aji false qu] at hk
  exact getD_set_true (h.cl k hk d hd)
theorem zr.one(h:zr m w gE gp gb gt v25 n l a W)(hm:∀p∈m,p.1<306)(h9:l.getD 9 false=false)(hb:Ahz w.heap.size w W)(hf:∀k,k<9->l.getD k false=true->∃v,a.tmps[306+k]?=some v/\FV gE gt k W v)
 {i:Nat}(hi:i∈Afj .any dt l)(DC:i<9){v:Value}{W':Aa4}(hW:Ahz W.heap.size W W')(hv:FV gE gt i W' v):
 zr m w gE gp gb gt v25 (n+1) (l.setIfInBounds i true) (a.put (some (306+i)) v) W':=by
 obtain⟨n1,n2,n3⟩:=h.next hi;refine⟨n1,n2,n3,PT h.sl hm (by omega) v,.inl ⟨by rw[Aji false (by omega)];exact h9,hb.trans (hW.mono hb.size),fun k hk hl=>?_⟩⟩
 simp only[Act.put];by_cases qu:i=k
 ·subst qu
  have hs:=h.sl.2.1;exact⟨v,by rw[Aai,if_pos rfl,if_pos (by omega)],hv⟩
 ·rw[Aji false qu] at hl
  obtain⟨u,hu,hfu⟩:=hf k hk hl;exact⟨u,by rw[Aai,if_neg (by omega)];exact hu,hfu.below hW⟩
theorem yZ{o:Aev}{i:Nat}{K:Act->Aa4->Prop}{Q:Exit->Act->Aa4->Prop}(ho:dt[i]?=some o)(hg:o.guard=none)(h:Oper.wp prog o a W K Q):wpOp prog dt Q i K a W:=by
 unfold wpOp;rw[ho];simp only[cf hg,if_true];exact .inl h
theorem ev{k:Nat}{v:Value}(h:a.tmps[k]?=some v):a.eval (.tmp k)=v:=by
 unfold Act.eval;simp[h]
theorem X3{i d:Nat}{o:Aev}{K:Act->Aa4->Prop}{Q:Exit->Act->Aa4->Prop}(ho:dt[i]?=some o)(ab:o.op=.fieldAddr 26 (.tmp 1) 3)(hd:o.dst=some d)(hg:o.guard=none)(h1:a.tmps[1]?=some (.pointer (some ⟨gE,0,none⟩)))(h:K (a.put (some d) (.pointer (some ⟨gE,3,none⟩))) W):wpOp prog dt Q i K a W:=by
 refine yZ ho hg ?_
 have e:=ev h1;obtain⟨d,op,ty,ps,af,gu⟩:=o;simp only at ab hd hg;subst ab hd hg;clear ho;go_simp;exact h
theorem amO{K:Act->Aa4->Prop}{Q:Exit->Act->Aa4->Prop}(h1:a.tmps[306]?=some (.pointer (some ⟨gE,3,none⟩)))(hc: W.cell? ⟨gE,3,none⟩=some (.slice (some ⟨gt,0,none⟩) 1 1))(h:K (a.put (some 307) (.slice (some ⟨gt,0,none⟩) 1 1)) W):wpOp prog dt Q 1 K a W:=by
 obtain⟨o,ho,ab,hd,hg⟩:=abp;refine yZ ho hg ?_
 have e:=ev h1;obtain⟨d,op,ty,ps,af,gu⟩:=o;simp only at ab hd hg;subst ab hd hg;clear ho;go_simp;exact h
theorem X4{i d:Nat}{o:Aev}{z:Int}{K:Act->Aa4->Prop}{Q:Exit->Act->Aa4->Prop}(ho:dt[i]?=some o)(ab:o.op=.buildSlice 33 1 #[(0,.const (.int .i64 z))])(hd:o.dst=some d)(hg:o.guard=none)(h:K (a.put (some d) (.slice (some ⟨W.heap.size,0,none⟩) 1 1)) (W.alloc (.cells #[.int .i64 z] 3))):wpOp prog dt Q i K a W:=by
 refine yZ ho hg ?_
 obtain⟨d,op,ty,ps,af,gu⟩:=o;simp only at ab hd hg;subst ab hd hg;clear ho;go_simp;exact h
theorem X5{i d:Nat}{o:Aev}{z:Int}{K:Act->Aa4->Prop}{Q:Exit->Act->Aa4->Prop}(ho:dt[i]?=some o)(ab:o.op=.call {callee:=.value (.func 50),args:=#[.const (.int .i64 z)],argTypes:=#[3]})(hd:o.dst=some d)(hg:o.guard=none)(h:K (a.put (some d) (.agg #[.int .i64 z,.int .i64 z])) (W.alloc (.cells #[.int .i64 z,.int .i64 z] 37))):wpOp prog dt Q i K a W:=by
 refine yZ ho hg ?_
 obtain⟨d,op,ty,ps,af,gu⟩:=o;simp only at ab hd hg;subst ab hd hg;clear ho;go_simp
 go_at_call 50
 refine(Bc _ _).mono ?_
 rintro e w1 ⟨rfl,rfl⟩;exact h
theorem X6{i d s1 s2:Nat}{o:Aev}{b:Nat}{z:Int}{K:Act->Aa4->Prop}{Q:Exit->Act->Aa4->Prop}(ho:dt[i]?=some o)(ab:o.op=.build 95 #[(0,.tmp s1),(1,.tmp s2)])(hd:o.dst=some d)(hg:o.guard=none)(h1:a.tmps[s1]?=some (.slice (some ⟨b,0,none⟩) 1 1))(h2:a.tmps[s2]?=some (.agg #[.int .i64 z,.int .i64 z]))(h:K (a.put (some d) (.agg #[.slice (some ⟨b,0,none⟩) 1 1,.int .i64 z,.int .i64 z])) W):wpOp prog dt Q i K a W:=by
 refine yZ ho hg ?_
 have e:=ev h1;have e':=ev h2;obtain⟨d,op,ty,ps,af,gu⟩:=o;simp only at ab hd hg;subst ab hd hg;clear ho;go_simp;exact h
theorem amQ{b c:Nat}{K:Act->Aa4->Prop}{Q:Exit->Act->Aa4->Prop}(h1:a.tmps[310]?=some (.agg #[.slice (some ⟨b,0,none⟩) 1 1,.int .i64 4,.int .i64 4]))(h2:a.tmps[313]?=some (.agg #[.slice (some ⟨c,0,none⟩) 1 1,.int .i64 2,.int .i64 2]))
 (h:K (a.put (some 314) (.slice (some ⟨W.heap.size,0,none⟩) 2 2)) (W.alloc (.cells #[.slice (some ⟨b,0,none⟩) 1 1,.int .i64 4,.int .i64 4,.slice (some ⟨c,0,none⟩) 1 1,.int .i64 2,.int .i64 2] 95))):wpOp prog dt Q 8 K a W:=by
 obtain⟨o,ho,ab,hd,hg⟩:=abz;refine yZ ho hg ?_
 have e:=ev h1;have e':=ev h2;obtain⟨d,op,ty,ps,af,gu⟩:=o;simp only at ab hd hg;subst ab hd hg;clear ho;go_simp;exact h
theorem amP{A:Option Aay}{k c:Nat}{u:Value}{K:Act->Aa4->Prop}{Q:Exit->Act->Aa4->Prop}(h1:a.tmps[316]?=some (.pointer (some ⟨gE,3,none⟩)))(h2:a.tmps[315]?=some (.slice A k c))(hc: W.cell? ⟨gE,3,none⟩=some u)(hf: W.frozen? ⟨gE,3,none⟩=false)(h:K a (W.setCell ⟨gE,3,none⟩ (.slice A k c))):wpOp prog dt Q 11 K a W:=by
 obtain⟨o,ho,ab,hd,hg⟩:=abr;refine yZ ho hg ?_
 have e:=ev h1;have e':=ev h2;obtain⟨d,op,ty,ps,af,gu⟩:=o;simp only at ab hd hg;subst ab hd hg;clear ho;go_simp;exact h
theorem amN{w0:Aa4}{gk gl gc g3 b:Nat}{bZ:Option Aay}{n25 b6:Nat}{K:Act->Aa4->Prop}{Q:Exit->Act->Aa4->Prop}(hx:jo w0 w gE gp gb gk gt gl gc g3)(gO:cW w (fun k=>k=gE\/k=gt) 2 Cut.R (.slice bZ n25 b6) mr)
 (hb:Ahz w.heap.size w W){g1 g2:Nat}(h1:a.tmps[307]?=some (.slice (some ⟨gt,0,none⟩) 1 1))(h2:a.tmps[314]?=some (.slice (some ⟨b,0,none⟩) 2 2))
 (hn:Bk W b 95 #[.slice (some ⟨g1,0,none⟩) 1 1,.int .i64 4,.int .i64 4,.slice (some ⟨g2,0,none⟩) 1 1,.int .i64 2,.int .i64 2])(b1:Bk W g1 3 #[.int .i64 0])(b2:Bk W g2 3 #[.int .i64 2])
 (h:∀v w',Lb gE gp gb gt (.slice bZ n25 b6) w' v->K (a.put (some 315) v) w'):wpOp prog dt Q 9 K a W:=by
 obtain⟨o,ho,ab,hd,hg⟩:=abA;obtain⟨i0,cR,cT,aN,ba⟩:=info_parts Oq;have ape:w.ownsRow w0.heap.size 95 3 (.slice (some ⟨gt,0,none⟩) 1 1) 1 [.slice (some ⟨gl,0,none⟩) 2 2,.int .i64 7,.int .i64 7]:=
  ⟨rfl,.inr ⟨gt,1,_,rfl,hx.ex.ht,hx.ex.t,Ac2 _,by unfold Af0;omega,rfl,rfl⟩⟩
 have ajs:W.ownsRow w0.heap.size 95 3 (.slice (some ⟨gt,0,none⟩) 1 1) 1 [.slice (some ⟨gl,0,none⟩) 2 2,.int .i64 7,.int .i64 7]:=
  ⟨rfl,.inr ⟨gt,1,_,rfl,hx.ex.ht,hx.ex.t.below hb hx.ex.t.lt,Ac2 _,by unfold Af0;omega,rfl,rfl⟩⟩
 have lw:w0.heap.size<=W.heap.size:=Nat.le_trans hx.below.size hb.size;refine wpOp_step ho fun K' hK=>?_
 refine ug (Q:=Q) hg (.tmp 307) (.tmp 314) 24 ab w0.heap.size 95 i0 (.agg #[.slice none 0 0,.int .i64 0,.int .i64 0]) 3 40 (U Tryz.underlying24) cR cT aN ba rfl (by decide) (.slice (some ⟨gt,0,none⟩) 1 1) 1 _ (ev h1) ajs ⟨b,0,none⟩ 2 2
  [.slice (some ⟨g1,0,none⟩) 1 1,.int .i64 4,.int .i64 4,.slice (some ⟨g2,0,none⟩) 1 1,.int .i64 2,.int .i64 2] (ev h2) rfl (fun j u hu=>by
    rw[nu];have:=hn.cell j;exact(by simpa using this.trans (by simpa using hu))) (by simp[Value.oneCell']) (by simp only[Af0];omega) (by omega) lw ?_
 intro v' w6 aG dS;rw[hd];refine hK _ _ (h _ _ ?_)
 obtain⟨hE,uY,hB,hR⟩:=amd hx hb b1 b2 aG dS;obtain⟨A',n',c',rfl⟩:=pw aG;exact⟨hE,A',n',c',rfl,uY,hB,(hR gO).row⟩
end
set_option maxRecDepth 4000 in
theorem akJ{gE gp gb gk gt gl gc g3:Nat}{bZ:Option Aay}{n25 b6:Nat}{a:Act}{w0 w:Aa4}(hs:Sl [(1,.pointer (some ⟨gE,0,none⟩)),(5,.int .i64 0),(7,.int .i64 0),(25,.slice bZ n25 b6),(26,.int .i64 1)] a)
 (hx:jo w0 w gE gp gb gk gt gl gc g3)(gO:cW w (fun k=>k=gE\/k=gt) 2 Cut.R (.slice bZ n25 b6) mr):
 sw.wp prog (dP fun a W=>∃A n c,Sl [(1,.pointer (some ⟨gE,0,none⟩)),(5,.int .i64 0),(7,.int .i64 0),(25,.slice bZ n25 b6),(26,.int .i64 1)] a/\
  Bk W gE 26 #[.int .i64 1,.slice (some ⟨gp,0,none⟩) 3 3,.slice (some ⟨gb,0,none⟩) 2 2,.slice A n c]/\bg W W.heap.size zS (.slice (some ⟨gp,0,none⟩) 3 3) (.slice (some ⟨gb,0,none⟩) 2 2) (.slice A n c)/\Row W W.heap.size 2 Cut.R (.slice bZ n25 b6) mr) a w:=by
 rw[al7];refine wp_region_any (by kernel_rfl) ?_
 have hm:∀p∈([(1,.pointer (some ⟨gE,0,none⟩)),(5,.int .i64 0),(7,.int .i64 0),(25,.slice bZ n25 b6),(26,.int .i64 1)]:List (Nat×Value)),p.1<306:=by simp
 refine anb (zr [(1,.pointer (some ⟨gE,0,none⟩)),(5,.int .i64 0),(7,.int .i64 0),(25,.slice bZ n25 b6),(26,.int .i64 1)] w gE gp gb gt (.slice bZ n25 b6)) ?step ?fin (fun l a w h=>aaS (by rw[h.cnt,By]) h.sz) dt.size 0 _ a _ (by omega) ?start
 case start=>
  rw[By];exact⟨by simp,by simp,fun k hk=>by simp[Aje] at hk;split at hk<;>simp at hk,hs,.inl ⟨by simp,iY (Ai4 _ _),fun k _ hk=>by simp[Aje] at hk;split at hk<;>simp at hk⟩⟩
 case fin=>
  intro n l a W h hr;have uX:=GP (l:=l) (i:=11) (by rw[h.sz];omega) true false
  have oY:=GP (l:=l) (i:=10) (by rw[h.sz];omega) true false
  have h9:=GP (l:=l) (i:=9) (by rw[h.sz];omega) true false
  rw[Lm hr 11 (by omega)] at uX
  rw[Lm hr 10 (by omega)] at oY
  rw[Lm hr 9 (by omega)] at h9
  rcases h.ph with h'|h'|h'| ⟨-,v,A,n,c,rfl,h1,h2,h3⟩
  ·rw[<-h9] at h';cases h'.1
  ·rw[<-oY] at h';cases h'.2.1
  ·rw[<-uX] at h';cases h'.2.1
  ·exact⟨A,n,c,h.sl,h1,h2,h3⟩
 case step=>
  intro n l a W i K h hi hK;obtain⟨Dz,vm,fZ⟩:=IX.1 hi;rw[By] at Dz;have e1:a.tmps[1]?=some (.pointer (some ⟨gE,0,none⟩)):=h.sl.get (by simp)
  have Nz:=h.sz;have il:=h.sl.2.1;have eK:l.getD i false=false:=(GP (by omega) _ _).trans vm
  rcases h.ph with⟨h9,hb,hf⟩ | ⟨h9,oY,v,hv,hM⟩ | ⟨oY,uX,v,hv,hp,hM⟩ | ⟨uX,v,hF⟩
  ·have one:=fun {v:Value} {W':Aa4} (DC:i<9) (hW:Ahz W.heap.size W W') (hv:FV gE gt i W' v)=>hK _ _ (h.one hm h9 hb hf hi DC hW hv)
   match i,Dz with
   |0,_=>obtain⟨o,ho,ab,hd,hg⟩:=abo;exact X3 ho ab hd hg e1 (one (by omega) (Ai4 _ _) rfl)
   |1,_=>
    obtain⟨v,hv,Ea⟩:=hf 0 (by omega) (fZ 0 (by rw[Yg];simp))
    exact amO (hv.trans (congrArg some Ea)) ((hx.bE.below hb hx.bE.lt).cell 3) (one (by omega) (Ai4 _ _) rfl)
   |2,_=>obtain⟨o,ho,ab,hd,hg⟩:=abt;exact X4 ho ab hd hg (one (by omega) ((Ai4 _ _).alloc (Ac2 _) _) ⟨_,rfl,Bk.new _ _ _⟩)
   |3,_=>obtain⟨o,ho,ab,hd,hg⟩:=abu;exact X5 ho ab hd hg (one (by omega) ((Ai4 _ _).alloc (Ac2 _) _) rfl)
   |4,_=>
    obtain⟨v,hv,b,rfl,h1⟩:=hf 2 (by omega) (fZ 2 (by rw[Jp];simp))
    obtain⟨u,hu,rfl⟩:=hf 3 (by omega) (fZ 3 (by rw[Jp];simp))
    obtain⟨o,ho,ab,hd,hg⟩:=abv;exact X6 ho ab hd hg hv hu (one (by omega) (Ai4 _ _) ⟨b,rfl,h1⟩)
   |5,_=>obtain⟨o,ho,ab,hd,hg⟩:=abw;exact X4 ho ab hd hg (one (by omega) ((Ai4 _ _).alloc (Ac2 _) _) ⟨_,rfl,Bk.new _ _ _⟩)
   |6,_=>obtain⟨o,ho,ab,hd,hg⟩:=abx;exact X5 ho ab hd hg (one (by omega) ((Ai4 _ _).alloc (Ac2 _) _) rfl)
   |7,_=>
    obtain⟨v,hv,b,rfl,h1⟩:=hf 5 (by omega) (fZ 5 (by rw[Qu];simp))
    obtain⟨u,hu,rfl⟩:=hf 6 (by omega) (fZ 6 (by rw[Qu];simp))
    obtain⟨o,ho,ab,hd,hg⟩:=aby;exact X6 ho ab hd hg hv hu (one (by omega) (Ai4 _ _) ⟨b,rfl,h1⟩)
   |8,_=>
    obtain⟨v,hv,b,rfl,h1⟩:=hf 4 (by omega) (fZ 4 (by rw[Qv];simp))
    obtain⟨u,hu,c,rfl,h2⟩:=hf 7 (by omega) (fZ 7 (by rw[Qv];simp))
    have hB:Ahz W.heap.size W (W.alloc (.cells #[.slice (some ⟨b,0,none⟩) 1 1,.int .i64 4,.int .i64 4,.slice (some ⟨c,0,none⟩) 1 1,.int .i64 2,.int .i64 2] 95)):=(Ai4 _ _).alloc (Ac2 _) _;exact amQ hv hu (one (by omega) hB ⟨_,b,c,rfl,Bk.new _ _ _,h1.below hB h1.lt,h2.below hB h2.lt⟩)
   |9,_=>
    obtain⟨v,hv,rfl⟩:=hf 1 (by omega) (fZ 1 (by rw[Qw];simp))
    obtain⟨u,hu,d,b,c,rfl,h0,h1,h2⟩:=hf 8 (by omega) (fZ 8 (by rw[Qw];simp))
    obtain⟨n1,n2,n3⟩:=h.next hi;refine amN hx gO hb hv hu h0 h1 h2 fun v w' hM=>hK _ _ ⟨n1,n2,n3,PT h.sl hm (by omega) v,.inr (.inl ⟨Mm (by omega) _,?_,v,?_,hM⟩)⟩
    ·rw[Aji false (by omega)]
     cases oY:l.getD 10 false with
     |false=>rfl
     |true=>rw[h.cl 10 oY 9 (by rw[FP];simp)] at h9;cases h9
    ·simp only[Act.put]
     rw[Aai,if_pos rfl,if_pos (by omega)]
   |10,_=>rw[fZ 9 (by rw[FP];simp)] at h9;cases h9
   |11,_=>rw[h.cl 10 (fZ 10 Jo) 9 (by rw[FP];simp)] at h9;cases h9
  ·have c8:=h.cl 9 h9
   rw[Qw] at c8;have f8:=c8 8 (by simp)
   have f1:=c8 1 (by simp)
   have f6:=c8 6 (by simp)
   have c4:=h.cl 8 f8;rw[Qv] at c4;have f4:=c4 4 (by simp)
   have f7:=c4 7 (by simp)
   have f0:=h.cl 1 f1 0 (by rw[Yg];simp)
   have f2:=h.cl 4 f4 2 (by rw[Jp];simp)
   have f3:=h.cl 4 f4 3 (by rw[Jp];simp)
   have f5:=h.cl 7 f7 5 (by rw[Qu];simp)
   match i,Dz with
   |0,_=>rw[f0] at eK;cases eK
   |1,_=>rw[f1] at eK;cases eK
   |2,_=>rw[f2] at eK;cases eK
   |3,_=>rw[f3] at eK;cases eK
   |4,_=>rw[f4] at eK;cases eK
   |5,_=>rw[f5] at eK;cases eK
   |6,_=>rw[f6] at eK;cases eK
   |7,_=>rw[f7] at eK;cases eK
   |8,_=>rw[f8] at eK;cases eK
   |9,_=>rw[h9] at eK;cases eK
   |10,_=>
    obtain⟨n1,n2,n3⟩:=h.next hi;obtain⟨o,ho,ab,hd,hg⟩:=abq;refine X3 ho ab hd hg e1 (hK _ _ ⟨n1,n2,n3,PT h.sl hm (by omega) _,.inr (.inr (.inl ⟨Mm (by omega) _,?_,v,?_,?_,hM⟩))⟩)
    ·rw[Aji false (by omega)]
     cases uX:l.getD 11 false with
     |false=>rfl
     |true=>rw[h.cl 11 uX 10 Jo] at oY;cases oY
    ·simp only[Act.put]
     rw[Aai,if_neg (by omega)];exact hv
    ·simp only[Act.put]
     rw[Aai,if_pos rfl,if_pos (by omega)]
   |11,_=>rw[fZ 10 Jo] at oY;cases oY
  ·have c10:=h.cl 10 oY
   rw[FP] at c10;have adq:i=11:=by
    apply Classical.byContradiction;intro aw;rcases Nat.lt_or_ge i 10 with h'|h'
    ·have:=c10 i (by simp;omega)
     rw[this] at eK;cases eK
    ·have:i=10:=by omega
     subst this;rw[oY] at eK;cases eK
   subst adq;obtain⟨n1,n2,n3⟩:=h.next hi;obtain⟨hE,A,k,c,rfl,hF⟩:=hM;have uY:Bk W gE 26 _:=hE;exact amP hp hv (uY.cell 3) (uY.frozen 3) (hK _ _ ⟨n1,n2,n3,h.sl,.inr (.inr (.inr ⟨Mm (by omega) _,_,A,k,c,rfl,hF⟩))⟩)
  ·have wY:=h.cl 11 uX 10 Jo
   have c10:=h.cl 10 wY;rw[FP] at c10;exfalso;rcases Nat.lt_or_ge i 10 with h'|h'
   ·have:=c10 i (by simp;omega)
    rw[this] at eK;cases eK
   ·have:i=10\/i=11:=by omega
    rcases this with rfl|rfl
    ·rw[wY] at eK;cases eK
    ·rw[uX] at eK;cases eK
end
end Go.Jn
namespace Go.Jn
open Go Go.Proofs Go.Sim Go.Conc Go.Tw Go.RowKit
section
variable [Go.Tw.aR]
set_option maxRecDepth 400000 in
theorem ak4(w:Aa4)(x:Nat->Value):eX prog [ui,uj,uk] (dP (FA w)) ⟨(lit x).toArray,[cQ]⟩ w:=by
 unfold lit;unfold eX eX eX eX;simp only[ui,uj,uk,gT,gS,gR,hJ,Tryz.f21,bO,a8,Afv];go_wp2_with (first
  | (go_at_call 94;refine(acn _).mono ?_;rintro e w1 ⟨gp,gb,gk,gt,gl,rfl,hex,ae⟩
     have HX:=Af3 (Afx hex ae);clear hex ae)
  | (go_at_call 95;refine(abb _).mono ?_;rintro e w2 ⟨gc,rfl,xP,ef,ak⟩
     have Rf:=Af3 (Afx xP (Afx ef ak));clear xP ef ak))
 have vc:Bk (w2.alloc (.cells #[.int .i64 1,.slice (some ⟨gp,0,none⟩) 3 3,.slice (some ⟨gb,0,none⟩) 2 2,.slice (some ⟨gt,0,none⟩) 1 1] 26)) gc 56 #[.int .i64 1,.int .i64 0,.int .i64 0,.int .i64 0,.int .i64 0,.int .i64 4]:=Rf.out.2.1.alloc _;have Mx:Bk (w2.alloc (.cells #[.int .i64 1,.slice (some ⟨gp,0,none⟩) 3 3,.slice (some ⟨gb,0,none⟩) 2 2,.slice (some ⟨gt,0,none⟩) 1 1] 26)) w2.heap.size 26 #[.int .i64 1,.slice (some ⟨gp,0,none⟩) 3 3,.slice (some ⟨gb,0,none⟩) 2 2,.slice (some ⟨gt,0,none⟩) 1 1]:=Bk.new _ _ _;have xF:Ahz w2.heap.size w2 (w2.alloc (.cells #[.int .i64 1,.slice (some ⟨gp,0,none⟩) 3 3,.slice (some ⟨gb,0,none⟩) 2 2,.slice (some ⟨gt,0,none⟩) 1 1] 26)):=(Ai4 _ _).alloc (Ac2 _) _;generalize (w2.alloc (.cells #[.int .i64 1,.slice (some ⟨gp,0,none⟩) 3 3,.slice (some ⟨gb,0,none⟩) 2 2,.slice (some ⟨gt,0,none⟩) 1 1] 26))=V at vc Mx xF |-
 have c0: V.cell? ⟨gc,0,none⟩=some (.int .i64 1):=vc.cell 0;have c1: V.cell? ⟨gc,1,none⟩=some (.int .i64 0):=vc.cell 1;have c2: V.cell? ⟨gc,2,none⟩=some (.int .i64 0):=vc.cell 2;have c3: V.cell? ⟨gc,3,none⟩=some (.int .i64 0):=vc.cell 3;have lc:gc<V.heap.size:=vc.lt;have lc':gc<=V.heap.size:=by omega
 have HV:=Af3 (Afx vc (Afx Mx xF));clear vc Mx xF;go_region_with (go_at_call 66;refine(di _ _ _).mono ?_;rintro e w3 ⟨rfl,rfl⟩)
 all_goals
  show FA w _ _;refine⟨rfl,rfl,rfl,_,gp,gb,gk,gt,gl,gc,_,rfl,rfl,rfl,?_⟩
  have eC:=Rf.out.2.2;have aN:=HX.out.2.size;have ba:=eC.size;have h0:wL V w.heap.size gp gb gk gt gl:=⟨(HX.out.1.p.below eC HX.out.1.p.lt).below HV.out.2.2 (HX.out.1.p.below eC HX.out.1.p.lt).lt,(HX.out.1.b.below eC HX.out.1.b.lt).below HV.out.2.2 (HX.out.1.b.below eC HX.out.1.b.lt).lt,(HX.out.1.k.below eC HX.out.1.k.lt).below HV.out.2.2 (HX.out.1.k.below eC HX.out.1.k.lt).lt,(HX.out.1.t.below eC HX.out.1.t.lt).below HV.out.2.2 (HX.out.1.t.below eC HX.out.1.t.lt).lt,(HX.out.1.l.below eC HX.out.1.l.lt).below HV.out.2.2 (HX.out.1.l.below eC HX.out.1.l.lt).lt,HX.out.1.hp,HX.out.1.hb,HX.out.1.hk,HX.out.1.ht,HX.out.1.hl⟩;have cF:Ahz w.heap.size w V:=(HX.out.2.trans (eC.mono aN)).trans (HV.out.2.2.mono (by omega))
  exact acs h0 HV.out.2.1 HV.out.1 cF (by omega)
end
end Go.Jn
namespace Go.Tw
variable [Go.Tw.aR]
open Go Go.Proofs Go.RowKit
def wW(b:ao)(m:Nat)(cur:List Int):Bool:=
 let l:=(dJ m b.aJ.length).map Ajl
 (decide (l.length<cur.length) || (decide (l.length=cur.length) && decide (pY l cur<0))) && decide ((aD (mM b m)).length=0)
def ju(b:ao):Nat->List Int
 |0=>(dJ (2 ^ b.aJ.length - 1) b.aJ.length).map Ajl
 |m+1=>if wW b m (ju b m) then(dJ m b.aJ.length).map Ajl else ju b m
def zM(b:ao):List Int:=if(aD b).length=0 then ju b (2 ^ b.aJ.length) else []
theorem yK{b:ao}{m:Nat}(h:Valid b):Valid (mM b m):=by
 have mB:∀t∈(mM b m).aJ,t∈b.aJ:=fun t ht=>by
  have:t∈fL b.aJ m b.aJ.length:=ht;unfold fL at this;obtain⟨k,_,hk⟩:=List.mem_filterMap.1 this;exact List.mem_of_getElem? hk
 refine⟨h.ag,h.np,h.piece,h.nb,h.bp,?_,fun t ht=>h.tape t (mB t ht)⟩
 have:(mM b m).aJ.length=(dJ m b.aJ.length).length:=Pc b.aJ m _ (Ac2 _);rw[this];exact Nat.le_trans (Ek _ _) h.nt
theorem agu{K:Act->Aa4->Prop}{a:Act}{w:Aa4}(F:Aa4->Prop)(h:∀W,F W->K a W)(hw:F w):K a w:=h w hw
theorem Ss{b:ao}{m:Nat}(h:wW b m (ju b m)=true):ju b (m+1)=(dJ m b.aJ.length).map Ajl:=by
 show(if wW b m (ju b m) then(dJ m b.aJ.length).map Ajl else ju b m)=_
 rw[if_pos h]
theorem GA{b:ao}{m:Nat}(h:wW b m (ju b m)=false):ju b (m+1)=ju b m:=by
 show(if wW b m (ju b m) then(dJ m b.aJ.length).map Ajl else ju b m)=_
 rw[h];rfl
theorem Sr(b:ao):∀m,(ju b m).length<=b.aJ.length
 |0=>by simp[ju];exact Ek _ _
 |m+1=>by
  unfold ju;split
  ·simp;exact Ek _ _
  ·exact Sr b m
theorem aaq{w:Aa4}{b:ao}{pv bv tv:Value}{B:Nat}(hB:B<=w.heap.size)(ai:bg w B b pv bv tv)(h0:dF b=0):
 Af1 prog 56 #[.agg #[.int .i64 b.ag,pv,bv,tv]] w fun e w'=>∃v,e=.returned (.tuple #[v,.int .i64 0])/\Row w' w'.heap.size 1 cH v (zM b)/\Below w.heap.size w w':=by
 have st:Still B w (w.alloc (.cells #[.int .i64 b.ag,pv,bv,tv] 26)):=(Still.refl w).alloc hB _;have aB:=Af3 (ry (ai.still st) (by simp<;>omega) h0)
 have bT:=Af3 ai;have hv:=iy h0;have HV:=Af3 hv;have adV:=Ct hv;have xZ:=hv.nt;obtain⟨A1,n1,c1,rfl,-⟩:=ai.pieces.open_;obtain⟨A2,n2,c2,rfl,-⟩:=ai.aF.open_;obtain⟨A3,n3,c3,rfl,e3,h3,rD,-⟩:=ai.aJ.open_;rw[e3] at xZ;have E3:=Af3 e3;unfold Af0 at rD;obtain⟨na,vr⟩:∃n,n=(aD b).length:=⟨_,rfl⟩
 rw[<-vr] at adV;by_cases rP:0<na
 ·have B9:=Af3 vr
  have fY:zM b=[]:=by unfold zM;rw[if_neg (by have:=B9.out;omega)]
  have uy:=Af3 fY;clear vr fY;go_enter func56,Tryz.ntmps56;go_wp2_with (first
   | (go_at_call 68;refine aB.out.mono ?_;rintro e w1 ⟨rfl,ae⟩
      have kb:Bk w1 w.heap.size 26 #[.int .i64 b.ag,.slice A1 n1 c1,.slice A2 n2 c2,.slice A3 n3 c3]:=(Bk.new w _ _).below ae (by simp)
      have k0:=kb.cell 0;have k1:=kb.cell 1;have k2:=kb.cell 2;have k3:=kb.cell 3;have aY:Hid (Below w.heap.size w w1):=Af3 ((((Af6 _ _).alloc (Ac2 _) _)).trans (ae.mono (by simp)))
      have KB:=Af3 kb;have aN:w.heap.size<w1.heap.size:=kb.lt;have Kg:Hid (∀w',Below w1.heap.size w1 w'->Af1 prog 96 #[.agg #[.int .i64 b.ag,.slice A1 n1 c1,.slice A2 n2 c2,.slice A3 n3 c3]] w' fun e bq=>∃v,e=.returned v/\eZ bq w'.heap.size v (aD b)/\Below w'.heap.size w' bq):=Af3 fun w' hw=>by
       have st:Still B w w':=Still.aK (aY.out.trans (hw.mono (by omega))) hB
       exact all (by have:=hw.size;omega) (bT.out.still st) HV.out
      clear kb ae)
   | (go_at_call 96
      refine(Kg.out _ ((Af6 _ _).alloc (Ac2 _) _)).mono ?_
      rintro e w2 ⟨sv,rfl,aG,ak⟩;obtain⟨A9,n9,c9,rfl,cY,nG,eS,iN⟩:=aG.row.open_;have e9:n9=na:=by rw[<-cY];exact B9.out.symm
      subst e9;have dV:=Af3 ak;clear ak aG cY iN))
  go_ret2
  exact⟨_,rfl,by rw[uy.out];exact Row.nil,aY.out.trans ((((Af6 _ _).alloc (Ac2 _) _).trans (dV.out.mono (by simp))).mono (by omega))⟩
 obtain rfl:na=0:=by omega
 have B9:=Af3 vr;clear ai st hv h0 vr e3;obtain⟨mp,rO⟩:∃mp,2 ^ n3=mp+1:=⟨2 ^ n3 - 1,by have:0<2 ^ n3:=Nat.two_pow_pos n3;omega⟩
 have hp:((2:Int) ^ n3)=(mp:Int)+1:=by
  have h1:((2:Int) ^ n3)=((2 ^ n3:Nat):Int):=by simp
  rw[h1,rO];simp
 have ae9:mp<16:=by
  have:2 ^ n3<=2 ^ 4:=Nat.pow_le_pow_right (by omega) xZ
  omega
 have yo:Ack.wrap ((mp:Int)+1)=(mp:Int)+1:=by rw[IntWalk.i64_left];exact IntWalk.wrap64_in _ (by omega)
 have eC:Ack.wrap (mp:Int)=(mp:Int):=by rw[IntWalk.i64_left];exact IntWalk.wrap64_in _ (by omega)
 have hw3:Ack.wrap ((mp:Int)+1 - 1)=(mp:Int):=by rw[Int.add_sub_cancel];exact eC
 have Q7:=Af3 rO;clear rO;go_enter func56,Tryz.ntmps56;go_wp2_with (first
  | (go_at_call 68;refine aB.out.mono ?_;rintro e w1 ⟨rfl,ae⟩
     have kb:Bk w1 w.heap.size 26 #[.int .i64 b.ag,.slice A1 n1 c1,.slice A2 n2 c2,.slice A3 n3 c3]:=(Bk.new w _ _).below ae (by simp)
     have k0:=kb.cell 0;have k1:=kb.cell 1;have k2:=kb.cell 2;have k3:=kb.cell 3;have aY:Hid (Below w.heap.size w w1):=Af3 ((((Af6 _ _).alloc (Ac2 _) _)).trans (ae.mono (by simp)))
     have KB:=Af3 kb;have aN:w.heap.size<w1.heap.size:=kb.lt;have Kg:Hid (∀w',Below w1.heap.size w1 w'->Af1 prog 96 #[.agg #[.int .i64 b.ag,.slice A1 n1 c1,.slice A2 n2 c2,.slice A3 n3 c3]] w' fun e bq=>∃v,e=.returned v/\eZ bq w'.heap.size v (aD b)/\Below w'.heap.size w' bq):=Af3 fun w' hw=>by
      have st:Still B w w':=Still.aK (aY.out.trans (hw.mono (by omega))) hB
      exact all (by have:=hw.size;omega) (bT.out.still st) HV.out
     clear kb ae)
  | (go_at_call 96
     refine(Kg.out _ ((Af6 _ _).alloc (Ac2 _) _)).mono ?_
     rintro e w2 ⟨sv,rfl,aG,ak⟩;obtain⟨A9,n9,c9,rfl,cY,nG,eS,iN⟩:=aG.row.open_;have e9:n9=0:=by rw[<-cY,<-B9.out]
     subst e9;have dV:=Af3 ak;have mH:Bk w2 w.heap.size 26 #[.int .i64 b.ag,.slice A1 n1 c1,.slice A2 n2 c2,.slice A3 n3 c3]:=(KB.out.alloc _).below ak (by simp<;>omega)
     have rY:Bk w2 w1.heap.size 117 #[.int .i64 b.ag,.slice A1 n1 c1,.slice A2 n2 c2,.slice A3 n3 c3]:=(Bk.new _ _ _).below ak (by simp)
     have q3: w2.cell? ⟨w.heap.size,3,none⟩=some (.slice A3 n3 c3):=mH.cell 3;have k0:=rY.cell 0;have k1:=rY.cell 1;have k2:=rY.cell 2;have k3:=rY.cell 3;have wS:=Af3 (Afx mH rY);clear ak aG cY iN mH rY))
 have KS:∀w',Hid (Below w2.heap.size w2 w')-> w'.cell? ⟨w.heap.size,3,none⟩=some (.slice A3 n3 c3)/\ w'.cell? ⟨w1.heap.size,0,none⟩=some (.int .i64 b.ag)/\ w'.cell? ⟨w1.heap.size,1,none⟩=some (.slice A1 n1 c1)/\ w'.cell? ⟨w1.heap.size,2,none⟩=some (.slice A2 n2 c2)/\ w'.cell? ⟨w1.heap.size,3,none⟩=some (.slice A3 n3 c3)/\Hid (Below w2.heap.size w2 w'):=fun w' h=>
  ⟨(h.out.cell wS.out.1.lt).trans q3,(h.out.cell wS.out.2.lt).trans k0,(h.out.cell wS.out.2.lt).trans k1,(h.out.cell wS.out.2.lt).trans k2,(h.out.cell wS.out.2.lt).trans k3,h⟩
 have HD:Hid (Below w2.heap.size w2 w2.drew):=Af3 (iY (Af6 _ _));have QG:Hid (∀(m:Nat) (w':Aa4),m<16->Below w2.heap.size w2 w'->Af1 prog 138 #[.agg #[.int .i64 b.ag,.slice A1 n1 c1,.slice A2 n2 c2,.slice A3 n3 c3],.int .i64 m] w' fun e bq=>∃fD iv,e=.returned (.tuple #[.agg #[.int .i64 b.ag,.slice A1 n1 c1,.slice A2 n2 c2,fD],iv])/\bg bq bq.heap.size (mM b m) (.slice A1 n1 c1) (.slice A2 n2 c2) fD/\
  cW bq (fun k=>k<w'.heap.size) 1 cH iv ((dJ m b.aJ.length).map Ajl)/\Below w'.heap.size w' bq):=Af3 fun m w' hm hw=>by
  have st:Still B w w':=Still.aK ((aY.out.trans ((((Af6 _ _).alloc (Ac2 _) _).trans (dV.out.mono (by simp))).mono (by omega))).trans (hw.mono (by have:=wS.out.1.lt;omega))) hB
  exact only (by have:=hw.size;have:=dV.out.size;have:=aY.out.size;simp at *;omega) (bT.out.still st) HV.out.nt hm
 clear q3 k0 k1 k2 k3;go_region_held3 (fun w'=> w'.cell? ⟨w.heap.size,3,none⟩=some (.slice A3 n3 c3)/\ w'.cell? ⟨w1.heap.size,0,none⟩=some (.int .i64 b.ag)/\ w'.cell? ⟨w1.heap.size,1,none⟩=some (.slice A1 n1 c1)/\ w'.cell? ⟨w1.heap.size,2,none⟩=some (.slice A2 n2 c2)/\ w'.cell? ⟨w1.heap.size,3,none⟩=some (.slice A3 n3 c3)/\Hid (Below w2.heap.size w2 w'))
  (first
    |exact KS _ HD|exact KS _ (Af3 (HD.out.alloc (Ac2 _) _)) |exact KS _ nY|exact KS _ (Af3 (nY.out.alloc (nY.out.size) _))
    |exact KS _ (Af3 ((((nY.out.setCell (Ac2 _) _).setCell (Ac2 _) _).setCell (Ac2 _) _).setCell (Ac2 _) _))
    |exact KS _ (Af3 (((((nY.out.alloc (nY.out.size) _).setCell nY.out.size _).setCell nY.out.size _).setCell nY.out.size _).setCell nY.out.size _)))
  (first
    | (go_at_call 138
       refine(QG.out mp _ ae9 ?hx).mono ?_
       case hx=>first|exact HD.out|exact HD.out.alloc (Ac2 _) _
       rintro e w3 ⟨t6v,i7v,rfl,bD,AG,Hd⟩;have nY:Hid (Below w2.heap.size w2 w3):=Af3 (by first|exact HD.out.trans Hd|exact(HD.out.alloc (Ac2 _) _).trans (Hd.mono (by simp)))
       obtain⟨iW,n31,iZ,rfl,-⟩:=bD.aJ.open_;obtain⟨QD,n32,Sg,rfl,-⟩:=id AG.row.open_
       try(
        have rU:Bk w3 w2.heap.size 117 #[.int .i64 0,.slice none 0 0,.slice none 0 0,.slice none 0 0]:=(Bk.new w2.drew _ _).below Hd (by simp)
        have z0: w3.cell? ⟨w2.heap.size,0,none⟩=some (.int .i64 0):=rU.cell 0;have z1: w3.cell? ⟨w2.heap.size,1,none⟩=some (.slice none 0 0):=rU.cell 1;have z2: w3.cell? ⟨w2.heap.size,2,none⟩=some (.slice none 0 0):=rU.cell 2;have z3: w3.cell? ⟨w2.heap.size,3,none⟩=some (.slice none 0 0):=rU.cell 3;have y0:=rU.frozen 0;have y1:=rU.frozen 1;have y2:=rU.frozen 2;have y3:=rU.frozen 3;have YV:Hid (cW w3 (fun k=>k=w2.heap.size) 1 cH (.slice QD n32 Sg) ((dJ mp b.aJ.length).map Ajl)):=Af3 (AG.weaken (fun k hk=>by subst hk;simp))
        have y9:w2.heap.size<w3.heap.size:=rU.lt;clear rU)
       have YT:=Af3 AG.row;clear bD AG Hd))
 all_goals
  have ic:ju b 0=(dJ mp b.aJ.length).map Ajl:=by
   show(dJ (2 ^ b.aJ.length - 1) b.aJ.length).map Ajl=_;rw[E3.out,Q7.out,Nat.add_sub_cancel]
  have Kt:=Af3 ic;clear ic;simp only[Exit.then];refine agu (fun W=>Hid (Below w2.heap.size w2 W)/\Hid (Row W W.heap.size 1 cH (.slice QD n32 Sg) (ju b 0))) ?_ ?_
  rotate_left 1
  ·rw[Kt.out]
   first
    |exact⟨Af3 (nY.out.alloc nY.out.size _),Af3 ((YT.out.still (Still.aK ((Af6 w3.heap.size w3).alloc (Ac2 _) _) (Ac2 _)) fun _ _ h=>h).more (by simp))⟩
    |exact⟨Af3 ((((nY.out.setCell (Ac2 _) _).setCell (Ac2 _) _).setCell (Ac2 _) _).setCell (Ac2 _) _),
       Af3 ((((YV.out.grown (uV _ _ _) (fun k e=>by injection e with e;exact e.symm)).grown (uV _ _ _) (fun k e=>by injection e with e;exact e.symm)).grown (uV _ _ _) (fun k e=>by injection e with e;exact e.symm)).grown (uV _ _ _) (fun k e=>by injection e with e;exact e.symm)).row⟩
  rintro W ⟨HW,HR⟩;have⟨s3,s0,s1,s2,s4,_⟩:=KS W HW;go_wp2;go_loopw [7,36] (fun v7 u wr=>∃m:Nat,m<=mp+1/\u=.int .i64 m/\Hid (Below w2.heap.size w2 wr)/\Hid (Row wr wr.heap.size 1 cH v7 (ju b m))) (fun _ u _=>mp+1 - (Ag7 u).toNat)
  case atStart=>exact⟨0,Nat.zero_le _,rfl,HW,HR⟩
  case round=>
   clear s3 s0 s1 s2 s4;obtain⟨m,hm,rfl,iX,oa⟩:=hrel;obtain⟨wq,rfl⟩:∃wq:Aa4,wq=wr:=⟨_,rfl⟩
   have⟨s3,s0,s1,s2,s4,_⟩:=KS wq iX;obtain⟨A7,n7,c7,rfl,e7,h7,h7',-⟩:=oa.out.open_;unfold Af0 at h7';by_cases al:m<mp+1
   ·have wG:=Af3 (QG.out m wq (by omega) iX.out)
    obtain⟨L,hL⟩:∃L,L=(dJ m b.aJ.length).map Ajl:=⟨_,rfl⟩
    rw[<-hL] at wG;obtain⟨cur,tB⟩:∃l,l=ju b m:=⟨_,rfl⟩
    rw[<-tB] at oa e7;obtain⟨l,hl⟩:∃l,l=L.length:=⟨_,rfl⟩
    have hl4:l<=4:=by rw[hl,hL,List.length_map];have:=Ek m b.aJ.length;have:=E3.out;omega
    have hc4:n7<=4:=by rw[<-e7,tB];have:=Sr b m;have:=E3.out;omega
    obtain⟨cm,kZ⟩:∃c,c=pY L cur:=⟨_,rfl⟩
    obtain⟨nb,gy⟩:∃n,n=(aD (mM b m)).length:=⟨_,rfl⟩
    have aoA:nb<=27:=by rw[gy];exact Ct (yK HV.out)
    have TY:wW b m cur=((decide (l<n7) || (decide (l=n7) && decide (cm<0))) && decide (nb=0)):=by
     unfold wW;rw[<-hL];simp only[<-hl,<-kZ,<-gy,e7]
    have HE:=Af3 (Afx hL (Afx tB (Afx hl (Afx kZ (Afx gy (Afx e7 TY))))));clear hL tB hl kZ gy e7 TY;have hwm:m+1<=mp+1:=al;by_cases h1:l<n7
    ·by_cases hE:nb=0
     ·have uY:((nb:Int)==0)=true:=by simp;omega
      go_wp2_with (first
       | (go_at_call 138
          refine wG.out.mono ?_
          rintro e w4 ⟨qU,qJ,rfl,cO,cV,eB⟩;have pK:Hid (∀w',Below w4.heap.size w4 w'->Af1 prog 96 #[.agg #[.int .i64 b.ag,.slice A1 n1 c1,.slice A2 n2 c2,qU]] w' fun e bq=>∃v,e=.returned v/\eZ bq w'.heap.size v (aD (mM b m))/\Below w'.heap.size w' bq):=Af3 fun w' hw=>all hw.size (cO.still (Still.aK hw (Ac2 _))) (yK HV.out)
          have pJ:Hid (∀w',Below w4.heap.size w4 w'->Af1 prog 139 #[qJ,.slice A7 n7 c7] w' fun e bq=>e=.returned (.int .i64 cm)/\w'=bq):=Af3 fun w' hw=>by
             have st:Still wq.heap.size wq w':=Still.aK (eB.trans (hw.mono eB.size)) (Ac2 _);rw[HE.out.2.2.2.1];exact zN ((cV.row.still (Still.aK hw (Ac2 _)) fun _ _ h=>h)) ((oa.out.still st fun _ _ h=>h).more eB.size) hw.size
          obtain⟨uu,n41,uM,rfl,-⟩:=cO.aJ.open_;obtain⟨J2,n42,CG,rfl,kW,-⟩:=cV.row.open_;have pZ:n42=l:=by rw[<-kW,<-HE.out.2.2.1]
          subst pZ;have wT:=Af3 cV.row;have fx:Hid (Below wq.heap.size wq w4):=Af3 eB;clear cO cV eB kW)
       | (go_at_call 139
          refine(pJ.out _ ((Af6 _ _).alloc (Ac2 _) _)).mono ?_
          rintro e w5 ⟨rfl,rfl⟩)
       | (go_at_call 96
          refine(pK.out _ ((Af6 _ _).alloc (Ac2 _) _)).mono ?_
          rintro e w6 ⟨sv,rfl,aG,fI⟩;obtain⟨A9,n9,c9,rfl,cY,nG,eS,-⟩:=aG.row.open_;have e9:n9=nb:=by rw[<-cY];exact HE.out.2.2.2.2.1.symm
          subst e9;have gU:=Af3 fI;clear fI aG cY))
      go_roundw;case rel=>exact⟨m+1,by omega,by go_num,Af3 ((iX.out.trans (fx.out.mono iX.out.size)).trans ((((Af6 w4.heap.size w4).alloc (Ac2 _) _).trans (gU.out.mono (by simp))).mono (by have:=fx.out.size;have:=iX.out.size;omega))),Af3 (by
       rw[Ss (by rw[<-HE.out.2.1,HE.out.2.2.2.2.2.2];simp;omega),<-HE.out.1]
       exact((wT.out.still (Still.aK (((Af6 w4.heap.size w4).alloc (Ac2 _) _).trans (gU.out.mono (by simp))) (Ac2 _)) fun _ _ h=>h).more (by have:=gU.out.size;simp at this;omega)))⟩
      case measure=>simp[Ag7];omega
     ·have uY:((nb:Int)==0)=false:=by simp;omega
      go_wp2_with (first
       | (go_at_call 138
          refine wG.out.mono ?_
          rintro e w4 ⟨qU,qJ,rfl,cO,cV,eB⟩;have pK:Hid (∀w',Below w4.heap.size w4 w'->Af1 prog 96 #[.agg #[.int .i64 b.ag,.slice A1 n1 c1,.slice A2 n2 c2,qU]] w' fun e bq=>∃v,e=.returned v/\eZ bq w'.heap.size v (aD (mM b m))/\Below w'.heap.size w' bq):=Af3 fun w' hw=>all hw.size (cO.still (Still.aK hw (Ac2 _))) (yK HV.out)
          have pJ:Hid (∀w',Below w4.heap.size w4 w'->Af1 prog 139 #[qJ,.slice A7 n7 c7] w' fun e bq=>e=.returned (.int .i64 cm)/\w'=bq):=Af3 fun w' hw=>by
             have st:Still wq.heap.size wq w':=Still.aK (eB.trans (hw.mono eB.size)) (Ac2 _);rw[HE.out.2.2.2.1];exact zN ((cV.row.still (Still.aK hw (Ac2 _)) fun _ _ h=>h)) ((oa.out.still st fun _ _ h=>h).more eB.size) hw.size
          obtain⟨uu,n41,uM,rfl,-⟩:=cO.aJ.open_;obtain⟨J2,n42,CG,rfl,kW,-⟩:=cV.row.open_;have pZ:n42=l:=by rw[<-kW,<-HE.out.2.2.1]
          subst pZ;have wT:=Af3 cV.row;have fx:Hid (Below wq.heap.size wq w4):=Af3 eB;clear cO cV eB kW)
       | (go_at_call 139
          refine(pJ.out _ ((Af6 _ _).alloc (Ac2 _) _)).mono ?_
          rintro e w5 ⟨rfl,rfl⟩)
       | (go_at_call 96
          refine(pK.out _ ((Af6 _ _).alloc (Ac2 _) _)).mono ?_
          rintro e w6 ⟨sv,rfl,aG,fI⟩;obtain⟨A9,n9,c9,rfl,cY,nG,eS,-⟩:=aG.row.open_;have e9:n9=nb:=by rw[<-cY];exact HE.out.2.2.2.2.1.symm
          subst e9;have gU:=Af3 fI;clear fI aG cY))
      go_roundw;case rel=>exact⟨m+1,by omega,by go_num,Af3 ((iX.out.trans (fx.out.mono iX.out.size)).trans ((((Af6 w4.heap.size w4).alloc (Ac2 _) _).trans (gU.out.mono (by simp))).mono (by have:=fx.out.size;have:=iX.out.size;omega))),Af3 (by
       rw[GA (by rw[<-HE.out.2.1,HE.out.2.2.2.2.2.2];simp;omega),<-HE.out.2.1]
       exact((oa.out.still (Still.aK (fx.out.trans ((((Af6 w4.heap.size w4).alloc (Ac2 _) _).trans (gU.out.mono (by simp))).mono fx.out.size)) (Ac2 _)) fun _ _ h=>h).more (by have:=gU.out.size;have:=fx.out.size;simp at *;omega)))⟩
      case measure=>simp[Ag7];omega
    ·by_cases h2:l=n7
     ·have dW:((l:Int)==(n7:Int))=true:=by simp;omega
      by_cases h3:cm<0
      ·by_cases hE:nb=0
       ·have uY:((nb:Int)==0)=true:=by simp;omega
        go_wp2_with (first
            | (go_at_call 138
               refine wG.out.mono ?_
               rintro e w4 ⟨qU,qJ,rfl,cO,cV,eB⟩;have pK:Hid (∀w',Below w4.heap.size w4 w'->Af1 prog 96 #[.agg #[.int .i64 b.ag,.slice A1 n1 c1,.slice A2 n2 c2,qU]] w' fun e bq=>∃v,e=.returned v/\eZ bq w'.heap.size v (aD (mM b m))/\Below w'.heap.size w' bq):=Af3 fun w' hw=>all hw.size (cO.still (Still.aK hw (Ac2 _))) (yK HV.out)
               have pJ:Hid (∀w',Below w4.heap.size w4 w'->Af1 prog 139 #[qJ,.slice A7 n7 c7] w' fun e bq=>e=.returned (.int .i64 cm)/\w'=bq):=Af3 fun w' hw=>by
                have st:Still wq.heap.size wq w':=Still.aK (eB.trans (hw.mono eB.size)) (Ac2 _);rw[HE.out.2.2.2.1];exact zN ((cV.row.still (Still.aK hw (Ac2 _)) fun _ _ h=>h)) ((oa.out.still st fun _ _ h=>h).more eB.size) hw.size
               obtain⟨uu,n41,uM,rfl,-⟩:=cO.aJ.open_;obtain⟨J2,n42,CG,rfl,kW,-⟩:=cV.row.open_;have pZ:n42=l:=by rw[<-kW,<-HE.out.2.2.1]
               subst pZ;have wT:=Af3 cV.row;have fx:Hid (Below wq.heap.size wq w4):=Af3 eB;clear cO cV eB kW)
            | (go_at_call 139
               have eS:=pJ.out (w4.alloc (Af4 #[Value.int Ack b.ag,Value.slice A1 n1 c1,Value.slice A2 n2 c2,Value.slice uu n41 uM] 117)) ((Af6 _ _).alloc (Ac2 _) _);rw[h2] at eS;refine eS.mono ?_
               clear eS;rintro e w5 ⟨rfl,rfl⟩)
            | (go_at_call 96
               refine(pK.out _ ((Af6 _ _).alloc (Ac2 _) _)).mono ?_
               rintro e w6 ⟨sv,rfl,aG,fI⟩;obtain⟨A9,n9,c9,rfl,cY,nG,eS,-⟩:=aG.row.open_;have e9:n9=nb:=by rw[<-cY];exact HE.out.2.2.2.2.1.symm
               subst e9;have gU:=Af3 fI;clear fI aG cY))
        go_roundw;case rel=>exact⟨m+1,by omega,by go_num,Af3 ((iX.out.trans (fx.out.mono iX.out.size)).trans ((((Af6 w4.heap.size w4).alloc (Ac2 _) _).trans (gU.out.mono (by simp))).mono (by have:=fx.out.size;have:=iX.out.size;omega))),Af3 (by
            rw[Ss (by rw[<-HE.out.2.1,HE.out.2.2.2.2.2.2];simp;omega),<-HE.out.1]
            have Ro:=wT.out;rw[h2] at Ro;exact((Ro.still (Still.aK (((Af6 w4.heap.size w4).alloc (Ac2 _) _).trans (gU.out.mono (by simp))) (Ac2 _)) fun _ _ h=>h).more (by have:=gU.out.size;simp at this;omega)))⟩
        case measure=>simp[Ag7];omega
       ·have uY:((nb:Int)==0)=false:=by simp;omega
        go_wp2_with (first
            | (go_at_call 138
               refine wG.out.mono ?_
               rintro e w4 ⟨qU,qJ,rfl,cO,cV,eB⟩;have pK:Hid (∀w',Below w4.heap.size w4 w'->Af1 prog 96 #[.agg #[.int .i64 b.ag,.slice A1 n1 c1,.slice A2 n2 c2,qU]] w' fun e bq=>∃v,e=.returned v/\eZ bq w'.heap.size v (aD (mM b m))/\Below w'.heap.size w' bq):=Af3 fun w' hw=>all hw.size (cO.still (Still.aK hw (Ac2 _))) (yK HV.out)
               have pJ:Hid (∀w',Below w4.heap.size w4 w'->Af1 prog 139 #[qJ,.slice A7 n7 c7] w' fun e bq=>e=.returned (.int .i64 cm)/\w'=bq):=Af3 fun w' hw=>by
                have st:Still wq.heap.size wq w':=Still.aK (eB.trans (hw.mono eB.size)) (Ac2 _);rw[HE.out.2.2.2.1];exact zN ((cV.row.still (Still.aK hw (Ac2 _)) fun _ _ h=>h)) ((oa.out.still st fun _ _ h=>h).more eB.size) hw.size
               obtain⟨uu,n41,uM,rfl,-⟩:=cO.aJ.open_;obtain⟨J2,n42,CG,rfl,kW,-⟩:=cV.row.open_;have pZ:n42=l:=by rw[<-kW,<-HE.out.2.2.1]
               subst pZ;have wT:=Af3 cV.row;have fx:Hid (Below wq.heap.size wq w4):=Af3 eB;clear cO cV eB kW)
            | (go_at_call 139
               have eS:=pJ.out (w4.alloc (Af4 #[Value.int Ack b.ag,Value.slice A1 n1 c1,Value.slice A2 n2 c2,Value.slice uu n41 uM] 117)) ((Af6 _ _).alloc (Ac2 _) _);rw[h2] at eS;refine eS.mono ?_
               clear eS;rintro e w5 ⟨rfl,rfl⟩)
            | (go_at_call 96
               refine(pK.out _ ((Af6 _ _).alloc (Ac2 _) _)).mono ?_
               rintro e w6 ⟨sv,rfl,aG,fI⟩;obtain⟨A9,n9,c9,rfl,cY,nG,eS,-⟩:=aG.row.open_;have e9:n9=nb:=by rw[<-cY];exact HE.out.2.2.2.2.1.symm
               subst e9;have gU:=Af3 fI;clear fI aG cY))
        go_roundw;case rel=>exact⟨m+1,by omega,by go_num,Af3 ((iX.out.trans (fx.out.mono iX.out.size)).trans ((((Af6 w4.heap.size w4).alloc (Ac2 _) _).trans (gU.out.mono (by simp))).mono (by have:=fx.out.size;have:=iX.out.size;omega))),Af3 (by
            rw[GA (by rw[<-HE.out.2.1,HE.out.2.2.2.2.2.2];simp;omega),<-HE.out.2.1]
            exact((oa.out.still (Still.aK (fx.out.trans ((((Af6 w4.heap.size w4).alloc (Ac2 _) _).trans (gU.out.mono (by simp))).mono fx.out.size)) (Ac2 _)) fun _ _ h=>h).more (by have:=gU.out.size;have:=fx.out.size;simp at *;omega)))⟩
        case measure=>simp[Ag7];omega
      ·go_wp2_with (first
        | (go_at_call 138
           refine wG.out.mono ?_
           rintro e w4 ⟨qU,qJ,rfl,cO,cV,eB⟩;have pK:Hid (∀w',Below w4.heap.size w4 w'->Af1 prog 96 #[.agg #[.int .i64 b.ag,.slice A1 n1 c1,.slice A2 n2 c2,qU]] w' fun e bq=>∃v,e=.returned v/\eZ bq w'.heap.size v (aD (mM b m))/\Below w'.heap.size w' bq):=Af3 fun w' hw=>all hw.size (cO.still (Still.aK hw (Ac2 _))) (yK HV.out)
           have pJ:Hid (∀w',Below w4.heap.size w4 w'->Af1 prog 139 #[qJ,.slice A7 n7 c7] w' fun e bq=>e=.returned (.int .i64 cm)/\w'=bq):=Af3 fun w' hw=>by
             have st:Still wq.heap.size wq w':=Still.aK (eB.trans (hw.mono eB.size)) (Ac2 _);rw[HE.out.2.2.2.1];exact zN ((cV.row.still (Still.aK hw (Ac2 _)) fun _ _ h=>h)) ((oa.out.still st fun _ _ h=>h).more eB.size) hw.size
           obtain⟨uu,n41,uM,rfl,-⟩:=cO.aJ.open_;obtain⟨J2,n42,CG,rfl,kW,-⟩:=cV.row.open_;have pZ:n42=l:=by rw[<-kW,<-HE.out.2.2.1]
           subst pZ;have wT:=Af3 cV.row;have fx:Hid (Below wq.heap.size wq w4):=Af3 eB;clear cO cV eB kW)
        | (go_at_call 139
           have eS:=pJ.out (w4.alloc (Af4 #[Value.int Ack b.ag,Value.slice A1 n1 c1,Value.slice A2 n2 c2,Value.slice uu n41 uM] 117)) ((Af6 _ _).alloc (Ac2 _) _);rw[h2] at eS;refine eS.mono ?_
           clear eS;rintro e w5 ⟨rfl,rfl⟩)
        | (go_at_call 96
           refine(pK.out _ ((Af6 _ _).alloc (Ac2 _) _)).mono ?_
           rintro e w6 ⟨sv,rfl,aG,fI⟩;obtain⟨A9,n9,c9,rfl,cY,nG,eS,-⟩:=aG.row.open_;have e9:n9=nb:=by rw[<-cY];exact HE.out.2.2.2.2.1.symm
           subst e9;have gU:=Af3 fI;clear fI aG cY))
       go_roundw;case rel=>exact⟨m+1,by omega,by go_num,Af3 ((iX.out.trans (fx.out.mono iX.out.size)).trans (((Af6 w4.heap.size w4).alloc (Ac2 _) _).mono (by have:=fx.out.size;have:=iX.out.size;omega))),Af3 (by
        rw[GA (by rw[<-HE.out.2.1,HE.out.2.2.2.2.2.2];simp;omega),<-HE.out.2.1]
        exact((oa.out.still (Still.aK (fx.out.trans (((Af6 w4.heap.size w4).alloc (Ac2 _) _).mono fx.out.size)) (Ac2 _)) fun _ _ h=>h).more (by have:=fx.out.size;simp;omega)))⟩
       case measure=>simp[Ag7];omega
     ·have dW:((l:Int)==(n7:Int))=false:=by simp;omega
      go_wp2_with (first
       | (go_at_call 138
          refine wG.out.mono ?_
          rintro e w4 ⟨qU,qJ,rfl,cO,cV,eB⟩;have pK:Hid (∀w',Below w4.heap.size w4 w'->Af1 prog 96 #[.agg #[.int .i64 b.ag,.slice A1 n1 c1,.slice A2 n2 c2,qU]] w' fun e bq=>∃v,e=.returned v/\eZ bq w'.heap.size v (aD (mM b m))/\Below w'.heap.size w' bq):=Af3 fun w' hw=>all hw.size (cO.still (Still.aK hw (Ac2 _))) (yK HV.out)
          have pJ:Hid (∀w',Below w4.heap.size w4 w'->Af1 prog 139 #[qJ,.slice A7 n7 c7] w' fun e bq=>e=.returned (.int .i64 cm)/\w'=bq):=Af3 fun w' hw=>by
             have st:Still wq.heap.size wq w':=Still.aK (eB.trans (hw.mono eB.size)) (Ac2 _);rw[HE.out.2.2.2.1];exact zN ((cV.row.still (Still.aK hw (Ac2 _)) fun _ _ h=>h)) ((oa.out.still st fun _ _ h=>h).more eB.size) hw.size
          obtain⟨uu,n41,uM,rfl,-⟩:=cO.aJ.open_;obtain⟨J2,n42,CG,rfl,kW,-⟩:=cV.row.open_;have pZ:n42=l:=by rw[<-kW,<-HE.out.2.2.1]
          subst pZ;have wT:=Af3 cV.row;have fx:Hid (Below wq.heap.size wq w4):=Af3 eB;clear cO cV eB kW)
       | (go_at_call 139
          refine(pJ.out _ ((Af6 _ _).alloc (Ac2 _) _)).mono ?_
          rintro e w5 ⟨rfl,rfl⟩)
       | (go_at_call 96
          refine(pK.out _ ((Af6 _ _).alloc (Ac2 _) _)).mono ?_
          rintro e w6 ⟨sv,rfl,aG,fI⟩;obtain⟨A9,n9,c9,rfl,cY,nG,eS,-⟩:=aG.row.open_;have e9:n9=nb:=by rw[<-cY];exact HE.out.2.2.2.2.1.symm
          subst e9;have gU:=Af3 fI;clear fI aG cY))
      go_roundw;case rel=>exact⟨m+1,by omega,by go_num,Af3 ((iX.out.trans (fx.out.mono iX.out.size)).trans (((Af6 w4.heap.size w4).alloc (Ac2 _) _).mono (by have:=fx.out.size;have:=iX.out.size;omega))),Af3 (by
       rw[GA (by rw[<-HE.out.2.1,HE.out.2.2.2.2.2.2];simp;omega),<-HE.out.2.1]
       exact((oa.out.still (Still.aK (fx.out.trans (((Af6 w4.heap.size w4).alloc (Ac2 _) _).mono fx.out.size)) (Ac2 _)) fun _ _ h=>h).more (by have:=fx.out.size;simp;omega)))⟩
      case measure=>simp[Ag7];omega
   ·obtain rfl:m=mp+1:=by omega
    have fY:zM b=ju b (mp+1):=by unfold zM;rw[if_pos B9.out.symm,E3.out,Q7.out]
    have uy:=Af3 fY;clear fY;have jS:Below w.heap.size w wq:=(aY.out.trans ((((Af6 _ _).alloc (Ac2 _) _).trans (dV.out.mono (by simp))).mono (by omega))).trans (iX.out.mono (by have:=wS.out.1.lt;omega))
    have wO:=Af3 jS;clear jS;go_wp2
    go_ret2
    exact⟨_,rfl,by rw[uy.out];exact oa.out,wO.out⟩
end Go.Tw
namespace Go.Jn
open Go Go.Proofs Go.Sim Go.Conc Go.Tw Go.RowKit
section
variable [Go.Tw.aR]
def FD(w0:Aa4)(a:Act)(w:Aa4):Prop:=∃gE gp gb gk gt gl gc g3 dk n22 c22 bZ n25 b6 er n28 ew iW n31 iZ,
 Sl [(0,.bool false),(1,.pointer (some ⟨gE,0,none⟩)),(2,.slice (some ⟨gc,0,none⟩) 3 3),(3,.slice (some ⟨g3,0,none⟩) 3 3),(5,.int .i64 0),(7,.int .i64 0),(9,.int .i64 0),(11,.int .i64 0),(13,.int .i64 0),(15,.int .i64 0),(20,.int .i64 1),(21,.int .i64 0),(22,.slice dk n22 c22),(23,.slice none 0 0),(24,.int .i64 8),(25,.slice bZ n25 b6),(26,.int .i64 2),(27,.bool true),(28,.slice er n28 ew),(29,.int .i64 14),(30,.bool true),(31,.slice iW n31 iZ)] a/\
 jo w0 w gE gp gb gk gt gl gc g3/\Row w w.heap.size 1 cH (.slice dk n22 c22) [1,1]/\Row w w.heap.size 2 Cut.R (.slice bZ n25 b6) dQ/\Row w w.heap.size 2 Cut.R (.slice er n28 ew) dQ/\Row w w.heap.size 1 cH (.slice iW n31 iZ) [0,1]
def FE(a:Act)(w:Aa4):Prop:=∃bZ n25 b6 kP n35 jd,Sl [(5,.int .i64 0),(7,.int .i64 0),(9,.int .i64 0),(25,.slice bZ n25 b6),(26,.int .i64 1),(35,.slice kP n35 jd)] a/\
 Row w w.heap.size 2 Cut.R (.slice bZ n25 b6) mr/\Row w w.heap.size 1 cH (.slice kP n35 jd) [0,1,2]
theorem abY:zM zS=[0,1,2]:=by decide+kernel
theorem I2{α:Type}{w:Aa4}{B sz:Nat}{R:α->List Value->Prop}{v:Value}{xs:List α}(h:Row w B sz R v xs):∃A n c,v=.slice A n c:=by
 obtain⟨A,c,e,_⟩:=h;exact⟨A,_,c,e⟩
theorem ak3{w0:Aa4}(hm:gI w0){a:Act}{w:Aa4}(hf:FD w0 a w):eX prog [we,wh,wj,wm,sw,wu] (dP FE) a w:=by
 obtain⟨gE,gp,gb,gk,gt,gl,gc,g3,dk,n22,c22,bZ,n25,b6,er,n28,ew,iW,n31,iZ,hs,hx,j4,gO,mE,yf⟩:=hf;refine jj (akF (W:=fun w'=>Ahz w.heap.size w w') hs hx.bE ?c19) ?_
 case c19=>
  refine(Zn (Ac2 _) (kY hx.ex) CS).mono ?_
  rintro e w' ⟨rfl,hb⟩;exact⟨by rw[abW],hb⟩
 rintro a w1 ⟨hs,hb⟩;replace hx:=hx.grown hb;replace j4:=ft j4 hb;replace gO:=ft gO hb;replace mE:=ft mE hb;replace yf:=ft yf hb;clear hb;refine jj (akG hs hx.kD j4 gO mE yf) ?_
 rintro a w2 ⟨hs,hb⟩;replace hx:=hx.grown hb;clear hb j4 gO mE yf;refine jj (akH (W:=fun Ap np cp Ab nb cb At nt ct w'=>bg w' w'.heap.size (fj aW gh) (.slice Ap np cp) (.slice Ab nb cb) (.slice At nt ct)/\Ahz w2.heap.size w2 w') hs hx.bE ?c21) ?_
 case c21=>
  refine(Zh (x:=gh) (kv:=.slice none 0 0) (Ac2 _) (kY hx.ex) (by show O1.size<=Af0;decide) Row.nil xh abU).mono ?_
  rintro e w' ⟨ix,ia,fD,rfl,ai,hb⟩;obtain⟨Ap,np,cp,rfl⟩:=I2 ai.pieces;obtain⟨Ab,nb,cb,rfl⟩:=I2 ai.aF;obtain⟨At,nt,ct,rfl⟩:=I2 ai.aJ;exact⟨Ap,np,cp,Ab,nb,cb,At,nt,ct,rfl,ai,hb⟩
 rintro a w3 ⟨Ap,np,cp,Ab,nb,cb,At,nt,ct,qW,⟨ai,hb⟩,hs,rfl⟩;have ak:Ahz w2.heap.size w2 (qW.alloc (.cells #[.int .i64 1,.slice Ap np cp,.slice Ab nb cb,.slice At nt ct] 26)):=hb.alloc hb.size _;replace hx:=hx.grown ak;have ow:Ahz qW.heap.size qW (qW.alloc (.cells #[.int .i64 1,.slice Ap np cp,.slice Ab nb cb,.slice At nt ct] 26)):=(Ai4 _ _).alloc (Ac2 _) _;have aiq:=ai.still (Still.aK ow (Ac2 _));have hn:Bk (qW.alloc (.cells #[.int .i64 1,.slice Ap np cp,.slice Ab nb cb,.slice At nt ct] 26)) qW.heap.size 26 #[.int .i64 1,.slice Ap np cp,.slice Ab nb cb,.slice At nt ct]:=Bk.new _ _ _;have aI:qW.heap.size<=(qW.alloc (.cells #[.int .i64 1,.slice Ap np cp,.slice Ab nb cb,.slice At nt ct] 26)).heap.size:=ow.size;generalize (qW.alloc (.cells #[.int .i64 1,.slice Ap np cp,.slice Ab nb cb,.slice At nt ct] 26))=w3 at *;refine jj (akI (W:=fun A n c w'=>cW w' (fun k=>k=gE\/k=gt) 2 Cut.R (.slice A n c) mr/\Ahz w3.heap.size w3 w') hs hn ?c22) ?_
 case c22=>
  refine(Md aI aiq (OV hm hx)).mono ?_
  rintro e w' ⟨cv,mv,fv,rfl,aQ,fX⟩;rw[abV] at aQ;obtain⟨ho,rfl,rfl⟩:=aQ;obtain⟨A,k,c,rfl⟩:=j8 ho;have h0:cj (fj aW gh) 0=0:=by decide+kernel
  exact⟨A,k,c,by rw[h0],cW.vO (xs:=mr) ho (fun _=>rfl) (fun _ _=>rfl) (fun k hk=>by
   rcases hk with rfl|rfl
   ·exact hx.bE.lt
   ·exact hx.ex.t.lt),fX⟩
 rintro a w4 ⟨Yk,aiJ,ZX,hs,gO,hb⟩;replace hx:=hx.grown hb;clear hb;refine jj (akJ hs hx gO) ?_
 rintro a w5 ⟨At',nt',ct',hs,hbE,ad4,hr⟩;refine jj (akK (W:=fun A n c w'=>Row w' w'.heap.size 1 cH (.slice A n c) [0,1,2]/\Ahz w5.heap.size w5 w') hs hbE ?c24) ?_
 case c24=>
  refine(aaq (Ac2 _) ad4 acj).mono ?_
  rintro e w' ⟨v,rfl,eI,hb⟩;rw[abY] at eI;obtain⟨A,n,c,rfl⟩:=I2 eI;exact⟨A,n,c,rfl,eI,hb⟩
 rintro a w6 ⟨kP,n35,jd,hs,Hx,hb⟩;exact⟨_,_,_,kP,n35,jd,hs,ft hr hb,Hx⟩
end
end Go.Jn
namespace Go.Jn
open Go Go.Proofs Go.Sim Go.Conc Go.Tw
set_option maxRecDepth 100000
noncomputable def mN:Array Aev:=opsOf Jf
theorem al6:∃id,Jf=.region id mN false:=⟨_,rfl⟩
theorem n18:mN.size=7:=by decide+kernel
theorem ai2:∃o,mN[0]?=some o/\o.op=.load 26 (.tmp 1)/\o.dst=some 197/\o.guard=none/\j7 Tryz.prog G0 o=true:=by
 have h:j7 Tryz.prog G0 (mN[0]'(by rw[n18];omega))=true:=by decide+kernel
 exact⟨_,rfl,rfl,rfl,rfl,h⟩
theorem Wk:∃o,mN[1]?=some o/\o.op=.call {callee:=.value (.func 38),args:=#[.tmp 197],argTypes:=#[26]}/\o.dst=some 198/\o.guard=none:=⟨_,rfl,rfl,rfl,rfl⟩
theorem ai3:∃o,mN[2]?=some o/\o.op=.move (.tmp 198)/\o.dst=some 196/\o.guard=none:=⟨_,rfl,rfl,rfl,rfl⟩
theorem ai4:∃o,mN[3]?=some o/\o.op=.extract (.tmp 196) 0/\o.dst=some 199/\o.guard=none:=⟨_,rfl,rfl,rfl,rfl⟩
theorem ai5:∃o,mN[4]?=some o/\o.op=.extract (.tmp 196) 1/\o.dst=some 200/\o.guard=none:=⟨_,rfl,rfl,rfl,rfl⟩
theorem ai6:∃o,mN[5]?=some o/\o.op=.assign (.tmp 199)/\o.dst=some 31/\o.guard=none:=⟨_,rfl,rfl,rfl,rfl⟩
theorem ai7:∃o,mN[6]?=some o/\o.op=.assign (.tmp 200)/\o.dst=some 15/\o.guard=none:=⟨_,rfl,rfl,rfl,rfl⟩
theorem alQ{P:Program}{main:Bool}{fn:FuncId}{t:Array Value}{k:List Item}{D:List Deferred}{cs:List Frame}{ops:Array Aev}{i:Nat}{rest:List Nat}{o:Aev}{f:FuncId}{args:Array Value}
 (ho:ops[i]?=some o)(hg:Afi o (yielded ops t)=true){aa:Aa4}(hr:(execOp (aS t) o).runT P aa #[]=(.ok (.enter f args) aa,#[])):
 stepG P main (rg fn t (.inRegion ops (i::rest)::k) D .normal cs) aa=.go (aO (Frame.enter P f args .normal) (⟨fn,t,.inRegion ops (i::rest)::k,D,.run,.normal,none⟩::cs)) aa #[]:=by
 have e1:Frame.eval ⟨fn,t,.inRegion ops (i::rest)::k,D,.run,.normal,none⟩=aS t:=tf;simp only[stepG,stepG.exec,ho,Afu,hg,Afv,if_true,stepG.oper,Frame.oper?,stepG.apply,e1,hr];simp[ud,GStep.after]
theorem call38{t:Array Value}{o:Aev}(ab:o.op=.call {callee:=.value (.func 38),args:=#[.tmp 197],argTypes:=#[26]}){v:Value}(hv:t.getD 197 undef=v)(aa:Aa4):
 (execOp (aS t) o).runT Tryz.prog aa #[]=(.ok (.enter 38 #[v]) aa,#[]):=by
 have h:=CK (P:=Tryz.prog) Tryz.func38 RG aiN #[v] aa;unfold execOp;rw[ab];have e:(aS t) (.tmp 197)=v:=hv;have e0:(aS t) (.func 38)=.func (.func 38) #[] #[]:=rfl;simp only[resolve,List.map_toArray,List.map_cons,List.map_nil,e,e0,Deferred.ofValue,Array.append_empty];exact h
section
variable [Go.Tw.aR]
open Go.RowKit in
theorem ahf{tl:Array Value}{o:Aev}(ab:o.op=.load 26 (.tmp 1)){gE:Nat}(ht:tl.getD 1 undef=.pointer (some ⟨gE,0,none⟩)){w:Aa4}{A1 A2 A3:Option Aay}{n1 c1 n2 c2 n3 c3:Nat}{s:Int}
 (hb:Bk w gE 26 #[.int .i64 s,.slice A1 n1 c1,.slice A2 n2 c2,.slice A3 n3 c3]):
 (execOp (aS tl) o).run Tw.prog w=.ok (.value (.agg #[.int .i64 s,.slice A1 n1 c1,.slice A2 n2 c2,.slice A3 n3 c3])) w:=by
 have q0:=hb.cell 0;have q1:=hb.cell 1;have q2:=hb.cell 2;have q3:=hb.cell 3;have e:(aS tl) (.tmp 1)=.pointer (some ⟨gE,0,none⟩):=ht;unfold execOp;rw[ab];simp only[e];go_simp
end
end Go.Jn
namespace Go.Jn
open Go Go.Proofs Go.Sim Go.Conc Go.Tw
set_option maxRecDepth 100000
def mW(w:Aa4):Aa4:={w with heap:=#[.cells #[.func (.func 234) #[] #[],.func (.func 236) #[] #[]] 146 (0,2)]}
def r0:Ren:=fun a b=>a=0/\b=0
theorem Tu(ρ:Ren)(f:FuncId):ah ρ (.func (.func f) #[] #[]) (.func (.func f) #[] #[]):=.func (.func f) rfl (fun i hi _=>absurd hi (by simp)) rfl (fun i hi _=>absurd hi (by simp))
theorem am5{C:bQ}{w:Aa4}(h:ri w):bV C r0 (mW w) w:=by
 obtain⟨fr,h⟩:=h;refine⟨?_,?_,?_,?_,?_⟩
 ·rintro a b ⟨rfl,rfl⟩;simp[mW]
 ·rintro a b ⟨rfl,rfl⟩;exact(Aaf.1 h).1
 ·rintro a b b' ⟨rfl,rfl⟩ ⟨_,rfl⟩;rfl
 ·rintro a a' b ⟨rfl,rfl⟩ ⟨rfl,_⟩;rfl
 ·rintro a b o ⟨rfl,rfl⟩ ho
  have e:o=.cells #[.func (.func 234) #[] #[],.func (.func 236) #[] #[]] 146 (0,2):=by simpa [mW] using ho.symm
  subst e;refine⟨_,h,.cells 146 ⟨rfl,fun i h1 h2=>?_⟩ (.inr ⟨rfl,Ac2 _⟩)⟩
  match i,h1,h2 with
  |0,_,_=>exact Tu _ _
  |1,_,_=>exact Tu _ _
  |i+2,h1,_=>exact absurd h1 (by simp)
theorem am6{w:Aa4}:bJ (mW w).heap:=by
 intro o ho hb;have e:o=.cells #[.func (.func 234) #[] #[],.func (.func 236) #[] #[]] 146 (0,2):=by simpa [mW] using ho
 subst e;exact hb
theorem Qs{w:Aa4}(T:Tape):gI (aZ (mW w) T):=⟨(0,2),rfl⟩
theorem Qr{w:Aa4}(b:Nat):mZ r0 (mW w) b:=by
 rintro a ⟨rfl,_⟩;exact⟨_,rfl,rfl,Ac2 _⟩
theorem aj1{ρ:Ren}{u t t7:Array Value}(h:aP ρ u t)(hs:t7.size=t.size)(J:Nat->Bool)(hk:∀i,J i=false->t7[i]?=t[i]?):∃u7:Array Value,aP ρ u7 t7/\∀i,J i=false->u7[i]?=u[i]?:=by
 have hu:u.size=t7.size:=h.1.trans hs.symm;refine⟨Array.ofFn fun i:Fin t7.size=>if J i then Classical.choose (rB ρ t7[i.1]) else u[i.1]'(by rw[hu];exact i.2),⟨by simp,fun i h1 h2=>?_⟩,fun i hi=>?_⟩
 ·rw[Array.getElem_ofFn]
  by_cases hj:J i=true
  ·simp only[hj,if_true];exact Classical.choose_spec (rB ρ t7[i])
  ·have hj:J i=false:=by simpa using hj
   simp only[hj,Bool.false_eq_true,if_false];have e:=hk i hj;have ht:i<t.size:=by rw[<-hs];exact h2
   rw[Adb h2,Adb ht] at e
   rw[Option.some.inj e];exact h.2 i _ ht
 ·by_cases al:i<t7.size
  ·rw[Array.getElem?_ofFn,dif_pos al,Adb (by rw[hu];exact al)]
   simp only[hi,Bool.false_eq_true,if_false]
  ·rw[Aan (by simpa using al),Aan (by rw[hu];omega)]
theorem am4{main:Bool}{Stop:Sim.aaa->Goroutine->Aa4->Prop}{M:Sim.aaa}{w:Aa4}{cs:List Frame}{t:Array Value}(hs:t.size=349){k:List Item}{ov:Value}
 (h:∀t7:Array Value,t7.size=349->t7[31]?=some ov->t7[15]?=some (.int .i64 0)->(∀i,i≠198->i≠196->i≠199->i≠200->i≠31->i≠15->t7[i]?=t[i]?)->Walk Tryz.prog main Stop M (rg 21 t7 k [] .normal cs) w):
 Walk Tryz.prog main Stop M (rg 21 (ay t (some 198) (.tuple #[ov,.int .i64 0])) (.inRegion mN [2,3,4,5,6]::k) [] .normal cs) w:=by
 have dY:(ay t (some 198) (.tuple #[ov,.int .i64 0])).size=349:=by simp[ay,hs]
 have e0:(ay t (some 198) (.tuple #[ov,.int .i64 0])).getD 198 undef=.tuple #[ov,.int .i64 0]:=ib (by omega)
 have k0:∀i,i≠198->(ay t (some 198) (.tuple #[ov,.int .i64 0]))[i]?=t[i]?:=fun i h=>bL (Aei h)
 revert dY e0 k0
 generalize ay t (some 198) (.tuple #[ov,.int .i64 0])=t1;intro cZ e1 k1;obtain⟨o,ho,ab,hd,gx⟩:=ai3;refine du (v:=.tuple #[ov,.int .i64 0]) ho (cf gx) rfl (fun aa _=>⟨_,(run_move t1 aa ab).trans (by rw[show(aS t1) (.tmp 198)=_ from e1]),eo⟩) ?_
 rw[hd];have dD:(ay t1 (some 196) (.tuple #[ov,.int .i64 0])).size=349:=by simp[ay,cZ]
 have e2:(ay t1 (some 196) (.tuple #[ov,.int .i64 0])).getD 196 undef=.tuple #[ov,.int .i64 0]:=ib (by omega)
 have k2:∀i,i≠198->i≠196->(ay t1 (some 196) (.tuple #[ov,.int .i64 0]))[i]?=t[i]?:=fun i h h'=>(bL (Aei h')).trans (k1 i h)
 revert dD e2 k2
 generalize ay t1 (some 196) (.tuple #[ov,.int .i64 0])=t2;intro dD e2 k2;obtain⟨o,ho,ab,hd,gx⟩:=ai4;refine du (v:=ov) ho (cf gx) rfl (fun aa _=>⟨_,Ft t2 aa ab e2 rfl,eo⟩) ?_
 rw[hd];have gQ:(ay t2 (some 199) ov).size=349:=by simp[ay,dD]
 have e3:(ay t2 (some 199) ov).getD 199 undef=ov:=ib (by omega)
 have f3:(ay t2 (some 199) ov).getD 196 undef=.tuple #[ov,.int .i64 0]:=by
  rw[Aaa,show(ay t2 (some 199) ov)[196]?=t2[196]? from bL (by omega),<- Aaa];exact e2
 have k3:∀i,i≠198->i≠196->i≠199->(ay t2 (some 199) ov)[i]?=t[i]?:=fun i h h' dR=>(bL (Aei dR)).trans (k2 i h h')
 revert gQ e3 f3 k3
 generalize ay t2 (some 199) ov=t3;intro gQ e3 f3 k3;obtain⟨o,ho,ab,hd,gx⟩:=ai5;refine du (v:=.int .i64 0) ho (cf gx) rfl (fun aa _=>⟨_,Ft t3 aa ab f3 rfl,eo⟩) ?_
 rw[hd];have tK:(ay t3 (some 200) (.int .i64 0)).size=349:=by simp[ay,gQ]
 have e4:(ay t3 (some 200) (.int .i64 0)).getD 200 undef=.int .i64 0:=ib (by omega)
 have f4:(ay t3 (some 200) (.int .i64 0)).getD 199 undef=ov:=by
  rw[Aaa,show(ay t3 (some 200) (.int .i64 0))[199]?=t3[199]? from bL (by omega),<- Aaa];exact e3
 have k4:∀i,i≠198->i≠196->i≠199->i≠200->(ay t3 (some 200) (.int .i64 0))[i]?=t[i]?:=fun i h h' dR h3=>(bL (Aei h3)).trans (k3 i h h' dR)
 revert tK e4 f4 k4
 generalize ay t3 (some 200) (.int .i64 0)=t4;intro tK e4 f4 k4;obtain⟨o,ho,ab,hd,gx⟩:=ai6;refine du (v:=ov) ho (cf gx) rfl (fun aa _=>⟨_,(run_assign t4 aa ab).trans (by rw[show(aS t4) (.tmp 199)=_ from f4]),eo⟩) ?_
 rw[hd];have AJ:(ay t4 (some 31) ov).size=349:=by simp[ay,tK]
 have e5:(ay t4 (some 31) ov)[31]?=some ov:=eM (by omega)
 have f5:(ay t4 (some 31) ov).getD 200 undef=.int .i64 0:=by
  rw[Aaa,show(ay t4 (some 31) ov)[200]?=t4[200]? from bL (by omega),<- Aaa];exact e4
 have k5:∀i,i≠198->i≠196->i≠199->i≠200->i≠31->(ay t4 (some 31) ov)[i]?=t[i]?:=fun i h h' dR h3 h4=>(bL (Aei h4)).trans (k4 i h h' dR h3)
 revert AJ e5 f5 k5
 generalize ay t4 (some 31) ov=t5;intro AJ e5 f5 k5;obtain⟨o,ho,ab,hd,gx⟩:=ai7;refine du (v:=.int .i64 0) ho (cf gx) rfl (fun aa _=>⟨_,(run_assign t5 aa ab).trans (by rw[show(aS t5) (.tmp 200)=_ from f5]),eo⟩) ?_
 rw[hd];refine iA (h _ (by simp[ay,AJ]) ((bL (by omega)).trans e5) (eM (by omega)) fun i a1 a2 a3 a4 a5 a6=>(bL (Aei a6)).trans (k5 i a1 a2 a3 a4 a5))
theorem acm{S:Nat->Prop}{W:Aa4}{base gp gb gk gt gl:Nat}(h:wL W base gp gb gk gt gl):FY S W W.heap.size aW (.slice (some ⟨gp,0,none⟩) 3 3) (.slice (some ⟨gb,0,none⟩) 2 2) (.slice (some ⟨gt,0,none⟩) 1 1):=by
 letI:=iQ
 have sv:∀(g n c:Nat),n≠0->Sv S (.slice (some ⟨g,0,none⟩) n c):=fun g n c hn A n' c' e h0=>by
  injection e with _ e2 _;omega
 refine⟨(kY h).pieces,?_,?_,sv _ _ _ (by omega),sv _ _ _ (by omega),sv _ _ _ (by omega)⟩
 ·have:=wX (xs:=zR gk) (sz:=3) (f:=eP) (R:=fun p cs=>cs=eP p) h.b (by show 2<=1000;decide) (fun _=>rfl) (fun _ _=>rfl) rfl
  refine yY (ps:=zR gk) this (fun p hm cs hc=>?_)
  subst hc;simp only[zR,Aef,Aeg,or_false] at hm;rcases hm with rfl|rfl
  ·refine⟨⟨_,rfl,(by show te.name.size<=Af0;decide),Lz [⟨3,3⟩] (by decide) h.k rfl⟩,fun u hu=>?_⟩
   simp only[eP,Aef,Aeg,or_false] at hu;rcases hu with rfl|rfl|rfl
   ·intro A n c e;cases e
   ·intro A n c e;cases e
   ·exact sv _ _ _ (by omega)
  ·refine⟨⟨_,rfl,by decide,Row.nil⟩,fun u hu=>?_⟩
   simp only[eP,Aef,Aeg,or_false] at hu;rcases hu with rfl|rfl|rfl<;>(intro A n c e;cases e)
 ·have:=wX (xs:=[((⟨[0,2],⟨7,7⟩⟩:Tw.Tape),Value.slice (some ⟨gl,0,none⟩) 2 2)]) (sz:=3) (f:=eG) (R:=fun p cs=>cs=eG p) h.t (by show 1<=1000;decide) (fun _=>rfl) (fun _ _=>rfl) rfl
  refine yY this (fun p hm cs hc=>?_)
  subst hc;simp only[Aef,Aeg,or_false] at hm;subst hm;refine⟨⟨_,rfl,ru [0,2] (by decide) h.l rfl⟩,fun u hu=>?_⟩
  simp only[eG,Aef,Aeg,or_false] at hu;rcases hu with rfl|rfl|rfl
  ·exact sv _ _ _ (by omega)
  ·intro A n c e;cases e
  ·intro A n c e;cases e
end Go.Jn
namespace Go.Jn
open Go Go.Proofs Go.Sim Go.Conc Go.Tw
set_option maxRecDepth 100000
theorem ade{ρ:Ren}(h:ρ 0 0):∀g,G0 g=true->ρ g g:=fun g hg=>by
 have:g=0:=by simpa [G0] using hg
 subst this;exact h
noncomputable abbrev Qz:Code:=chain [we,wh,wj,wm,sw,wu] wD
noncomputable abbrev Ma(gp gb gt:Nat):Value:=.agg #[.int .i64 1,.slice (some ⟨gp,0,none⟩) 3 3,.slice (some ⟨gb,0,none⟩) 2 2,.slice (some ⟨gt,0,none⟩) 1 1]
def Zf(w0:Aa4)(cs:List Frame)(_:Sim.aaa)(g:Goroutine)(w:Aa4):Prop:=
 ∃(t:Array Value) (arg:Value) (a:Act) (wl:Aa4) (ρ:Ren) (T:Tape),∃gE gp gb gk gt gl gc g3 dk n22 c22 bZ n25 b6 er n28 ew,
  g=aO (Frame.enter Tryz.prog 38 #[arg] .normal) (⟨21,t,.inRegion mN [1,2,3,4,5,6]:: [.code Qz],[],.run,.normal,none⟩::cs)/\t.size=349/\
  Sl [(0,.bool false),(1,.pointer (some ⟨gE,0,none⟩)),(2,.slice (some ⟨gc,0,none⟩) 3 3),(3,.slice (some ⟨g3,0,none⟩) 3 3),(5,.int .i64 0),(7,.int .i64 0),(9,.int .i64 0),(11,.int .i64 0),(13,.int .i64 0),(20,.int .i64 1),(21,.int .i64 0),(22,.slice dk n22 c22),(23,.slice none 0 0),(24,.int .i64 8),(25,.slice bZ n25 b6),(26,.int .i64 2),(27,.bool true),(28,.slice er n28 ew),(29,.int .i64 14),(30,.bool true)] a/\
  jo (aZ (mW w0) T) wl gE gp gb gk gt gl gc g3/\Row wl wl.heap.size 1 cH (.slice dk n22 c22) [1,1]/\Row wl wl.heap.size 2 Cut.R (.slice bZ n25 b6) dQ/\Row wl wl.heap.size 2 Cut.R (.slice er n28 ew) dQ/\
  (∃t0,aP ρ a.tmps t0/\∀i,i≠197->t[i]?=t0[i]?)/\ah ρ (Ma gp gb gt) arg/\bV C0 ρ wl w/\ρ 0 0/\bJ wl.heap/\(∀b,b<w0.heap.size->mZ ρ wl b)/\∀b,b<w0.heap.size->w.heap[b]?=w0.heap[b]?
theorem alc{w:Aa4}(hM:ri w){x:Array Value}(hx:x.size<=1)(cs:List Frame):Walk Tryz.prog true (Zf w cs) (allM w) (aO (Frame.enter Tryz.prog 21 x .normal) cs) w:=by
 letI:=iQ
 rw[zQ Tryz.func21 Zr x .normal];have hs:(x++Aeo (Tryz.f21.ntmps - x.size) undef).size=349:=by
  rw[Array.size_append,Array.size_replicate,show Tryz.f21.ntmps=349 from rfl];omega
 generalize (x++Aeo (Tryz.f21.ntmps - x.size) undef)=t' at hs |-
 obtain⟨u,hu⟩:=Mb r0 t';obtain⟨y,rfl,_⟩:=VX u (hu.1.trans hs);have hW:bV C0 r0 (mW w) w:=am5 hM;refine pieces (S:=⟨.seq Jf Qz,[],[],cs,.normal⟩) (cs:=[ui,uj,uk,sx,sA,sB,sC,sD,sE,sF,si,sj,sk,sn,so,sr,ss,su]) aat (a:=⟨(lit y).toArray,[cQ]⟩) rfl rfl
  (QL:=fun e bB aa=>e=.normal/\∃T,FC (aZ (mW w) T) bB aa) (fun e a w h=>.inl h.1) (fun T=>?_) hW ⟨rfl,rfl⟩ (zF hW) (fun b hb=>kA.1 hb) am6 hu ?_
 ·exact FN (jQ:=[]) (Q:=fun e bB aa=>e=.normal/\∃T,FC (aZ (mW w) T) bB aa) (fun a w hf=>⟨rfl,T,hf⟩) _ (akZ (Qs T) (ak4 _ y))
 ·rintro e bB aa bS aE eV aA D' ⟨rfl,T,hF⟩ bY Nb hf gN hg hn ht hD
  refine⟨fun _=>?_,fun h=>by cases h⟩
  obtain⟨gE,gp,gb,gk,gt,gl,gc,g3,dk,n22,c22,bZ,n25,b6,er,n28,ew,vA,hex,j4,gO,mE⟩:=hF;have hd:=vA.1;rw[hd] at hD;have hD:=xf hD;subst hD;have il:eV.size=349:=ht.1.symm.trans vA.2.1;obtain⟨id,e18⟩:=al6;refine fF ?_
  rw[e18];refine gH ?_
  rw[n18];obtain⟨o,ho,ab,aen,gx,k8⟩:=ai2;have h1:bB.tmps.getD 1 undef=.pointer (some ⟨gE,0,none⟩):=cJ (vA.2.2 (1,_) (by simp))
  refine Yb GJ (rest:=[1,2,3,4,5,6]) ho (cf gx) rfl k8 ht Nb (ade hg) hf gN (QL:=fun v aq=>v=Ma gp gb gt/\∃T,aq=aZ aa T) (fun T=>⟨_,_,(by rw[Qd];exact ahf ab h1 (w:=aZ aa T) hex.bE),rfl,T,rfl⟩) ?_
  rintro v v' apo bH pU ep ⟨rfl,T2,rfl⟩ hv aef rQ nD ae1;rw[aen];obtain⟨o1,Ht,afj,aoa,aeC⟩:=Wk;have Hk:(ay eV (some 197) v').getD 197 undef=v':=ib (by omega)
  refine kM rfl (fun ky=>alQ Ht (cf aeC) (call38 afj Hk ky)) (.stop fun ky hk=>?_)
  refine⟨ay eV (some 197) v',v',bB,aZ aa T2,bH,T2,gE,gp,gb,gk,gt,gl,gc,g3,dk,n22,c22,bZ,n25,b6,er,n28,ew,rfl,by simp[ay,il],vA,?_,j4,gO,mE,⟨eV,ht.mono rQ.le,fun i hi=>bL (Aei hi)⟩,hv,aef.keep nD hk,rQ.le _ _ hg,hn,fun b hb=>?_,fun b hb=>?_⟩
  ·exact⟨⟨hex.ex.p,hex.ex.b,hex.ex.k,hex.ex.t,hex.ex.l,hex.ex.hp,hex.ex.hb,hex.ex.hk,hex.ex.ht,hex.ex.hl⟩,hex.bE,hex.bc,hex.b3,⟨hex.below.os,rfl,hex.below.output,hex.below.size,hex.below.block⟩,hex.lE⟩
  ·exact CY rQ (Nat.lt_of_lt_of_le hb bY.fQ) (CY bY hb (Qr b))
  ·have m1:bS.has b:=aaa.tx bY.R bY.O (kA.2 hb)
   exact((hk.kept b (aaa.tx rQ.R rQ.O m1)).trans (rQ.im b m1 (CY bY hb (Qr b)))).trans (bY.im b (kA.2 hb) (Qr b))
end Go.Jn
namespace Go.Jn
open Go Go.Proofs Go.Sim Go.Conc Go.Tw
set_option maxRecDepth 100000
theorem aau:∀c∈ [we,wh,wj,wm,sw,wu],C0.clean c:=by
 have h: [we,wh,wj,wm,sw,wu].all (cr Tryz.prog G0)=true:=by decide+kernel
 intro c hc;exact Ajm.1 h c hc
theorem aav:C0.clean wD:=by
 have h:cr Tryz.prog G0 wD=true:=by decide+kernel
 exact h
theorem aka:Tryz.f21.results=#[.tmp 0]:=rfl
theorem ab9:yH aW=[0,1]:=by decide+kernel
theorem acG(t:Array Value)(v:Value)(k:List Item):Frame.finish ⟨21,t,.inRegion mN [1,2,3,4,5,6]::k,[],.run,.normal,none⟩ v=⟨21,ay t (some 198) v,.inRegion mN [2,3,4,5,6]::k,[],.run,.normal,none⟩:=by
 obtain⟨o,ho,_,hd,_⟩:=Wk;simp[Frame.finish,ho,hd,ay]
theorem ag6{σ:Ren}{wl w:Aa4}{NR:Nat}(hW:bV C0 σ wl w)(hr:∀a q,σ a q->q<NR)(hn:bJ wl.heap){n:Nat}{zs:List Int}{ov:Value}(ho:w.ownsRow NR 3 1 ov n (zs.map (Value.int .i64))):
 ∃(bM:Ren) (fR:Aa4) (ol:Value),bV C0 bM fR w/\σ.le bM/\(∀a p,bM a p->σ a p\/(wl.heap.size<=a/\NR<=p))/\ah bM ol ov/\fR.ownsRow wl.heap.size 3 1 ol n (zs.map (Value.int .i64))/\Ahz wl.heap.size wl fR/\bJ fR.heap:=by
 rcases ho.2 with⟨rfl,h0⟩ | ⟨g,cap,cur,rfl,nC,hg,dX,kZ,fg,lT⟩
 ·exact⟨σ,wl,.slice none 0 0,hW,σ.le_refl,fun a p h=>.inl h,.sliceNone 0 0,⟨ho.1,.inl ⟨rfl,h0⟩⟩,Ai4 _ _,hn⟩
 ·obtain⟨u,hu,D9⟩:=Pt (ext σ wl.heap.size g) cur n zs lT
  have jw:=uP (o:=.cells u 3) hW hg (fun a ha=>by have:=hr a g ha;omega) (.cells 3 hu (.inl rfl))
  refine⟨_,_,.slice (some ⟨wl.heap.size,0,none⟩) n cap,jw,xj _ _ _,?_,.slice _ _ ⟨.inr ⟨rfl,rfl⟩,rfl,rfl⟩,⟨ho.1,.inr ⟨_,cap,u,rfl,Ac2 _,jO,dX,kZ,hu.1.trans fg,D9⟩⟩,
   (Ai4 _ _).alloc (Ac2 _) _,bJ.push hn (o:=.cells u 3) (fun h=>h)⟩
  rintro a p (ha| ⟨rfl,rfl⟩)
  ·exact .inl ha
  ·exact .inr ⟨Ac2 _,nC⟩
theorem acr{w0 w:Aa4}{gE gp gb gk gt gl gc g3:Nat}(h:jo w0 w gE gp gb gk gt gl gc g3)(T:Tape):jo (aZ w0 T) (aZ w T) gE gp gb gk gt gl gc g3:=
 ⟨⟨h.ex.p,h.ex.b,h.ex.k,h.ex.t,h.ex.l,h.ex.hp,h.ex.hb,h.ex.hk,h.ex.ht,h.ex.hl⟩,h.bE,h.bc,h.b3,⟨h.below.os,rfl,h.below.output,h.below.size,h.below.block⟩,h.lE⟩
theorem acC{w0 w:Aa4}{a:Act}(h:FD w0 a w)(T:Tape):FD (aZ w0 T) a (aZ w T):=by
 obtain⟨gE,gp,gb,gk,gt,gl,gc,g3,dk,n22,c22,bZ,n25,b6,er,n28,ew,iW,n31,iZ,hs,hx,h1,h2,h3,h4⟩:=h;exact⟨gE,gp,gb,gk,gt,gl,gc,g3,dk,n22,c22,bZ,n25,b6,er,n28,ew,iW,n31,iZ,hs,acr hx T,h1,h2,h3,h4⟩
theorem ald{w0 w2 wl:Aa4}{fr:Frame}{cs:List Frame}{t t0:Array Value}{a:Act}{ρ:Ren}{T:Tape}{ov:Value}{NR:Nat}{gE gp gb gk gt gl gc g3:Nat}{dk bZ er:Option Aay}{n22 c22 n25 b6 n28 ew:Nat}(il:t.size=349)
 (hs:Sl [(0,.bool false),(1,.pointer (some ⟨gE,0,none⟩)),(2,.slice (some ⟨gc,0,none⟩) 3 3),(3,.slice (some ⟨g3,0,none⟩) 3 3),(5,.int .i64 0),(7,.int .i64 0),(9,.int .i64 0),(11,.int .i64 0),(13,.int .i64 0),(20,.int .i64 1),(21,.int .i64 0),(22,.slice dk n22 c22),(23,.slice none 0 0),(24,.int .i64 8),(25,.slice bZ n25 b6),(26,.int .i64 2),(27,.bool true),(28,.slice er n28 ew),(29,.int .i64 14),(30,.bool true)] a)
 (hx:jo (aZ (mW w0) T) wl gE gp gb gk gt gl gc g3)(j4:Row wl wl.heap.size 1 cH (.slice dk n22 c22) [1,1])(gO:Row wl wl.heap.size 2 Cut.R (.slice bZ n25 b6) dQ)(mE:Row wl wl.heap.size 2 Cut.R (.slice er n28 ew) dQ)
 (vB:aP ρ a.tmps t0)(Ad:∀i,i≠197->t[i]?=t0[i]?)(hW:bV C0 ρ wl w2)(hg:ρ 0 0)(hn:bJ wl.heap)(lP:∀b,b<w0.heap.size->mZ ρ wl b)(Hy:∀a q,ρ a q->q<NR)(De:w0.heap.size<=NR)(hN2:NR<=w2.heap.size)
 (aG:w2.ownsRow NR 3 1 ov 2 (([0,1]:List Int).map (Value.int .i64))):
 Walk Tryz.prog true (fun _ g w=>g=aO (fr.finish (.bool true)) cs/\∀b,b<w0.heap.size->w.heap[b]?=w2.heap[b]?) (allM w2) (rg 21 (ay t (some 198) (.tuple #[ov,.int .i64 0])) (.inRegion mN [2,3,4,5,6]:: [.code Qz]) [] .normal (fr::cs)) w2:=by
 letI:=iQ
 refine am4 il fun t7 N6 e31 PX hk=>?_
 obtain⟨bM,fR,ol,jw,hle,hinv,hv,lR,qj,NI⟩:=ag6 hW Hy hn aG;obtain⟨iW,n31,iZ,rfl⟩:=j8 lR;have pf:t0.size=349:=vB.1.symm.trans hs.2.1;obtain⟨u7,Vl,hku⟩:=aj1 (vB.mono hle) (N6.trans pf.symm) (fun i=> [197,198,196,199,200,31,15].contains i) (fun i hi=>by
  have hi:¬i∈ [197,198,196,199,200,31,15]:=by simpa using hi
  simp only[Aef,Aeg,or_false,not_or] at hi;obtain⟨a1,a2,a3,a4,a5,a6,a7⟩:=hi;exact(hk i a2 a3 a4 a5 a6 a7).trans (Ad i a1))
 have ZY:=EM (EM Vl hv e31) (.int .i64 0) PX;have tN:((u7.setIfInBounds 31 (.slice iW n31 iZ)).setIfInBounds 15 (.int .i64 0)).size=349:=ZY.1.trans N6;have aoL:u7.size=349:=Vl.1.trans N6;have yx:((u7.setIfInBounds 31 (.slice iW n31 iZ)).setIfInBounds 15 (.int .i64 0))[31]?=some (.slice iW n31 iZ):=(bL (by omega)).trans (eM (by omega))
 have OA:((u7.setIfInBounds 31 (.slice iW n31 iZ)).setIfInBounds 15 (.int .i64 0))[15]?=some (.int .i64 0):=eM (by rw[Array.size_setIfInBounds];omega)
 have kk:∀i,[197,198,196,199,200,31,15].contains i=false->((u7.setIfInBounds 31 (.slice iW n31 iZ)).setIfInBounds 15 (.int .i64 0))[i]?=a.tmps[i]?:=fun i hi=>by
  have hj:¬i∈ [197,198,196,199,200,31,15]:=by simpa using hi
  simp only[Aef,Aeg,or_false,not_or] at hj;exact((bL (Aei hj.2.2.2.2.2.2)).trans (bL (Aei hj.2.2.2.2.2.1))).trans (hku i hi)
 revert ZY tN yx OA kk
 generalize ((u7.setIfInBounds 31 (.slice iW n31 iZ)).setIfInBounds 15 (.int .i64 0))=u8;intro ZY tN yx OA kk;have hFD:FD (aZ (mW w0) T) ⟨u8,[cQ]⟩ fR:=by
  refine⟨gE,gp,gb,gk,gt,gl,gc,g3,dk,n22,c22,bZ,n25,b6,er,n28,ew,iW,n31,iZ,⟨rfl,tN,fun p hp=>?_⟩,hx.grown qj,ft j4 qj,ft gO qj,ft mE qj,Ih (l:=[0,1]) lR⟩
  have old:∀(i:Nat) (v:Value),[197,198,196,199,200,31,15].contains i=false->a.tmps[i]?=some v->u8[i]?=some v:=fun i v hc h=>(kk i hc).trans h
  simp only[Aef,Aeg,or_false] at hp;rcases hp with rfl|rfl|rfl|rfl|rfl|rfl|rfl|rfl|rfl|rfl|rfl|rfl|rfl|rfl|rfl|rfl|rfl|rfl|rfl|rfl|rfl|rfl
  all_goals first
   |exact yx
   |exact OA
   |exact old _ _ rfl (hs.2.2 (_,_) (by simp))
 have Uk:∀b,b<w0.heap.size->mZ bM fR b:=fun b hb c hc=>by
  rcases hinv c b hc with h| ⟨_,h⟩
  ·obtain⟨o,h1,h2⟩:=lP b hb c h
   exact⟨o,(qj.block c (Aaf.1 h1).1).trans h1,h2⟩
  ·omega
 refine pieces (S:=⟨wD,[],[],fr::cs,.normal⟩) (cs:=[we,wh,wj,wm,sw,wu]) aau (a:=⟨u8,[cQ]⟩) rfl rfl
  (QL:=fun e bB aa=>e=.normal/\FE bB aa) (fun e a w h=>.inl h.1) (fun T'=>?_) jw (hle _ _ hg) (zF jw) (fun b hb=>kA.1 hb) NI ZY ?_
 ·exact FN (jQ:=[]) (Q:=fun e bB aa=>e=.normal/\FE bB aa) (fun a w hf=>⟨rfl,hf⟩) _ (ak3 (w0:=aZ (mW w0) T') (Qs T') (acC hFD T'))
 ·rintro e bB aa bS aE eV aA D' ⟨rfl,Yk,aiJ,ZX,kP,n35,jd,vA,afq,afs⟩ bY Nb hf gN dB qx ym hD
  refine⟨fun _=>?_,fun h=>by cases h⟩
  have hd:=vA.1;rw[hd] at hD;have hD:=xf hD;subst hD;refine piece (S:=⟨.skip,[],[],fr::cs,.normal⟩) (c:=wD) aav (a:=bB) rfl hd (QL:=fun e a _=>e=.ret/\a.defers=[cQ]/\a.tmps[0]?=some (.bool true)) (fun T'=>?_) Nb dB hf gN qx ym ?_
  ·exact Code.wp_mono (fun e a w h=>⟨.inr h.1,h.1,h.2.1,h.2.2.2.1⟩) (akL vA (w:=aZ aa T') afq afs)
  ·rintro e anB ky pU BR Jl apq ⟨rfl,fJ,h0⟩ rQ an9 xM UN vi lQ ht3
   refine⟨fun h=>(by cases h),fun _ sH D' hD=>?_⟩
   rw[fJ] at hD;have hD:=xf hD;subst hD;obtain⟨v',Ea,vD⟩:=IZ ht3 h0;cases vD;have e0:Jl.getD 0 undef=.bool true:=cJ Ea;refine kM rfl (fun Qx=>?_) (.stop fun Qx hk=>⟨rfl,fun b hb=>?_⟩)
   ·have e:unwind Tryz.prog true ⟨21,Jl,sH,[],.returning,.normal,none⟩ (fr::cs) none Qx=.go (aO (fr.finish (.bool true)) cs) Qx #[]:=by
     unfold unwind;simp only[Tryz.func21,results1 aka,ud,GStep.after,doReturn,e0];rfl
    exact e
   ·have ak:b<w2.heap.size:=by omega
    have m1:bS.has b:=aaa.tx bY.R bY.O (kA.2 ak);have m2:pU.has b:=aaa.tx rQ.R rQ.O m1;have f1:=CY bY ak (Uk b hb);exact((hk.kept b m2).trans (rQ.im b m1 f1)).trans (bY.im b (kA.2 ak) (Uk b hb))
theorem alI{w wl:Aa4}{ρ:Ren}{gp gb gk gt gl base:Nat}{arg:Value}(hm:gI wl)(hx:wL wl base gp gb gk gt gl)(ha:ah ρ (Ma gp gb gt) arg)(hW:bV C0 ρ wl w)(hg:ρ 0 0):
 J5 aW (vQ ρ (gd ρ wl w)) (qa ρ wl w) (.slice (some ⟨gp,0,none⟩) 3 3) (.slice (some ⟨gb,0,none⟩) 2 2) (.slice (some ⟨gt,0,none⟩) 1 1) wl.heap.size arg w:=by
 letI:=iQ
 obtain⟨a',b',c',d',rfl,r1,r2,r3,r4⟩:=WE ha;obtain⟨ai,p1,p2,p3⟩:=ac4 hW (acm (S:=gd ρ wl w) hx) ⟨_,r2⟩ ⟨_,r3⟩ ⟨_,r4⟩;have G3:gd ρ wl w 0:=WK hW (p:=⟨0,0,none⟩) (hm.cell 0) hg;refine⟨ac6 hW,⟨hg,G3⟩,ac7,fun a q h=>?_,Nat.le_of_eq Tt.symm,ai,?_⟩
 ·obtain⟨o1,k1,b1,c,c',e,fr,aV,u,h1,h2,h3,h4,h5,h6,rfl⟩:=Ml h.2
  exact⟨_,k1,rfl,Ac2 _⟩
 ·refine .agg rfl fun i h1 h2=>?_
  match i,h1,h2 with
  |0,_,_=>exact Pv.rel r1 trivial
  |1,_,_=>exact Pv.rel r2 p1
  |2,_,_=>exact Pv.rel r3 p2
  |3,_,_=>exact Pv.rel r4 p3
  |i+4,h1,_=>exact absurd h1 (by simp)
theorem ak6:Cq:=by
 letI:=iQ
 intro gs w t q x fr cs sl hx hM hF;obtain⟨N1,TG,M1,g1,w1,PQ,t1,q1,r1,z1,⟨⟨tm,arg,a,wl,ρ,T,gE,gp,gb,gk,gt,gl,gc,g3,dk,n22,c22,bZ,n25,b6,er,n28,ew,rfl,il,hs,hex,j4,gO,mE,⟨t0,vB,Ad⟩,hv,hW,hg,hn,lP,aeM⟩,om⟩,lN⟩:=
  Cw (FM (alc hM hx (fr::cs)) (Gr w)) gs sl t q hF (fun b hb=>kA.1 hb)
 have hm:gI wl:=(Qs (w:=w) T).below hex.below (by simp[mW,aZ])
 obtain⟨N2,GU,w2,PR,t2,q2,g2,az,M2,r2,GY,⟨ov,rfl,aG,Uw,aI⟩,nH,mB,Mu⟩:=aiP (alI hm hex.ex hv hW hg) CS lN PQ;have cA:ga (ints az)=[0,1]:=by rw[aly nH mB,ab9];rfl
 rw[cA] at aG;rw[acG] at GY;have jw:=ta hW aI fun a b hab=>Uw b (hW.dc a b hab)
 obtain⟨N3,Mo,M3,g3',w3,PS,t3,q3,r3,z3,⟨⟨rfl,aeN⟩,hB3⟩,My⟩:=
  Cw (FM (ald (w0:=w) (fr:=fr) (cs:=cs) il hs hex j4 gO mE vB Ad jw hg hn lP hW.dc om.size aI aG) Mu) GU PR t2 q2 GY (fun b hb=>kA.1 hb)
 exact⟨N1+(N2+N3),Mo,w3,PS,t3,q3,uc _ _ _ r1 (uc _ _ _ r2 r3),My,rn om hB3,fun b hb=>(aeN b hb).trans ((Uw b (Nat.lt_of_lt_of_le hb om.size)).trans (aeM b hb))⟩
end Go.Jn
namespace Go.Proofs.YtfifdjajcogccaaGreatDoor
theorem mouldLeast_holds:Rows.MouldLeastCardSaid:=Go.Jn.agE (Go.Jn.agW Go.Jn.ak6)
end Go.Proofs.YtfifdjajcogccaaGreatDoor
