import Derived.Test.YtfifdjajcogccaaGreatDoorRows
import Derived.JoinedOf
set_option linter.all false
set_option maxHeartbeats 0
set_option maxRecDepth 100000
open Bool renaming true -> θ
namespace Go.Jn
open Go Go.Proofs
open YtfifdjajcogccaaGreatDoor
def fA{a b:Bool}(h:a=θ)(k:b=θ):(a && b)=θ:=by rw[h,k];rfl
def alW:(laidOutB Tryz.prog)=θ:=by kernel_rfl
def alX:(mapsRowed Tryz.prog)=θ:=by kernel_rfl
def al0:((Tryz.prog.stops==[]))=θ:=by kernel_rfl
def al1:((Tryz.prog.stopKnobs==[]))=θ:=by kernel_rfl
def alY:(Tryz.prog.stopsHeard)=θ:=by kernel_rfl
def alZ:(Tryz.prog.mayEnter)=θ:=by kernel_rfl
end Go.Jn
