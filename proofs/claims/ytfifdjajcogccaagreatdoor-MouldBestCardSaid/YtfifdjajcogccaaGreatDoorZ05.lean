import Derived.Test.YtfifdjajcogccaaGreatDoorRows
import Derived.JoinedOf
set_option linter.all false
set_option maxHeartbeats 0
set_option maxRecDepth 100000
open Bool renaming true -> D
namespace Go.Jn
open Go Go.Proofs
open YtfifdjajcogccaaGreatDoor
def fA{a b:Bool}(h:a=D)(k:b=D):(a && b)=D:=by rw[h,k];rfl
def alW:(laidOutB Tryz.prog)=D:=by kernel_rfl
def alX:(mapsRowed Tryz.prog)=D:=by kernel_rfl
def al0:((Tryz.prog.stops==[]))=D:=by kernel_rfl
def al1:((Tryz.prog.stopKnobs==[]))=D:=by kernel_rfl
def alY:(Tryz.prog.stopsHeard)=D:=by kernel_rfl
def alZ:(Tryz.prog.mayEnter)=D:=by kernel_rfl
end Go.Jn
