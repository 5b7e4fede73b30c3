import Derived.Test.YtfifdjajcogccaaGreatDoorRows
import Derived.JoinedOf
set_option linter.all false
set_option maxHeartbeats 64000000
set_option maxRecDepth 100000
open Bool renaming true -> θ
namespace Go.Jn
open Go Go.Proofs
open YtfifdjajcogccaaGreatDoor
def kT{a b:Bool}(h:a=θ)(k:b=θ):(a && b)=θ:=by rw[h,k];rfl
def aoE:(laidOutB Tryz.prog)=θ:=by kernel_rfl
def aoF:(mapsRowed Tryz.prog)=θ:=by kernel_rfl
def aoI:((Tryz.prog.stops==[]))=θ:=by kernel_rfl
def aoJ:((Tryz.prog.stopKnobs==[]))=θ:=by kernel_rfl
def aoG:(Tryz.prog.stopsHeard)=θ:=by kernel_rfl
def aoH:(Tryz.prog.mayEnter)=θ:=by kernel_rfl
end Go.Jn
