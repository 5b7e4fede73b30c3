import Derived.Test.YtfifdjajcogccaaGreatDoorRows
import Derived.JoinedOf
import Derived.KernelRfl
set_option linter.all false
set_option maxHeartbeats 64000000
set_option maxRecDepth 100000
namespace Go.Jn
open Go Go.Proofs
open YtfifdjajcogccaaGreatDoor
def fc{a b:Bool}(h:a=true)(k:b=true):(a && b)=true:=by rw[h,k];rfl
def aid:(laidOutB Tryz.prog)=true:=by kernel_rfl
def aip:(mapsRowed Tryz.prog)=true:=by kernel_rfl
def aiE:((Tryz.prog.stops==[]))=true:=by kernel_rfl
def aiG:((Tryz.prog.stopKnobs==[]))=true:=by kernel_rfl
def aiu:(Tryz.prog.stopsHeard)=true:=by kernel_rfl
def aiv:(Tryz.prog.mayEnter)=true:=by kernel_rfl
end Go.Jn
