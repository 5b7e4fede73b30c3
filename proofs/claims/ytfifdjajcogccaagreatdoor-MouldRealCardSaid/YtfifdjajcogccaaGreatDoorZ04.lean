import Derived.Test.YtfifdjajcogccaaGreatDoorRows
import Derived.JoinedOf
import Derived.KernelRfl
set_option linter.all false
set_option maxHeartbeats 64000000
set_option maxRecDepth 100000
open Bool renaming true -> θ
namespace Go.Jn
open Go Go.Proofs
open YtfifdjajcogccaaGreatDoor
def fc{a b:Bool}(h:a=θ)(k:b=θ):(a && b)=θ:=by rw[h,k];rfl
def aid:(laidOutB Tryz.prog)=θ:=by kernel_rfl
def aip:(mapsRowed Tryz.prog)=θ:=by kernel_rfl
def aiE:((Tryz.prog.stops==[]))=θ:=by kernel_rfl
def aiG:((Tryz.prog.stopKnobs==[]))=θ:=by kernel_rfl
def aiu:(Tryz.prog.stopsHeard)=θ:=by kernel_rfl
def aiv:(Tryz.prog.mayEnter)=θ:=by kernel_rfl
end Go.Jn
