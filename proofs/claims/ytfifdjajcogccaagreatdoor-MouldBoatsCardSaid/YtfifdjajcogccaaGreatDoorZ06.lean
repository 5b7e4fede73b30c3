import Derived.Test.YtfifdjajcogccaaGreatDoorZ05
set_option linter.all false
set_option maxHeartbeats 64000000
set_option maxRecDepth 100000
open Go.Proofs.Tryz renaming prog -> ό
open Bool renaming true -> θ
open Option renaming some -> φ
namespace Go.Jn
open Go Go.Proofs
open YtfifdjajcogccaaGreatDoor
def ao7:(Rows.mouldBoatsRow.wf (OpenSpec.ofChange Rows.mouldBoatsSpec))=θ:=by kernel_rfl
def apw:(Tryz.f3.params.all (ό.readableRec ·))=θ:=by kernel_rfl
def apz:(namedTie ό Rows.mouldBoatsRow.named Rows.mouldBoatsSpec.vars)=θ:=by kernel_rfl
def apA:((Rows.mouldBoatsRow.stops==[]))=θ:=by kernel_rfl
def apB:((Rows.mouldBoatsRow.knobs==[]))=θ:=by kernel_rfl
def apC:((Rows.mouldBoatsRow.inPlace==ό.inPlace 3))=θ:=by kernel_rfl
def ao8:((Rows.mouldBoatsRow.unfollowed==ό.unfollowed 3))=θ:=by kernel_rfl
def ao9:((Rows.mouldBoatsRow.recurses==ό.recurses 3))=θ:=by kernel_rfl
def apa:((Rows.mouldBoatsRow.named==ό.varsNamed 3))=θ:=by kernel_rfl
def apb:((Rows.mouldBoatsRow.maps==(Tryz.f3.params.toList++Rows.mouldBoatsSpec.plain.varTypes ό).any (ό.mapsRec ·)))=θ:=by kernel_rfl
def apc:((Rows.mouldBoatsRow.ifaces==(Tryz.f3.params.toList++Rows.mouldBoatsSpec.plain.varTypes ό).any (ό.ifacesRec ·)))=θ:=by kernel_rfl
def apd:((Rows.mouldBoatsRow.mapsOut==ό.mapsAmong Tryz.f3.resultTypes.toList))=θ:=by kernel_rfl
def apf:((Rows.mouldBoatsRow.loops==(Tryz.f3.params.toList++Rows.mouldBoatsSpec.plain.varTypes ό).any (ό.loopsFrom ·)))=θ:=by kernel_rfl
def apg:((Rows.mouldBoatsRow.wideKeys==(Tryz.f3.params.toList++Rows.mouldBoatsSpec.plain.varTypes ό++Tryz.f3.resultTypes.toList).any (ό.wideKeysFrom ·)))=θ:=by kernel_rfl
def aph:(Rows.mouldBoatsSpec.vars.all (ό.varReadable ·))=θ:=by kernel_rfl
def apl:(Tryz.f3.resultTypes.all (λt=>ό.readableRec t && decide (t<ό.types.size)))=θ:=by kernel_rfl
def apm:((Rows.mouldBoatsRow.ifacesOut==Tryz.f3.resultTypes.toList.any (ό.ifacesRec ·)))=θ:=by kernel_rfl
def apn:((Rows.mouldBoatsRow.loopsOut==Tryz.f3.resultTypes.toList.any (ό.loopsFrom ·)))=θ:=by kernel_rfl
def apr:((Rows.mouldBoatsRow.plainKeys==ό.plainKeys))=θ:=by kernel_rfl
def aps:(Rows.mouldBoatsRow.shortTexts.isNone)=θ:=by kernel_rfl
def apt:((Rows.mouldBoatsRow.lifted==ό.liftsFinal))=θ:=by kernel_rfl
def apu:((ό.make==φ Rows.mouldBoatsRow.make))=θ:=by kernel_rfl
def apv:((Rows.mouldBoatsRow.pinned==Rows.mouldBoatsRow.pinnedBy))=θ:=by kernel_rfl
def apx:((Rows.mouldBoatsRow.veiled==(Tryz.f3.params.toList++Rows.mouldBoatsSpec.plain.varTypes ό++Tryz.f3.resultTypes.toList).any (ό.veiledRec ·)))=θ:=by kernel_rfl
def apy:(Rows.mouldBoatsRow.veiledFits ό Tryz.f3.params.toList (Tryz.f3.params.toList++Rows.mouldBoatsSpec.plain.varTypes ό++Tryz.f3.resultTypes.toList))=θ:=by kernel_rfl
end Go.Jn
