import Derived.Test.YtfifdjajcogccaaGreatDoorZ04
set_option linter.all false
set_option maxHeartbeats 64000000
set_option maxRecDepth 100000
open Go.Proofs.Tryz renaming prog -> ό
open Bool renaming true -> θ
open Option renaming some -> φ
namespace Go.Jn
open Go Go.Proofs
open YtfifdjajcogccaaGreatDoor
def aiI:(Rows.mouldCutsRow.wf (OpenSpec.ofChange Rows.mouldCutsSpec))=θ:=by kernel_rfl
def alv:(Tryz.f14.params.all (ό.readableRec ·))=θ:=by kernel_rfl
def al8:(namedTie ό Rows.mouldCutsRow.named Rows.mouldCutsSpec.vars)=θ:=by kernel_rfl
def ami:((Rows.mouldCutsRow.stops==[]))=θ:=by kernel_rfl
def amj:((Rows.mouldCutsRow.knobs==[]))=θ:=by kernel_rfl
def amz:((Rows.mouldCutsRow.inPlace==ό.inPlace 14))=θ:=by kernel_rfl
def ai0:((Rows.mouldCutsRow.unfollowed==ό.unfollowed 14))=θ:=by kernel_rfl
def ai8:((Rows.mouldCutsRow.recurses==ό.recurses 14))=θ:=by kernel_rfl
def ajJ:((Rows.mouldCutsRow.named==ό.varsNamed 14))=θ:=by kernel_rfl
def ajK:((Rows.mouldCutsRow.maps==(Tryz.f14.params.toList++Rows.mouldCutsSpec.plain.varTypes ό).any (ό.mapsRec ·)))=θ:=by kernel_rfl
def aj6:((Rows.mouldCutsRow.ifaces==(Tryz.f14.params.toList++Rows.mouldCutsSpec.plain.varTypes ό).any (ό.ifacesRec ·)))=θ:=by kernel_rfl
def akM:((Rows.mouldCutsRow.mapsOut==ό.mapsAmong Tryz.f14.resultTypes.toList))=θ:=by kernel_rfl
def akN:((Rows.mouldCutsRow.loops==(Tryz.f14.params.toList++Rows.mouldCutsSpec.plain.varTypes ό).any (ό.loopsFrom ·)))=θ:=by kernel_rfl
def akO:((Rows.mouldCutsRow.wideKeys==(Tryz.f14.params.toList++Rows.mouldCutsSpec.plain.varTypes ό++Tryz.f14.resultTypes.toList).any (ό.wideKeysFrom ·)))=θ:=by kernel_rfl
def akQ:(Rows.mouldCutsSpec.vars.all (ό.varReadable ·))=θ:=by kernel_rfl
def akR:(Tryz.f14.resultTypes.all (λt=>ό.readableRec t && decide (t<ό.types.size)))=θ:=by kernel_rfl
def akS:((Rows.mouldCutsRow.ifacesOut==Tryz.f14.resultTypes.toList.any (ό.ifacesRec ·)))=θ:=by kernel_rfl
def akT:((Rows.mouldCutsRow.loopsOut==Tryz.f14.resultTypes.toList.any (ό.loopsFrom ·)))=θ:=by kernel_rfl
def akU:((Rows.mouldCutsRow.plainKeys==ό.plainKeys))=θ:=by kernel_rfl
def akV:(Rows.mouldCutsRow.shortTexts.isNone)=θ:=by kernel_rfl
def akW:((Rows.mouldCutsRow.lifted==ό.liftsFinal))=θ:=by kernel_rfl
def akX:((ό.make==φ Rows.mouldCutsRow.make))=θ:=by kernel_rfl
def akY:((Rows.mouldCutsRow.pinned==Rows.mouldCutsRow.pinnedBy))=θ:=by kernel_rfl
def alF:((Rows.mouldCutsRow.veiled==(Tryz.f14.params.toList++Rows.mouldCutsSpec.plain.varTypes ό++Tryz.f14.resultTypes.toList).any (ό.veiledRec ·)))=θ:=by kernel_rfl
def alG:(Rows.mouldCutsRow.veiledFits ό Tryz.f14.params.toList (Tryz.f14.params.toList++Rows.mouldCutsSpec.plain.varTypes ό++Tryz.f14.resultTypes.toList))=θ:=by kernel_rfl
end Go.Jn
