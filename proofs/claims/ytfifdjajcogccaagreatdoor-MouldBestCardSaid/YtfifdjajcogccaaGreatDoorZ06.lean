import Derived.Test.YtfifdjajcogccaaGreatDoorZ05
set_option linter.all false
set_option maxHeartbeats 0
set_option maxRecDepth 100000
open Go.Proofs.Tryz renaming prog -> ϋ
open Bool renaming true -> D
open Option renaming some -> J
namespace Go.Jn
open Go Go.Proofs
open YtfifdjajcogccaaGreatDoor
def arN:(Rows.mouldBestRow.wf (OpenSpec.ofChange Rows.mouldBestSpec))=D:=by kernel_rfl
def asn:(Tryz.f4.params.all (ϋ.readableRec ·))=D:=by kernel_rfl
def asq:(namedTie ϋ Rows.mouldBestRow.named Rows.mouldBestSpec.vars)=D:=by kernel_rfl
def asu:((Rows.mouldBestRow.stops==[]))=D:=by kernel_rfl
def asE:((Rows.mouldBestRow.knobs==[]))=D:=by kernel_rfl
def asH:((Rows.mouldBestRow.inPlace==ϋ.inPlace 4))=D:=by kernel_rfl
def arO:((Rows.mouldBestRow.unfollowed==ϋ.unfollowed 4))=D:=by kernel_rfl
def arP:((Rows.mouldBestRow.recurses==ϋ.recurses 4))=D:=by kernel_rfl
def arQ:((Rows.mouldBestRow.named==ϋ.varsNamed 4))=D:=by kernel_rfl
def arR:((Rows.mouldBestRow.maps==(Tryz.f4.params.toList++Rows.mouldBestSpec.plain.varTypes ϋ).any (ϋ.mapsRec ·)))=D:=by kernel_rfl
def arS:((Rows.mouldBestRow.ifaces==(Tryz.f4.params.toList++Rows.mouldBestSpec.plain.varTypes ϋ).any (ϋ.ifacesRec ·)))=D:=by kernel_rfl
def arT:((Rows.mouldBestRow.mapsOut==ϋ.mapsAmong Tryz.f4.resultTypes.toList))=D:=by kernel_rfl
def arU:((Rows.mouldBestRow.loops==(Tryz.f4.params.toList++Rows.mouldBestSpec.plain.varTypes ϋ).any (ϋ.loopsFrom ·)))=D:=by kernel_rfl
def arV:((Rows.mouldBestRow.wideKeys==(Tryz.f4.params.toList++Rows.mouldBestSpec.plain.varTypes ϋ++Tryz.f4.resultTypes.toList).any (ϋ.wideKeysFrom ·)))=D:=by kernel_rfl
def arX:(Rows.mouldBestSpec.vars.all (ϋ.varReadable ·))=D:=by kernel_rfl
def ar0:(Tryz.f4.resultTypes.all (λt=>ϋ.readableRec t && decide (t<ϋ.types.size)))=D:=by kernel_rfl
def ar1:((Rows.mouldBestRow.ifacesOut==Tryz.f4.resultTypes.toList.any (ϋ.ifacesRec ·)))=D:=by kernel_rfl
def ar6:((Rows.mouldBestRow.loopsOut==Tryz.f4.resultTypes.toList.any (ϋ.loopsFrom ·)))=D:=by kernel_rfl
def ar9:((Rows.mouldBestRow.plainKeys==ϋ.plainKeys))=D:=by kernel_rfl
def asb:(Rows.mouldBestRow.shortTexts.isNone)=D:=by kernel_rfl
def asd:((Rows.mouldBestRow.lifted==ϋ.liftsFinal))=D:=by kernel_rfl
def asf:((ϋ.make==J Rows.mouldBestRow.make))=D:=by kernel_rfl
def asl:((Rows.mouldBestRow.pinned==Rows.mouldBestRow.pinnedBy))=D:=by kernel_rfl
def aso:((Rows.mouldBestRow.veiled==(Tryz.f4.params.toList++Rows.mouldBestSpec.plain.varTypes ϋ++Tryz.f4.resultTypes.toList).any (ϋ.veiledRec ·)))=D:=by kernel_rfl
def asp:(Rows.mouldBestRow.veiledFits ϋ Tryz.f4.params.toList (Tryz.f4.params.toList++Rows.mouldBestSpec.plain.varTypes ϋ++Tryz.f4.resultTypes.toList))=D:=by kernel_rfl
end Go.Jn
