import Derived.Test.YtfifdjajcogccaaGreatDoorZ04
set_option linter.all false
set_option maxHeartbeats 0
set_option maxRecDepth 100000
open Go.Proofs.Tryz renaming prog -> ϋ
open Bool renaming true -> θ
open Option renaming some -> φ
namespace Go.Jn
open Go Go.Proofs
open YtfifdjajcogccaaGreatDoor
def agU:(Rows.mouldNeededRow.wf (OpenSpec.ofChange Rows.mouldNeededSpec))=θ:=by kernel_rfl
def ahw:(Tryz.f16.params.all (ϋ.readableRec ·))=θ:=by kernel_rfl
def ahF:(namedTie ϋ Rows.mouldNeededRow.named Rows.mouldNeededSpec.vars)=θ:=by kernel_rfl
def ahG:((Rows.mouldNeededRow.stops==[]))=θ:=by kernel_rfl
def ahH:((Rows.mouldNeededRow.knobs==[]))=θ:=by kernel_rfl
def ahI:((Rows.mouldNeededRow.inPlace==ϋ.inPlace 16))=θ:=by kernel_rfl
def agV:((Rows.mouldNeededRow.unfollowed==ϋ.unfollowed 16))=θ:=by kernel_rfl
def agW:((Rows.mouldNeededRow.recurses==ϋ.recurses 16))=θ:=by kernel_rfl
def agX:((Rows.mouldNeededRow.named==ϋ.varsNamed 16))=θ:=by kernel_rfl
def agY:((Rows.mouldNeededRow.maps==(Tryz.f16.params.toList++Rows.mouldNeededSpec.plain.varTypes ϋ).any (ϋ.mapsRec ·)))=θ:=by kernel_rfl
def agZ:((Rows.mouldNeededRow.ifaces==(Tryz.f16.params.toList++Rows.mouldNeededSpec.plain.varTypes ϋ).any (ϋ.ifacesRec ·)))=θ:=by kernel_rfl
def ag0:((Rows.mouldNeededRow.mapsOut==ϋ.mapsAmong Tryz.f16.resultTypes.toList))=θ:=by kernel_rfl
def ag1:((Rows.mouldNeededRow.loops==(Tryz.f16.params.toList++Rows.mouldNeededSpec.plain.varTypes ϋ).any (ϋ.loopsFrom ·)))=θ:=by kernel_rfl
def ag2:((Rows.mouldNeededRow.wideKeys==(Tryz.f16.params.toList++Rows.mouldNeededSpec.plain.varTypes ϋ++Tryz.f16.resultTypes.toList).any (ϋ.wideKeysFrom ·)))=θ:=by kernel_rfl
def ag3:(Rows.mouldNeededSpec.vars.all (ϋ.varReadable ·))=θ:=by kernel_rfl
def ag4:(Tryz.f16.resultTypes.all (λt=>ϋ.readableRec t && decide (t<ϋ.types.size)))=θ:=by kernel_rfl
def ahc:((Rows.mouldNeededRow.ifacesOut==Tryz.f16.resultTypes.toList.any (ϋ.ifacesRec ·)))=θ:=by kernel_rfl
def ahd:((Rows.mouldNeededRow.loopsOut==Tryz.f16.resultTypes.toList.any (ϋ.loopsFrom ·)))=θ:=by kernel_rfl
def ahj:((Rows.mouldNeededRow.plainKeys==ϋ.plainKeys))=θ:=by kernel_rfl
def ahq:(Rows.mouldNeededRow.shortTexts.isNone)=θ:=by kernel_rfl
def ahs:((Rows.mouldNeededRow.lifted==ϋ.liftsFinal))=θ:=by kernel_rfl
def aht:((ϋ.make==φ Rows.mouldNeededRow.make))=θ:=by kernel_rfl
def ahv:((Rows.mouldNeededRow.pinned==Rows.mouldNeededRow.pinnedBy))=θ:=by kernel_rfl
def ahy:((Rows.mouldNeededRow.veiled==(Tryz.f16.params.toList++Rows.mouldNeededSpec.plain.varTypes ϋ++Tryz.f16.resultTypes.toList).any (ϋ.veiledRec ·)))=θ:=by kernel_rfl
def ahA:(Rows.mouldNeededRow.veiledFits ϋ Tryz.f16.params.toList (Tryz.f16.params.toList++Rows.mouldNeededSpec.plain.varTypes ϋ++Tryz.f16.resultTypes.toList))=θ:=by kernel_rfl
end Go.Jn
