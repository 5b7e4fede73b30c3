import Derived.Test.YtfifdjajcogccaaGreatDoorZ04
set_option linter.all false
set_option maxHeartbeats 64000000
set_option maxRecDepth 100000
open Go.Proofs.Tryz renaming prog -> ϋ
open Bool renaming true -> θ
open Option renaming some -> φ
namespace Go.Jn
open Go Go.Proofs
open YtfifdjajcogccaaGreatDoor
def apA:(Rows.mouldReachedRow.wf (OpenSpec.ofChange Rows.mouldReachedSpec))=θ:=by kernel_rfl
def apW:(Tryz.f17.params.all (ϋ.readableRec ·))=θ:=by kernel_rfl
def apZ:(namedTie ϋ Rows.mouldReachedRow.named Rows.mouldReachedSpec.vars)=θ:=by kernel_rfl
def ap0:((Rows.mouldReachedRow.stops==[]))=θ:=by kernel_rfl
def ap1:((Rows.mouldReachedRow.knobs==[]))=θ:=by kernel_rfl
def ap2:((Rows.mouldReachedRow.inPlace==ϋ.inPlace 17))=θ:=by kernel_rfl
def apB:((Rows.mouldReachedRow.unfollowed==ϋ.unfollowed 17))=θ:=by kernel_rfl
def apC:((Rows.mouldReachedRow.recurses==ϋ.recurses 17))=θ:=by kernel_rfl
def apE:((Rows.mouldReachedRow.named==ϋ.varsNamed 17))=θ:=by kernel_rfl
def apG:((Rows.mouldReachedRow.maps==(Tryz.f17.params.toList++Rows.mouldReachedSpec.plain.varTypes ϋ).any (ϋ.mapsRec ·)))=θ:=by kernel_rfl
def apI:((Rows.mouldReachedRow.ifaces==(Tryz.f17.params.toList++Rows.mouldReachedSpec.plain.varTypes ϋ).any (ϋ.ifacesRec ·)))=θ:=by kernel_rfl
def apK:((Rows.mouldReachedRow.mapsOut==ϋ.mapsAmong Tryz.f17.resultTypes.toList))=θ:=by kernel_rfl
def apL:((Rows.mouldReachedRow.loops==(Tryz.f17.params.toList++Rows.mouldReachedSpec.plain.varTypes ϋ).any (ϋ.loopsFrom ·)))=θ:=by kernel_rfl
def apM:((Rows.mouldReachedRow.wideKeys==(Tryz.f17.params.toList++Rows.mouldReachedSpec.plain.varTypes ϋ++Tryz.f17.resultTypes.toList).any (ϋ.wideKeysFrom ·)))=θ:=by kernel_rfl
def apN:(Rows.mouldReachedSpec.vars.all (ϋ.varReadable ·))=θ:=by kernel_rfl
def apO:(Tryz.f17.resultTypes.all (λt=>ϋ.readableRec t && decide (t<ϋ.types.size)))=θ:=by kernel_rfl
def apP:((Rows.mouldReachedRow.ifacesOut==Tryz.f17.resultTypes.toList.any (ϋ.ifacesRec ·)))=θ:=by kernel_rfl
def apQ:((Rows.mouldReachedRow.loopsOut==Tryz.f17.resultTypes.toList.any (ϋ.loopsFrom ·)))=θ:=by kernel_rfl
def apR:((Rows.mouldReachedRow.plainKeys==ϋ.plainKeys))=θ:=by kernel_rfl
def apS:(Rows.mouldReachedRow.shortTexts.isNone)=θ:=by kernel_rfl
def apT:((Rows.mouldReachedRow.lifted==ϋ.liftsFinal))=θ:=by kernel_rfl
def apU:((ϋ.make==φ Rows.mouldReachedRow.make))=θ:=by kernel_rfl
def apV:((Rows.mouldReachedRow.pinned==Rows.mouldReachedRow.pinnedBy))=θ:=by kernel_rfl
def apX:((Rows.mouldReachedRow.veiled==(Tryz.f17.params.toList++Rows.mouldReachedSpec.plain.varTypes ϋ++Tryz.f17.resultTypes.toList).any (ϋ.veiledRec ·)))=θ:=by kernel_rfl
def apY:(Rows.mouldReachedRow.veiledFits ϋ Tryz.f17.params.toList (Tryz.f17.params.toList++Rows.mouldReachedSpec.plain.varTypes ϋ++Tryz.f17.resultTypes.toList))=θ:=by kernel_rfl
end Go.Jn
