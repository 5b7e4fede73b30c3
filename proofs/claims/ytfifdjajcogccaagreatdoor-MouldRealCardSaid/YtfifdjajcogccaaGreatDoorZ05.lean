import Derived.Test.YtfifdjajcogccaaGreatDoorZ04
set_option linter.all false
set_option maxHeartbeats 64000000
set_option maxRecDepth 100000
open Go.Proofs.Tryz renaming prog -> ϋ
open Bool renaming true -> θ
open Option renaming some -> φ
namespace Go.Jn
open Go Go.Proofs
open YtfifdjajcogccaaGreatDoor
def aoi:(Rows.mouldRealRow.wf (OpenSpec.ofChange Rows.mouldRealSpec))=θ:=by kernel_rfl
def ao0:(Tryz.f15.params.all (ϋ.readableRec ·))=θ:=by kernel_rfl
def ao3:(namedTie ϋ Rows.mouldRealRow.named Rows.mouldRealSpec.vars)=θ:=by kernel_rfl
def ao4:((Rows.mouldRealRow.stops==[]))=θ:=by kernel_rfl
def ao5:((Rows.mouldRealRow.knobs==[]))=θ:=by kernel_rfl
def ao6:((Rows.mouldRealRow.inPlace==ϋ.inPlace 15))=θ:=by kernel_rfl
def aok:((Rows.mouldRealRow.unfollowed==ϋ.unfollowed 15))=θ:=by kernel_rfl
def aom:((Rows.mouldRealRow.recurses==ϋ.recurses 15))=θ:=by kernel_rfl
def aoq:((Rows.mouldRealRow.named==ϋ.varsNamed 15))=θ:=by kernel_rfl
def aos:((Rows.mouldRealRow.maps==(Tryz.f15.params.toList++Rows.mouldRealSpec.plain.varTypes ϋ).any (ϋ.mapsRec ·)))=θ:=by kernel_rfl
def aou:((Rows.mouldRealRow.ifaces==(Tryz.f15.params.toList++Rows.mouldRealSpec.plain.varTypes ϋ).any (ϋ.ifacesRec ·)))=θ:=by kernel_rfl
def aoG:((Rows.mouldRealRow.mapsOut==ϋ.mapsAmong Tryz.f15.resultTypes.toList))=θ:=by kernel_rfl
def aoJ:((Rows.mouldRealRow.loops==(Tryz.f15.params.toList++Rows.mouldRealSpec.plain.varTypes ϋ).any (ϋ.loopsFrom ·)))=θ:=by kernel_rfl
def aoN:((Rows.mouldRealRow.wideKeys==(Tryz.f15.params.toList++Rows.mouldRealSpec.plain.varTypes ϋ++Tryz.f15.resultTypes.toList).any (ϋ.wideKeysFrom ·)))=θ:=by kernel_rfl
def aoO:(Rows.mouldRealSpec.vars.all (ϋ.varReadable ·))=θ:=by kernel_rfl
def aoP:(Tryz.f15.resultTypes.all (λt=>ϋ.readableRec t && decide (t<ϋ.types.size)))=θ:=by kernel_rfl
def aoS:((Rows.mouldRealRow.ifacesOut==Tryz.f15.resultTypes.toList.any (ϋ.ifacesRec ·)))=θ:=by kernel_rfl
def aoT:((Rows.mouldRealRow.loopsOut==Tryz.f15.resultTypes.toList.any (ϋ.loopsFrom ·)))=θ:=by kernel_rfl
def aoU:((Rows.mouldRealRow.plainKeys==ϋ.plainKeys))=θ:=by kernel_rfl
def aoV:(Rows.mouldRealRow.shortTexts.isNone)=θ:=by kernel_rfl
def aoX:((Rows.mouldRealRow.lifted==ϋ.liftsFinal))=θ:=by kernel_rfl
def aoY:((ϋ.make==φ Rows.mouldRealRow.make))=θ:=by kernel_rfl
def aoZ:((Rows.mouldRealRow.pinned==Rows.mouldRealRow.pinnedBy))=θ:=by kernel_rfl
def ao1:((Rows.mouldRealRow.veiled==(Tryz.f15.params.toList++Rows.mouldRealSpec.plain.varTypes ϋ++Tryz.f15.resultTypes.toList).any (ϋ.veiledRec ·)))=θ:=by kernel_rfl
def ao2:(Rows.mouldRealRow.veiledFits ϋ Tryz.f15.params.toList (Tryz.f15.params.toList++Rows.mouldRealSpec.plain.varTypes ϋ++Tryz.f15.resultTypes.toList))=θ:=by kernel_rfl
end Go.Jn
