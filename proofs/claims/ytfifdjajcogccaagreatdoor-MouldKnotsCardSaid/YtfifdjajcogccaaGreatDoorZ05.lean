import Derived.Test.YtfifdjajcogccaaGreatDoorZ04
set_option linter.all false
set_option maxHeartbeats 64000000
set_option maxRecDepth 100000
open Go.Proofs.Tryz renaming prog -> ϋ
open Bool renaming true -> θ
open Option renaming some -> φ
namespace Go.Jn
open Go Go.Proofs
open YtfifdjajcogccaaGreatDoor
def aof:(Rows.mouldKnotsRow.wf (OpenSpec.ofChange Rows.mouldKnotsSpec))=θ:=by kernel_rfl
def aox:(Tryz.f8.params.all (ϋ.readableRec ·))=θ:=by kernel_rfl
def aoA:(namedTie ϋ Rows.mouldKnotsRow.named Rows.mouldKnotsSpec.vars)=θ:=by kernel_rfl
def aoB:((Rows.mouldKnotsRow.stops==[]))=θ:=by kernel_rfl
def aoC:((Rows.mouldKnotsRow.knobs==[]))=θ:=by kernel_rfl
def aoD:((Rows.mouldKnotsRow.inPlace==ϋ.inPlace 8))=θ:=by kernel_rfl
def aog:((Rows.mouldKnotsRow.unfollowed==ϋ.unfollowed 8))=θ:=by kernel_rfl
def aoh:((Rows.mouldKnotsRow.recurses==ϋ.recurses 8))=θ:=by kernel_rfl
def aoi:((Rows.mouldKnotsRow.named==ϋ.varsNamed 8))=θ:=by kernel_rfl
def aoj:((Rows.mouldKnotsRow.maps==(Tryz.f8.params.toList++Rows.mouldKnotsSpec.plain.varTypes ϋ).any (ϋ.mapsRec ·)))=θ:=by kernel_rfl
def aok:((Rows.mouldKnotsRow.ifaces==(Tryz.f8.params.toList++Rows.mouldKnotsSpec.plain.varTypes ϋ).any (ϋ.ifacesRec ·)))=θ:=by kernel_rfl
def aol:((Rows.mouldKnotsRow.mapsOut==ϋ.mapsAmong Tryz.f8.resultTypes.toList))=θ:=by kernel_rfl
def aom:((Rows.mouldKnotsRow.loops==(Tryz.f8.params.toList++Rows.mouldKnotsSpec.plain.varTypes ϋ).any (ϋ.loopsFrom ·)))=θ:=by kernel_rfl
def aon:((Rows.mouldKnotsRow.wideKeys==(Tryz.f8.params.toList++Rows.mouldKnotsSpec.plain.varTypes ϋ++Tryz.f8.resultTypes.toList).any (ϋ.wideKeysFrom ·)))=θ:=by kernel_rfl
def aoo:(Rows.mouldKnotsSpec.vars.all (ϋ.varReadable ·))=θ:=by kernel_rfl
def aop:(Tryz.f8.resultTypes.all (λt=>ϋ.readableRec t && decide (t<ϋ.types.size)))=θ:=by kernel_rfl
def aoq:((Rows.mouldKnotsRow.ifacesOut==Tryz.f8.resultTypes.toList.any (ϋ.ifacesRec ·)))=θ:=by kernel_rfl
def aor:((Rows.mouldKnotsRow.loopsOut==Tryz.f8.resultTypes.toList.any (ϋ.loopsFrom ·)))=θ:=by kernel_rfl
def aos:((Rows.mouldKnotsRow.plainKeys==ϋ.plainKeys))=θ:=by kernel_rfl
def aot:(Rows.mouldKnotsRow.shortTexts.isNone)=θ:=by kernel_rfl
def aou:((Rows.mouldKnotsRow.lifted==ϋ.liftsFinal))=θ:=by kernel_rfl
def aov:((ϋ.make==φ Rows.mouldKnotsRow.make))=θ:=by kernel_rfl
def aow:((Rows.mouldKnotsRow.pinned==Rows.mouldKnotsRow.pinnedBy))=θ:=by kernel_rfl
def aoy:((Rows.mouldKnotsRow.veiled==(Tryz.f8.params.toList++Rows.mouldKnotsSpec.plain.varTypes ϋ++Tryz.f8.resultTypes.toList).any (ϋ.veiledRec ·)))=θ:=by kernel_rfl
def aoz:(Rows.mouldKnotsRow.veiledFits ϋ Tryz.f8.params.toList (Tryz.f8.params.toList++Rows.mouldKnotsSpec.plain.varTypes ϋ++Tryz.f8.resultTypes.toList))=θ:=by kernel_rfl
end Go.Jn
