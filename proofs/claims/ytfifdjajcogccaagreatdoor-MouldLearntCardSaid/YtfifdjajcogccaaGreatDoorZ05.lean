import Derived.Test.YtfifdjajcogccaaGreatDoorZ04
set_option linter.all false
set_option maxHeartbeats 64000000
set_option maxRecDepth 100000
open Go.Proofs.Tryz renaming prog -> ϋ
open Bool renaming true -> θ
open Option renaming some -> φ
namespace Go.Jn
open Go Go.Proofs
open YtfifdjajcogccaaGreatDoor
def alx:(Rows.mouldLearntRow.wf (OpenSpec.ofChange Rows.mouldLearntSpec))=θ:=by kernel_rfl
def alP:(Tryz.f18.params.all (ϋ.readableRec ·))=θ:=by kernel_rfl
def alS:(namedTie ϋ Rows.mouldLearntRow.named Rows.mouldLearntSpec.vars)=θ:=by kernel_rfl
def alT:((Rows.mouldLearntRow.stops==[]))=θ:=by kernel_rfl
def alU:((Rows.mouldLearntRow.knobs==[]))=θ:=by kernel_rfl
def alV:((Rows.mouldLearntRow.inPlace==ϋ.inPlace 18))=θ:=by kernel_rfl
def aly:((Rows.mouldLearntRow.unfollowed==ϋ.unfollowed 18))=θ:=by kernel_rfl
def alz:((Rows.mouldLearntRow.recurses==ϋ.recurses 18))=θ:=by kernel_rfl
def alA:((Rows.mouldLearntRow.named==ϋ.varsNamed 18))=θ:=by kernel_rfl
def alB:((Rows.mouldLearntRow.maps==(Tryz.f18.params.toList++Rows.mouldLearntSpec.plain.varTypes ϋ).any (ϋ.mapsRec ·)))=θ:=by kernel_rfl
def alC:((Rows.mouldLearntRow.ifaces==(Tryz.f18.params.toList++Rows.mouldLearntSpec.plain.varTypes ϋ).any (ϋ.ifacesRec ·)))=θ:=by kernel_rfl
def alD:((Rows.mouldLearntRow.mapsOut==ϋ.mapsAmong Tryz.f18.resultTypes.toList))=θ:=by kernel_rfl
def alE:((Rows.mouldLearntRow.loops==(Tryz.f18.params.toList++Rows.mouldLearntSpec.plain.varTypes ϋ).any (ϋ.loopsFrom ·)))=θ:=by kernel_rfl
def alF:((Rows.mouldLearntRow.wideKeys==(Tryz.f18.params.toList++Rows.mouldLearntSpec.plain.varTypes ϋ++Tryz.f18.resultTypes.toList).any (ϋ.wideKeysFrom ·)))=θ:=by kernel_rfl
def alG:(Rows.mouldLearntSpec.vars.all (ϋ.varReadable ·))=θ:=by kernel_rfl
def alH:(Tryz.f18.resultTypes.all (λt=>ϋ.readableRec t && decide (t<ϋ.types.size)))=θ:=by kernel_rfl
def alI:((Rows.mouldLearntRow.ifacesOut==Tryz.f18.resultTypes.toList.any (ϋ.ifacesRec ·)))=θ:=by kernel_rfl
def alJ:((Rows.mouldLearntRow.loopsOut==Tryz.f18.resultTypes.toList.any (ϋ.loopsFrom ·)))=θ:=by kernel_rfl
def alK:((Rows.mouldLearntRow.plainKeys==ϋ.plainKeys))=θ:=by kernel_rfl
def alL:(Rows.mouldLearntRow.shortTexts.isNone)=θ:=by kernel_rfl
def alM:((Rows.mouldLearntRow.lifted==ϋ.liftsFinal))=θ:=by kernel_rfl
def alN:((ϋ.make==φ Rows.mouldLearntRow.make))=θ:=by kernel_rfl
def alO:((Rows.mouldLearntRow.pinned==Rows.mouldLearntRow.pinnedBy))=θ:=by kernel_rfl
def alQ:((Rows.mouldLearntRow.veiled==(Tryz.f18.params.toList++Rows.mouldLearntSpec.plain.varTypes ϋ++Tryz.f18.resultTypes.toList).any (ϋ.veiledRec ·)))=θ:=by kernel_rfl
def alR:(Rows.mouldLearntRow.veiledFits ϋ Tryz.f18.params.toList (Tryz.f18.params.toList++Rows.mouldLearntSpec.plain.varTypes ϋ++Tryz.f18.resultTypes.toList))=θ:=by kernel_rfl
end Go.Jn
