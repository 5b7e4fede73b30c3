import Derived.Test.YtfifdjajcogccaaGreatDoorZ04
set_option linter.all false
set_option maxHeartbeats 64000000
set_option maxRecDepth 100000
open Go.Proofs.Tryz renaming prog -> Afr
namespace Go.Jn
open Go Go.Proofs
open YtfifdjajcogccaaGreatDoor
def akN:(Rows.mouldAnyOrderRow.wf (OpenSpec.ofChange Rows.mouldAnyOrderSpec))=true:=by kernel_rfl
def amz:(Tryz.f13.params.all (Afr.readableRec ·))=true:=by kernel_rfl
def am7:(namedTie Afr Rows.mouldAnyOrderRow.named Rows.mouldAnyOrderSpec.vars)=true:=by kernel_rfl
def anh:((Rows.mouldAnyOrderRow.stops==[]))=true:=by kernel_rfl
def ani:((Rows.mouldAnyOrderRow.knobs==[]))=true:=by kernel_rfl
def anj:((Rows.mouldAnyOrderRow.inPlace==Afr.inPlace 13))=true:=by kernel_rfl
def akO:((Rows.mouldAnyOrderRow.unfollowed==Afr.unfollowed 13))=true:=by kernel_rfl
def akP:((Rows.mouldAnyOrderRow.recurses==Afr.recurses 13))=true:=by kernel_rfl
def akQ:((Rows.mouldAnyOrderRow.named==Afr.varsNamed 13))=true:=by kernel_rfl
def akR:((Rows.mouldAnyOrderRow.maps==(Tryz.f13.params.toList++Rows.mouldAnyOrderSpec.plain.varTypes Afr).any (Afr.mapsRec ·)))=true:=by kernel_rfl
def akS:((Rows.mouldAnyOrderRow.ifaces==(Tryz.f13.params.toList++Rows.mouldAnyOrderSpec.plain.varTypes Afr).any (Afr.ifacesRec ·)))=true:=by kernel_rfl
def akT:((Rows.mouldAnyOrderRow.mapsOut==Afr.mapsAmong Tryz.f13.resultTypes.toList))=true:=by kernel_rfl
def akU:((Rows.mouldAnyOrderRow.loops==(Tryz.f13.params.toList++Rows.mouldAnyOrderSpec.plain.varTypes Afr).any (Afr.loopsFrom ·)))=true:=by kernel_rfl
def akV:((Rows.mouldAnyOrderRow.wideKeys==(Tryz.f13.params.toList++Rows.mouldAnyOrderSpec.plain.varTypes Afr++Tryz.f13.resultTypes.toList).any (Afr.wideKeysFrom ·)))=true:=by kernel_rfl
def akW:(Rows.mouldAnyOrderSpec.vars.all (Afr.varReadable ·))=true:=by kernel_rfl
def akX:(Tryz.f13.resultTypes.all (λt=>Afr.readableRec t && decide (t<Afr.types.size)))=true:=by kernel_rfl
def akY:((Rows.mouldAnyOrderRow.ifacesOut==Tryz.f13.resultTypes.toList.any (Afr.ifacesRec ·)))=true:=by kernel_rfl
def alv:((Rows.mouldAnyOrderRow.loopsOut==Tryz.f13.resultTypes.toList.any (Afr.loopsFrom ·)))=true:=by kernel_rfl
def alF:((Rows.mouldAnyOrderRow.plainKeys==Afr.plainKeys))=true:=by kernel_rfl
def alG:(Rows.mouldAnyOrderRow.shortTexts.isNone)=true:=by kernel_rfl
def al8:((Rows.mouldAnyOrderRow.lifted==Afr.liftsFinal))=true:=by kernel_rfl
def ami:((Afr.make==some Rows.mouldAnyOrderRow.make))=true:=by kernel_rfl
def amj:((Rows.mouldAnyOrderRow.pinned==Rows.mouldAnyOrderRow.pinnedBy))=true:=by kernel_rfl
def amF:((Rows.mouldAnyOrderRow.veiled==(Tryz.f13.params.toList++Rows.mouldAnyOrderSpec.plain.varTypes Afr++Tryz.f13.resultTypes.toList).any (Afr.veiledRec ·)))=true:=by kernel_rfl
def amG:(Rows.mouldAnyOrderRow.veiledFits Afr Tryz.f13.params.toList (Tryz.f13.params.toList++Rows.mouldAnyOrderSpec.plain.varTypes Afr++Tryz.f13.resultTypes.toList))=true:=by kernel_rfl
end Go.Jn
