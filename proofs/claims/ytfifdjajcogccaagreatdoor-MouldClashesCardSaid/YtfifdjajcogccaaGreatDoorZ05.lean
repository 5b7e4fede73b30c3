import Derived.Test.YtfifdjajcogccaaGreatDoorZ04
set_option linter.all false
set_option maxHeartbeats 64000000
set_option maxRecDepth 100000
open Go.Proofs.Tryz renaming prog -> Afr
namespace Go.Jn
open Go Go.Proofs
open YtfifdjajcogccaaGreatDoor
def adP:(Rows.mouldClashesRow.wf (OpenSpec.ofChange Rows.mouldClashesSpec))=true:=by kernel_rfl
def aeK:(Tryz.f10.params.all (Afr.readableRec ·))=true:=by kernel_rfl
def aeW:(namedTie Afr Rows.mouldClashesRow.named Rows.mouldClashesSpec.vars)=true:=by kernel_rfl
def aeX:((Rows.mouldClashesRow.stops==[]))=true:=by kernel_rfl
def ae8:((Rows.mouldClashesRow.knobs==[]))=true:=by kernel_rfl
def afa:((Rows.mouldClashesRow.inPlace==Afr.inPlace 10))=true:=by kernel_rfl
def adQ:((Rows.mouldClashesRow.unfollowed==Afr.unfollowed 10))=true:=by kernel_rfl
def ad3:((Rows.mouldClashesRow.recurses==Afr.recurses 10))=true:=by kernel_rfl
def ad5:((Rows.mouldClashesRow.named==Afr.varsNamed 10))=true:=by kernel_rfl
def ad6:((Rows.mouldClashesRow.maps==(Tryz.f10.params.toList++Rows.mouldClashesSpec.plain.varTypes Afr).any (Afr.mapsRec ·)))=true:=by kernel_rfl
def aej:((Rows.mouldClashesRow.ifaces==(Tryz.f10.params.toList++Rows.mouldClashesSpec.plain.varTypes Afr).any (Afr.ifacesRec ·)))=true:=by kernel_rfl
def aek:((Rows.mouldClashesRow.mapsOut==Afr.mapsAmong Tryz.f10.resultTypes.toList))=true:=by kernel_rfl
def aem:((Rows.mouldClashesRow.loops==(Tryz.f10.params.toList++Rows.mouldClashesSpec.plain.varTypes Afr).any (Afr.loopsFrom ·)))=true:=by kernel_rfl
def aeo:((Rows.mouldClashesRow.wideKeys==(Tryz.f10.params.toList++Rows.mouldClashesSpec.plain.varTypes Afr++Tryz.f10.resultTypes.toList).any (Afr.wideKeysFrom ·)))=true:=by kernel_rfl
def aet:(Rows.mouldClashesSpec.vars.all (Afr.varReadable ·))=true:=by kernel_rfl
def aeu:(Tryz.f10.resultTypes.all (λt=>Afr.readableRec t && decide (t<Afr.types.size)))=true:=by kernel_rfl
def aex:((Rows.mouldClashesRow.ifacesOut==Tryz.f10.resultTypes.toList.any (Afr.ifacesRec ·)))=true:=by kernel_rfl
def aey:((Rows.mouldClashesRow.loopsOut==Tryz.f10.resultTypes.toList.any (Afr.loopsFrom ·)))=true:=by kernel_rfl
def aeA:((Rows.mouldClashesRow.plainKeys==Afr.plainKeys))=true:=by kernel_rfl
def aeD:(Rows.mouldClashesRow.shortTexts.isNone)=true:=by kernel_rfl
def aeF:((Rows.mouldClashesRow.lifted==Afr.liftsFinal))=true:=by kernel_rfl
def aeG:((Afr.make==some Rows.mouldClashesRow.make))=true:=by kernel_rfl
def aeH:((Rows.mouldClashesRow.pinned==Rows.mouldClashesRow.pinnedBy))=true:=by kernel_rfl
def aeS:((Rows.mouldClashesRow.veiled==(Tryz.f10.params.toList++Rows.mouldClashesSpec.plain.varTypes Afr++Tryz.f10.resultTypes.toList).any (Afr.veiledRec ·)))=true:=by kernel_rfl
def aeV:(Rows.mouldClashesRow.veiledFits Afr Tryz.f10.params.toList (Tryz.f10.params.toList++Rows.mouldClashesSpec.plain.varTypes Afr++Tryz.f10.resultTypes.toList))=true:=by kernel_rfl
end Go.Jn
