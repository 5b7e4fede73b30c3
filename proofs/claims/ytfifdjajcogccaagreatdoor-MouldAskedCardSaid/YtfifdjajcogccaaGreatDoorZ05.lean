import Derived.Test.YtfifdjajcogccaaGreatDoorZ04
set_option linter.all false
set_option maxHeartbeats 64000000
set_option maxRecDepth 100000
open Go.Proofs.Tryz renaming prog -> Afr
namespace Go.Jn
open Go Go.Proofs
open YtfifdjajcogccaaGreatDoor
def acR:(Rows.mouldAskedRow.wf (OpenSpec.ofChange Rows.mouldAskedSpec))=true:=by kernel_rfl
def adJ:(Tryz.f11.params.all (Afr.readableRec ·))=true:=by kernel_rfl
def adQ:(namedTie Afr Rows.mouldAskedRow.named Rows.mouldAskedSpec.vars)=true:=by kernel_rfl
def ad3:((Rows.mouldAskedRow.stops==[]))=true:=by kernel_rfl
def ad5:((Rows.mouldAskedRow.knobs==[]))=true:=by kernel_rfl
def ad6:((Rows.mouldAskedRow.inPlace==Afr.inPlace 11))=true:=by kernel_rfl
def adi:((Rows.mouldAskedRow.unfollowed==Afr.unfollowed 11))=true:=by kernel_rfl
def adk:((Rows.mouldAskedRow.recurses==Afr.recurses 11))=true:=by kernel_rfl
def adn:((Rows.mouldAskedRow.named==Afr.varsNamed 11))=true:=by kernel_rfl
def ado:((Rows.mouldAskedRow.maps==(Tryz.f11.params.toList++Rows.mouldAskedSpec.plain.varTypes Afr).any (Afr.mapsRec ·)))=true:=by kernel_rfl
def ads:((Rows.mouldAskedRow.ifaces==(Tryz.f11.params.toList++Rows.mouldAskedSpec.plain.varTypes Afr).any (Afr.ifacesRec ·)))=true:=by kernel_rfl
def adt:((Rows.mouldAskedRow.mapsOut==Afr.mapsAmong Tryz.f11.resultTypes.toList))=true:=by kernel_rfl
def adu:((Rows.mouldAskedRow.loops==(Tryz.f11.params.toList++Rows.mouldAskedSpec.plain.varTypes Afr).any (Afr.loopsFrom ·)))=true:=by kernel_rfl
def adv:((Rows.mouldAskedRow.wideKeys==(Tryz.f11.params.toList++Rows.mouldAskedSpec.plain.varTypes Afr++Tryz.f11.resultTypes.toList).any (Afr.wideKeysFrom ·)))=true:=by kernel_rfl
def adw:(Rows.mouldAskedSpec.vars.all (Afr.varReadable ·))=true:=by kernel_rfl
def adz:(Tryz.f11.resultTypes.all (λt=>Afr.readableRec t && decide (t<Afr.types.size)))=true:=by kernel_rfl
def adA:((Rows.mouldAskedRow.ifacesOut==Tryz.f11.resultTypes.toList.any (Afr.ifacesRec ·)))=true:=by kernel_rfl
def adB:((Rows.mouldAskedRow.loopsOut==Tryz.f11.resultTypes.toList.any (Afr.loopsFrom ·)))=true:=by kernel_rfl
def adC:((Rows.mouldAskedRow.plainKeys==Afr.plainKeys))=true:=by kernel_rfl
def adE:(Rows.mouldAskedRow.shortTexts.isNone)=true:=by kernel_rfl
def adF:((Rows.mouldAskedRow.lifted==Afr.liftsFinal))=true:=by kernel_rfl
def adH:((Afr.make==some Rows.mouldAskedRow.make))=true:=by kernel_rfl
def adI:((Rows.mouldAskedRow.pinned==Rows.mouldAskedRow.pinnedBy))=true:=by kernel_rfl
def adK:((Rows.mouldAskedRow.veiled==(Tryz.f11.params.toList++Rows.mouldAskedSpec.plain.varTypes Afr++Tryz.f11.resultTypes.toList).any (Afr.veiledRec ·)))=true:=by kernel_rfl
def adP:(Rows.mouldAskedRow.veiledFits Afr Tryz.f11.params.toList (Tryz.f11.params.toList++Rows.mouldAskedSpec.plain.varTypes Afr++Tryz.f11.resultTypes.toList))=true:=by kernel_rfl
end Go.Jn
