import Derived.Test.YtfifdjajcogccaaGreatDoorZ04
set_option linter.all false
set_option maxHeartbeats 64000000
set_option maxRecDepth 100000
open Go.Proofs.Tryz renaming prog -> Afr
namespace Go.Jn
open Go Go.Proofs
open YtfifdjajcogccaaGreatDoor
def ais:(Rows.mouldFewestRow.wf (OpenSpec.ofChange Rows.mouldFewestSpec))=true:=by kernel_rfl
def akM:(Tryz.f6.params.all (Afr.readableRec ·))=true:=by kernel_rfl
def akP:(namedTie Afr Rows.mouldFewestRow.named Rows.mouldFewestSpec.vars)=true:=by kernel_rfl
def akQ:((Rows.mouldFewestRow.stops==[]))=true:=by kernel_rfl
def akR:((Rows.mouldFewestRow.knobs==[]))=true:=by kernel_rfl
def akS:((Rows.mouldFewestRow.inPlace==Afr.inPlace 6))=true:=by kernel_rfl
def ait:((Rows.mouldFewestRow.unfollowed==Afr.unfollowed 6))=true:=by kernel_rfl
def aiw:((Rows.mouldFewestRow.recurses==Afr.recurses 6))=true:=by kernel_rfl
def aix:((Rows.mouldFewestRow.named==Afr.varsNamed 6))=true:=by kernel_rfl
def aiy:((Rows.mouldFewestRow.maps==(Tryz.f6.params.toList++Rows.mouldFewestSpec.plain.varTypes Afr).any (Afr.mapsRec ·)))=true:=by kernel_rfl
def aiz:((Rows.mouldFewestRow.ifaces==(Tryz.f6.params.toList++Rows.mouldFewestSpec.plain.varTypes Afr).any (Afr.ifacesRec ·)))=true:=by kernel_rfl
def aiA:((Rows.mouldFewestRow.mapsOut==Afr.mapsAmong Tryz.f6.resultTypes.toList))=true:=by kernel_rfl
def aiB:((Rows.mouldFewestRow.loops==(Tryz.f6.params.toList++Rows.mouldFewestSpec.plain.varTypes Afr).any (Afr.loopsFrom ·)))=true:=by kernel_rfl
def aiC:((Rows.mouldFewestRow.wideKeys==(Tryz.f6.params.toList++Rows.mouldFewestSpec.plain.varTypes Afr++Tryz.f6.resultTypes.toList).any (Afr.wideKeysFrom ·)))=true:=by kernel_rfl
def aiD:(Rows.mouldFewestSpec.vars.all (Afr.varReadable ·))=true:=by kernel_rfl
def aiF:(Tryz.f6.resultTypes.all (λt=>Afr.readableRec t && decide (t<Afr.types.size)))=true:=by kernel_rfl
def aiH:((Rows.mouldFewestRow.ifacesOut==Tryz.f6.resultTypes.toList.any (Afr.ifacesRec ·)))=true:=by kernel_rfl
def aiI:((Rows.mouldFewestRow.loopsOut==Tryz.f6.resultTypes.toList.any (Afr.loopsFrom ·)))=true:=by kernel_rfl
def ai0:((Rows.mouldFewestRow.plainKeys==Afr.plainKeys))=true:=by kernel_rfl
def ai8:(Rows.mouldFewestRow.shortTexts.isNone)=true:=by kernel_rfl
def ajJ:((Rows.mouldFewestRow.lifted==Afr.liftsFinal))=true:=by kernel_rfl
def ajK:((Afr.make==some Rows.mouldFewestRow.make))=true:=by kernel_rfl
def aj6:((Rows.mouldFewestRow.pinned==Rows.mouldFewestRow.pinnedBy))=true:=by kernel_rfl
def akN:((Rows.mouldFewestRow.veiled==(Tryz.f6.params.toList++Rows.mouldFewestSpec.plain.varTypes Afr++Tryz.f6.resultTypes.toList).any (Afr.veiledRec ·)))=true:=by kernel_rfl
def akO:(Rows.mouldFewestRow.veiledFits Afr Tryz.f6.params.toList (Tryz.f6.params.toList++Rows.mouldFewestSpec.plain.varTypes Afr++Tryz.f6.resultTypes.toList))=true:=by kernel_rfl
end Go.Jn
