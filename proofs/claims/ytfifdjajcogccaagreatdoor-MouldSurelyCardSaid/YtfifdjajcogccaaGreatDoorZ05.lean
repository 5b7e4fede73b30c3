import Derived.Test.YtfifdjajcogccaaGreatDoorZ04
set_option linter.all false
set_option maxHeartbeats 64000000
set_option maxRecDepth 100000
open Go.Proofs.Tryz renaming prog -> Afr
namespace Go.Jn
open Go Go.Proofs
open YtfifdjajcogccaaGreatDoor
def anA:(Rows.mouldSurelyRow.wf (OpenSpec.ofChange Rows.mouldSurelySpec))=true:=by kernel_rfl
def an1:(Tryz.f5.params.all (Afr.readableRec ·))=true:=by kernel_rfl
def aob:(namedTie Afr Rows.mouldSurelyRow.named Rows.mouldSurelySpec.vars)=true:=by kernel_rfl
def aod:((Rows.mouldSurelyRow.stops==[]))=true:=by kernel_rfl
def aoe:((Rows.mouldSurelyRow.knobs==[]))=true:=by kernel_rfl
def aog:((Rows.mouldSurelyRow.inPlace==Afr.inPlace 5))=true:=by kernel_rfl
def anC:((Rows.mouldSurelyRow.unfollowed==Afr.unfollowed 5))=true:=by kernel_rfl
def anD:((Rows.mouldSurelyRow.recurses==Afr.recurses 5))=true:=by kernel_rfl
def anE:((Rows.mouldSurelyRow.named==Afr.varsNamed 5))=true:=by kernel_rfl
def anF:((Rows.mouldSurelyRow.maps==(Tryz.f5.params.toList++Rows.mouldSurelySpec.plain.varTypes Afr).any (Afr.mapsRec ·)))=true:=by kernel_rfl
def anG:((Rows.mouldSurelyRow.ifaces==(Tryz.f5.params.toList++Rows.mouldSurelySpec.plain.varTypes Afr).any (Afr.ifacesRec ·)))=true:=by kernel_rfl
def anJ:((Rows.mouldSurelyRow.mapsOut==Afr.mapsAmong Tryz.f5.resultTypes.toList))=true:=by kernel_rfl
def anK:((Rows.mouldSurelyRow.loops==(Tryz.f5.params.toList++Rows.mouldSurelySpec.plain.varTypes Afr).any (Afr.loopsFrom ·)))=true:=by kernel_rfl
def anM:((Rows.mouldSurelyRow.wideKeys==(Tryz.f5.params.toList++Rows.mouldSurelySpec.plain.varTypes Afr++Tryz.f5.resultTypes.toList).any (Afr.wideKeysFrom ·)))=true:=by kernel_rfl
def anQ:(Rows.mouldSurelySpec.vars.all (Afr.varReadable ·))=true:=by kernel_rfl
def anR:(Tryz.f5.resultTypes.all (λt=>Afr.readableRec t && decide (t<Afr.types.size)))=true:=by kernel_rfl
def anU:((Rows.mouldSurelyRow.ifacesOut==Tryz.f5.resultTypes.toList.any (Afr.ifacesRec ·)))=true:=by kernel_rfl
def anV:((Rows.mouldSurelyRow.loopsOut==Tryz.f5.resultTypes.toList.any (Afr.loopsFrom ·)))=true:=by kernel_rfl
def anW:((Rows.mouldSurelyRow.plainKeys==Afr.plainKeys))=true:=by kernel_rfl
def anX:(Rows.mouldSurelyRow.shortTexts.isNone)=true:=by kernel_rfl
def anY:((Rows.mouldSurelyRow.lifted==Afr.liftsFinal))=true:=by kernel_rfl
def anZ:((Afr.make==some Rows.mouldSurelyRow.make))=true:=by kernel_rfl
def an0:((Rows.mouldSurelyRow.pinned==Rows.mouldSurelyRow.pinnedBy))=true:=by kernel_rfl
def an5:((Rows.mouldSurelyRow.veiled==(Tryz.f5.params.toList++Rows.mouldSurelySpec.plain.varTypes Afr++Tryz.f5.resultTypes.toList).any (Afr.veiledRec ·)))=true:=by kernel_rfl
def an6:(Rows.mouldSurelyRow.veiledFits Afr Tryz.f5.params.toList (Tryz.f5.params.toList++Rows.mouldSurelySpec.plain.varTypes Afr++Tryz.f5.resultTypes.toList))=true:=by kernel_rfl
end Go.Jn
