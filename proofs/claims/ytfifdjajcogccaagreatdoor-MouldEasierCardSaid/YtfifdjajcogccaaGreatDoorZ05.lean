import Derived.Test.YtfifdjajcogccaaGreatDoorZ04
set_option linter.all false
set_option maxRecDepth 100000
open Go.Proofs.Tryz renaming prog -> ϋ
open Bool renaming true -> θ
open Option renaming some -> φ
namespace Go.Jn
open Go Go.Proofs
open YtfifdjajcogccaaGreatDoor
def arF:(Rows.mouldEasierRow.wf (OpenSpec.ofChange Rows.mouldEasierSpec))=θ:=by kernel_rfl
def asb:(Tryz.f9.params.all (ϋ.readableRec ·))=θ:=by kernel_rfl
def asl:(namedTie ϋ Rows.mouldEasierRow.named Rows.mouldEasierSpec.vars)=θ:=by kernel_rfl
def asn:((Rows.mouldEasierRow.stops==[]))=θ:=by kernel_rfl
def aso:((Rows.mouldEasierRow.knobs==[]))=θ:=by kernel_rfl
def asp:((Rows.mouldEasierRow.inPlace==ϋ.inPlace 9))=θ:=by kernel_rfl
def arG:((Rows.mouldEasierRow.unfollowed==ϋ.unfollowed 9))=θ:=by kernel_rfl
def arH:((Rows.mouldEasierRow.recurses==ϋ.recurses 9))=θ:=by kernel_rfl
def arI:((Rows.mouldEasierRow.named==ϋ.varsNamed 9))=θ:=by kernel_rfl
def arN:((Rows.mouldEasierRow.maps==(Tryz.f9.params.toList++Rows.mouldEasierSpec.plain.varTypes ϋ).any (ϋ.mapsRec ·)))=θ:=by kernel_rfl
def arO:((Rows.mouldEasierRow.ifaces==(Tryz.f9.params.toList++Rows.mouldEasierSpec.plain.varTypes ϋ).any (ϋ.ifacesRec ·)))=θ:=by kernel_rfl
def arP:((Rows.mouldEasierRow.mapsOut==ϋ.mapsAmong Tryz.f9.resultTypes.toList))=θ:=by kernel_rfl
def arQ:((Rows.mouldEasierRow.loops==(Tryz.f9.params.toList++Rows.mouldEasierSpec.plain.varTypes ϋ).any (ϋ.loopsFrom ·)))=θ:=by kernel_rfl
def arR:((Rows.mouldEasierRow.wideKeys==(Tryz.f9.params.toList++Rows.mouldEasierSpec.plain.varTypes ϋ++Tryz.f9.resultTypes.toList).any (ϋ.wideKeysFrom ·)))=θ:=by kernel_rfl
def arS:(Rows.mouldEasierSpec.vars.all (ϋ.varReadable ·))=θ:=by kernel_rfl
def arT:(Tryz.f9.resultTypes.all (λt=>ϋ.readableRec t && decide (t<ϋ.types.size)))=θ:=by kernel_rfl
def arU:((Rows.mouldEasierRow.ifacesOut==Tryz.f9.resultTypes.toList.any (ϋ.ifacesRec ·)))=θ:=by kernel_rfl
def arV:((Rows.mouldEasierRow.loopsOut==Tryz.f9.resultTypes.toList.any (ϋ.loopsFrom ·)))=θ:=by kernel_rfl
def arX:((Rows.mouldEasierRow.plainKeys==ϋ.plainKeys))=θ:=by kernel_rfl
def ar0:(Rows.mouldEasierRow.shortTexts.isNone)=θ:=by kernel_rfl
def ar1:((Rows.mouldEasierRow.lifted==ϋ.liftsFinal))=θ:=by kernel_rfl
def ar6:((ϋ.make==φ Rows.mouldEasierRow.make))=θ:=by kernel_rfl
def ar9:((Rows.mouldEasierRow.pinned==Rows.mouldEasierRow.pinnedBy))=θ:=by kernel_rfl
def asd:((Rows.mouldEasierRow.veiled==(Tryz.f9.params.toList++Rows.mouldEasierSpec.plain.varTypes ϋ++Tryz.f9.resultTypes.toList).any (ϋ.veiledRec ·)))=θ:=by kernel_rfl
def asf:(Rows.mouldEasierRow.veiledFits ϋ Tryz.f9.params.toList (Tryz.f9.params.toList++Rows.mouldEasierSpec.plain.varTypes ϋ++Tryz.f9.resultTypes.toList))=θ:=by kernel_rfl
end Go.Jn
