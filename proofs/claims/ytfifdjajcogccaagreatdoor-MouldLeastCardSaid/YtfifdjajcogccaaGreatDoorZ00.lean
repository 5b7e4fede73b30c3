import Derived.Test.YtfifdjajcogccaaGreatDoorRows
import Derived.JoinedOf
import Derived.KernelRfl
set_option linter.all false
set_option maxHeartbeats 64000000
set_option maxRecDepth 20000
namespace Go.Jn
open Go Go.Proofs
open YtfifdjajcogccaaGreatDoor
theorem fc{a b:Bool}(h:a=true)(k:b=true):(a && b)=true:=by rw[h,k];rfl
theorem ah9:(Rows.mouldLeastRow.wf (OpenSpec.ofChange Rows.mouldLeastSpec))=true:=by kernel_rfl
theorem aid:(laidOutB Tryz.prog)=true:=by kernel_rfl
theorem aip:(mapsRowed Tryz.prog)=true:=by kernel_rfl
theorem aix:(Tryz.f7.params.all (Tryz.prog.readableRec ·))=true:=by kernel_rfl
theorem aiA:(namedTie Tryz.prog Rows.mouldLeastRow.named Rows.mouldLeastSpec.vars)=true:=by kernel_rfl
theorem aiB:((Rows.mouldLeastRow.stops==[]))=true:=by kernel_rfl
theorem aiE:((Tryz.prog.stops==[]))=true:=by kernel_rfl
theorem aiC:((Rows.mouldLeastRow.knobs==[]))=true:=by kernel_rfl
theorem aiG:((Tryz.prog.stopKnobs==[]))=true:=by kernel_rfl
theorem aiD:((Rows.mouldLeastRow.inPlace==Tryz.prog.inPlace 7))=true:=by kernel_rfl
theorem aia:((Rows.mouldLeastRow.unfollowed==Tryz.prog.unfollowed 7))=true:=by kernel_rfl
theorem aib:((Rows.mouldLeastRow.recurses==Tryz.prog.recurses 7))=true:=by kernel_rfl
theorem aic:((Rows.mouldLeastRow.named==Tryz.prog.varsNamed 7))=true:=by kernel_rfl
theorem aie:((Rows.mouldLeastRow.maps==(Tryz.f7.params.toList++Rows.mouldLeastSpec.plain.varTypes Tryz.prog).any (Tryz.prog.mapsRec ·)))=true:=by kernel_rfl
theorem aif:((Rows.mouldLeastRow.ifaces==(Tryz.f7.params.toList++Rows.mouldLeastSpec.plain.varTypes Tryz.prog).any (Tryz.prog.ifacesRec ·)))=true:=by kernel_rfl
theorem aih:((Rows.mouldLeastRow.mapsOut==Tryz.prog.mapsAmong Tryz.f7.resultTypes.toList))=true:=by kernel_rfl
theorem aii:((Rows.mouldLeastRow.loops==(Tryz.f7.params.toList++Rows.mouldLeastSpec.plain.varTypes Tryz.prog).any (Tryz.prog.loopsFrom ·)))=true:=by kernel_rfl
theorem aij:((Rows.mouldLeastRow.wideKeys==(Tryz.f7.params.toList++Rows.mouldLeastSpec.plain.varTypes Tryz.prog++Tryz.f7.resultTypes.toList).any (Tryz.prog.wideKeysFrom ·)))=true:=by kernel_rfl
theorem aik:(Rows.mouldLeastSpec.vars.all (Tryz.prog.varReadable ·))=true:=by kernel_rfl
theorem ail:(Tryz.f7.resultTypes.all (fun t=>Tryz.prog.readableRec t && decide (t<Tryz.prog.types.size)))=true:=by kernel_rfl
theorem aim:((Rows.mouldLeastRow.ifacesOut==Tryz.f7.resultTypes.toList.any (Tryz.prog.ifacesRec ·)))=true:=by kernel_rfl
theorem ain:((Rows.mouldLeastRow.loopsOut==Tryz.f7.resultTypes.toList.any (Tryz.prog.loopsFrom ·)))=true:=by kernel_rfl
theorem aio:((Rows.mouldLeastRow.plainKeys==Tryz.prog.plainKeys))=true:=by kernel_rfl
theorem air:(Rows.mouldLeastRow.shortTexts.isNone)=true:=by kernel_rfl
theorem aiu:(Tryz.prog.stopsHeard)=true:=by kernel_rfl
theorem aiv:(Tryz.prog.mayEnter)=true:=by kernel_rfl
theorem ais:((Rows.mouldLeastRow.lifted==Tryz.prog.liftsFinal))=true:=by kernel_rfl
theorem ait:((Tryz.prog.make==some Rows.mouldLeastRow.make))=true:=by kernel_rfl
theorem aiw:((Rows.mouldLeastRow.pinned==Rows.mouldLeastRow.pinnedBy))=true:=by kernel_rfl
theorem aiy:((Rows.mouldLeastRow.veiled==(Tryz.f7.params.toList++Rows.mouldLeastSpec.plain.varTypes Tryz.prog++Tryz.f7.resultTypes.toList).any (Tryz.prog.veiledRec ·)))=true:=by kernel_rfl
theorem aiz:(Rows.mouldLeastRow.veiledFits Tryz.prog Tryz.f7.params.toList (Tryz.f7.params.toList++Rows.mouldLeastSpec.plain.varTypes Tryz.prog++Tryz.f7.resultTypes.toList))=true:=by kernel_rfl
end Go.Jn
