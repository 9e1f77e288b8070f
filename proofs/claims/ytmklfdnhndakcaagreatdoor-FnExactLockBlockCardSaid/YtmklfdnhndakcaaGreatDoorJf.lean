/- The closed facts of the row -/
import Derived.Test.YtmklfdnhndakcaaGreatDoorRows
import Derived.ProofKit
set_option linter.unusedVariables false
set_option linter.unusedSimpArgs false
set_option maxRecDepth 100000
namespace Go.Proofs.YtmklfdnhndakcaaGreatDoor.fnExactLockBlock
open Go.ChangeShapes Go.WideShapes Go.ChangeAt Go.RowKit
theorem and2 {a b:Bool} (h:a=true) (k:b=true):(a&&b)=true:=by rw[h,k];rfl
theorem k0:Rows.fnExactLockBlockRow.wf (OpenSpec.ofChange Rows.fnExactLockBlockSpec)=true:=by kernel_rfl
theorem k1:laidOutB Tryz.prog=true:=by kernel_rfl
theorem k2:mapsRowed Tryz.prog=true:=by kernel_rfl
theorem k3:Tryz.f3.params.all (Tryz.prog.readableRec ·)=true:=by kernel_rfl
theorem k4:namedTie Tryz.prog Rows.fnExactLockBlockRow.named Rows.fnExactLockBlockSpec.vars=true:=by kernel_rfl
theorem k5:(Rows.fnExactLockBlockRow.stops == [])=true:=by kernel_rfl
theorem k6:(Tryz.prog.stops == [])=true:=by kernel_rfl
theorem k7:(Rows.fnExactLockBlockRow.knobs == [])=true:=by kernel_rfl
theorem k8:(Tryz.prog.stopKnobs == [])=true:=by kernel_rfl
theorem k9:(Rows.fnExactLockBlockRow.inPlace == Tryz.prog.inPlace 3)=true:=by kernel_rfl
theorem k10:(Rows.fnExactLockBlockRow.unfollowed == Tryz.prog.unfollowed 3)=true:=by kernel_rfl
theorem k11:(Rows.fnExactLockBlockRow.recurses == Tryz.prog.recurses 3)=true:=by kernel_rfl
theorem k12:(Rows.fnExactLockBlockRow.named == Tryz.prog.varsNamed 3)=true:=by kernel_rfl
theorem k13:(Rows.fnExactLockBlockRow.maps == (Tryz.f3.params.toList++Rows.fnExactLockBlockSpec.plain.varTypes Tryz.prog).any (Tryz.prog.mapsRec ·))=true:=by kernel_rfl
theorem k14:(Rows.fnExactLockBlockRow.ifaces == (Tryz.f3.params.toList++Rows.fnExactLockBlockSpec.plain.varTypes Tryz.prog).any (Tryz.prog.ifacesRec ·))=true:=by kernel_rfl
theorem k15:(Rows.fnExactLockBlockRow.mapsOut == Tryz.prog.mapsAmong Tryz.f3.resultTypes.toList)=true:=by kernel_rfl
theorem k16:(Rows.fnExactLockBlockRow.loops == (Tryz.f3.params.toList++Rows.fnExactLockBlockSpec.plain.varTypes Tryz.prog).any (Tryz.prog.loopsFrom ·))=true:=by kernel_rfl
theorem k17:(Rows.fnExactLockBlockRow.wideKeys == (Tryz.f3.params.toList++Rows.fnExactLockBlockSpec.plain.varTypes Tryz.prog++Tryz.f3.resultTypes.toList).any (Tryz.prog.wideKeysFrom ·))=true:=by kernel_rfl
theorem k18:Rows.fnExactLockBlockSpec.vars.all (Tryz.prog.varReadable ·)=true:=by kernel_rfl
theorem k19:Tryz.f3.resultTypes.all (fun t=>Tryz.prog.readableRec t&&decide (t<Tryz.prog.types.size))=true:=by kernel_rfl
theorem k20:(Rows.fnExactLockBlockRow.ifacesOut == Tryz.f3.resultTypes.toList.any (Tryz.prog.ifacesRec ·))=true:=by kernel_rfl
theorem k21:(Rows.fnExactLockBlockRow.loopsOut == Tryz.f3.resultTypes.toList.any (Tryz.prog.loopsFrom ·))=true:=by kernel_rfl
theorem k22:(Rows.fnExactLockBlockRow.plainKeys == Tryz.prog.plainKeys)=true:=by kernel_rfl
theorem k23:Rows.fnExactLockBlockRow.shortTexts.isNone=true:=by kernel_rfl
theorem k24:Tryz.prog.stopsHeard=true:=by kernel_rfl
theorem k25:Tryz.prog.mayEnter=true:=by kernel_rfl
theorem k26:(Rows.fnExactLockBlockRow.lifted == Tryz.prog.liftsFinal)=true:=by kernel_rfl
theorem k27:(Tryz.prog.make == some Rows.fnExactLockBlockRow.make)=true:=by kernel_rfl
theorem k28:(Rows.fnExactLockBlockRow.kinds == (if Rows.fnExactLockBlockRow.domain.isEmpty then [] else Tryz.f3.params.toList.map fun t=>match Tryz.prog.underlying t with | some (.int k)=>some k | _=>none))=true:=by kernel_rfl
theorem k29:(Rows.fnExactLockBlockRow.pinned == Rows.fnExactLockBlockRow.pinnedBy)=true:=by kernel_rfl
theorem k30:(Rows.fnExactLockBlockRow.veiled == (Tryz.f3.params.toList++Rows.fnExactLockBlockSpec.plain.varTypes Tryz.prog++Tryz.f3.resultTypes.toList).any (Tryz.prog.veiledRec ·))=true:=by kernel_rfl
theorem k31:Rows.fnExactLockBlockRow.veiledFits Tryz.prog Tryz.f3.params.toList (Tryz.f3.params.toList++Rows.fnExactLockBlockSpec.plain.varTypes Tryz.prog++Tryz.f3.resultTypes.toList)=true:=by kernel_rfl
theorem closed:joinedFacts Tryz.prog 3 Tryz.f3 Rows.fnExactLockBlockSpec Rows.fnExactLockBlockRow=true:=(and2 (and2 (and2 (and2 (and2 (and2 (and2 (and2 (and2 (and2 (and2 (and2 (and2 (and2 (and2 (and2 (and2 (and2 (and2 (and2 (and2 (and2 (and2 (and2 (and2 (and2 (and2 (and2 (and2 (and2 (and2 k0 k1) k2) k3) k4) k5) k6) k7) k8) k9) k10) k11) k12) k13) k14) k15) k16) k17) k18) k19) k20) k21) k22) k23) k24) k25) k26) k27) k28) k29) k30) k31)
end Go.Proofs.YtmklfdnhndakcaaGreatDoor.fnExactLockBlock
