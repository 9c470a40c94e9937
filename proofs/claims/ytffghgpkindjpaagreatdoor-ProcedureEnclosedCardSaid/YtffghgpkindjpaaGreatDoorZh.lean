import Derived.Test.YtffghgpkindjpaaGreatDoorZg
import Derived.Test.YtffghgpkindjpaaGreatDoorRows
import Derived.Test.YtffghgpkindjpaaGreatDoorCards
import Derived.SevenTiedAt
set_option linter.unusedVariables false
set_option linter.unusedSimpArgs false
namespace Go.Proofs.YtffghgpkindjpaaGreatDoor
open Go.Proofs.Tryz
open Go Go.ChangeShapes Go.WideShapes
theorem ape:Tryz.pinned.checked.prog.funcNamed Rows.procedureEnclosedRow.func=some 3:=by kernel_rfl
theorem bz {a b:Bool} (h:a=true) (k:b=true):(a&&b)=true:=by rw[h,k];rfl
theorem ahq {P:Program} {f:FuncId} {fn:Func} {s:ChangeSpec} {c:OpenClaim} (h0:(c.wf (OpenSpec.ofChange s))=true) (h1:(laidOutB P)=true) (h2:(mapsRowed P)=true) (h3:(fn.params.all (P.readableRec ·))=true) (h4:(namedTie P c.named s.vars)=true) (h5:((c.stops== []))=true) (h6:((P.stops== []))=true) (h7:((c.knobs== []))=true) (h8:((P.stopKnobs== []))=true) (h9:((c.inPlace==P.inPlace f))=true) (h10:((c.unfollowed==P.unfollowed f))=true) (h11:((c.recurses==P.recurses f))=true) (h12:((c.named==P.varsNamed f))=true) (h13:((c.maps==(fn.params.toList++s.plain.varTypes P).any (P.mapsRec ·)))=true) (h14:((c.ifaces==(fn.params.toList++s.plain.varTypes P).any (P.ifacesRec ·)))=true) (h15:((c.mapsOut==P.mapsAmong fn.resultTypes.toList))=true) (h16:((c.loops==(fn.params.toList++s.plain.varTypes P).any (P.loopsFrom ·)))=true) (h17:((c.wideKeys==(fn.params.toList++s.plain.varTypes P++fn.resultTypes.toList).any (P.wideKeysFrom ·)))=true) (h18:(s.vars.all (P.varReadable ·))=true) (h19:(fn.resultTypes.all (λt=>P.readableRec t&&decide (t<P.types.size)))=true) (h20:((c.ifacesOut==fn.resultTypes.toList.any (P.ifacesRec ·)))=true) (h21:((c.loopsOut==fn.resultTypes.toList.any (P.loopsFrom ·)))=true) (h22:((c.plainKeys==P.plainKeys))=true) (h23:(c.shortTexts.isNone)=true) (h24:(P.stopsHeard)=true) (h25:(P.mayEnter)=true) (h26:((c.lifted==P.liftsFinal))=true) (h27:((P.make==some c.make))=true) (h28:((c.kinds==(if c.domain.isEmpty then [] else fn.params.toList.map λt=>match P.underlying t with|some (.int k)=>some k|_=>none)))=true) (h29:((c.pinned==c.pinnedBy))=true) (h30:((c.veiled==(fn.params.toList++s.plain.varTypes P++fn.resultTypes.toList).any (P.veiledRec ·)))=true) (h31:(c.veiledFits P fn.params.toList (fn.params.toList++s.plain.varTypes P++fn.resultTypes.toList))=true):joinedFacts P f fn s c=true:=by
 unfold joinedFacts;exact(bz (bz (bz (bz (bz (bz (bz (bz (bz (bz (bz (bz (bz (bz (bz (bz (bz (bz (bz (bz (bz (bz (bz (bz (bz (bz (bz (bz (bz (bz (bz h0 h1) h2) h3) h4) h5) h6) h7) h8) h9) h10) h11) h12) h13) h14) h15) h16) h17) h18) h19) h20) h21) h22) h23) h24) h25) h26) h27) h28) h29) h30) h31)
theorem akQ:(Rows.procedureEnclosedRow.wf (OpenSpec.ofChange Rows.procedureEnclosedSpec))=true:=by kernel_rfl
theorem akR:(laidOutB Tryz.pinned.checked.prog)=true:=by kernel_rfl
theorem akS:(mapsRowed Tryz.pinned.checked.prog)=true:=by kernel_rfl
theorem akT:(f3.params.all (Tryz.pinned.checked.prog.readableRec ·))=true:=by kernel_rfl
theorem akU:(namedTie Tryz.pinned.checked.prog Rows.procedureEnclosedRow.named Rows.procedureEnclosedSpec.vars)=true:=by kernel_rfl
theorem akV:((Rows.procedureEnclosedRow.stops== []))=true:=by kernel_rfl
theorem akW:((Tryz.pinned.checked.prog.stops== []))=true:=by kernel_rfl
theorem akX:((Rows.procedureEnclosedRow.knobs== []))=true:=by kernel_rfl
theorem akY:((Tryz.pinned.checked.prog.stopKnobs== []))=true:=by kernel_rfl
theorem akZ:((Rows.procedureEnclosedRow.inPlace==Tryz.pinned.checked.prog.inPlace 3))=true:=by kernel_rfl
theorem ajQ:((Rows.procedureEnclosedRow.unfollowed==Tryz.pinned.checked.prog.unfollowed 3))=true:=by kernel_rfl
theorem ajR:((Rows.procedureEnclosedRow.recurses==Tryz.pinned.checked.prog.recurses 3))=true:=by kernel_rfl
theorem ajS:((Rows.procedureEnclosedRow.named==Tryz.pinned.checked.prog.varsNamed 3))=true:=by kernel_rfl
theorem ajT:((Rows.procedureEnclosedRow.maps==(f3.params.toList++Rows.procedureEnclosedSpec.plain.varTypes Tryz.pinned.checked.prog).any (Tryz.pinned.checked.prog.mapsRec ·)))=true:=by kernel_rfl
theorem ajU:((Rows.procedureEnclosedRow.ifaces==(f3.params.toList++Rows.procedureEnclosedSpec.plain.varTypes Tryz.pinned.checked.prog).any (Tryz.pinned.checked.prog.ifacesRec ·)))=true:=by kernel_rfl
theorem ajV:((Rows.procedureEnclosedRow.mapsOut==Tryz.pinned.checked.prog.mapsAmong f3.resultTypes.toList))=true:=by kernel_rfl
theorem ajW:((Rows.procedureEnclosedRow.loops==(f3.params.toList++Rows.procedureEnclosedSpec.plain.varTypes Tryz.pinned.checked.prog).any (Tryz.pinned.checked.prog.loopsFrom ·)))=true:=by kernel_rfl
theorem ajX:((Rows.procedureEnclosedRow.wideKeys==(f3.params.toList++Rows.procedureEnclosedSpec.plain.varTypes Tryz.pinned.checked.prog++f3.resultTypes.toList).any (Tryz.pinned.checked.prog.wideKeysFrom ·)))=true:=by kernel_rfl
theorem ajY:(Rows.procedureEnclosedSpec.vars.all (Tryz.pinned.checked.prog.varReadable ·))=true:=by kernel_rfl
theorem ajZ:(f3.resultTypes.all (λt=>Tryz.pinned.checked.prog.readableRec t&&decide (t<Tryz.pinned.checked.prog.types.size)))=true:=by kernel_rfl
theorem aj0:((Rows.procedureEnclosedRow.ifacesOut==f3.resultTypes.toList.any (Tryz.pinned.checked.prog.ifacesRec ·)))=true:=by kernel_rfl
theorem aj1:((Rows.procedureEnclosedRow.loopsOut==f3.resultTypes.toList.any (Tryz.pinned.checked.prog.loopsFrom ·)))=true:=by kernel_rfl
theorem aj2:((Rows.procedureEnclosedRow.plainKeys==Tryz.pinned.checked.prog.plainKeys))=true:=by kernel_rfl
theorem aj3:(Rows.procedureEnclosedRow.shortTexts.isNone)=true:=by kernel_rfl
theorem aj4:(Tryz.pinned.checked.prog.stopsHeard)=true:=by kernel_rfl
theorem aj5:(Tryz.pinned.checked.prog.mayEnter)=true:=by kernel_rfl
theorem aj6:((Rows.procedureEnclosedRow.lifted==Tryz.pinned.checked.prog.liftsFinal))=true:=by kernel_rfl
theorem aj7:((Tryz.pinned.checked.prog.make==some Rows.procedureEnclosedRow.make))=true:=by kernel_rfl
theorem aj8:((Rows.procedureEnclosedRow.kinds==(if Rows.procedureEnclosedRow.domain.isEmpty then [] else f3.params.toList.map λt=>match Tryz.pinned.checked.prog.underlying t with|some (.int k)=>some k|_=>none)))=true:=by kernel_rfl
theorem aj9:((Rows.procedureEnclosedRow.pinned==Rows.procedureEnclosedRow.pinnedBy))=true:=by kernel_rfl
theorem aka:((Rows.procedureEnclosedRow.veiled==(f3.params.toList++Rows.procedureEnclosedSpec.plain.varTypes Tryz.pinned.checked.prog++f3.resultTypes.toList).any (Tryz.pinned.checked.prog.veiledRec ·)))=true:=by kernel_rfl
theorem akb:(Rows.procedureEnclosedRow.veiledFits Tryz.pinned.checked.prog f3.params.toList (f3.params.toList++Rows.procedureEnclosedSpec.plain.varTypes Tryz.pinned.checked.prog++f3.resultTypes.toList))=true:=by kernel_rfl
theorem apf:joinedFacts Tryz.pinned.checked.prog 3 f3 Rows.procedureEnclosedSpec Rows.procedureEnclosedRow=true:=
 ahq akQ akR akS akT akU akV akW akX akY akZ ajQ ajR ajS ajT ajU ajV ajW ajX ajY ajZ aj0 aj1 aj2 aj3 aj4 aj5 aj6 aj7 aj8 aj9 aka akb
end Go.Proofs.YtffghgpkindjpaaGreatDoor
