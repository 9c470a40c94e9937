import Derived.Test.YtdbnankjpnpojaaGreatDoorZg
import Derived.Test.YtdbnankjpnpojaaGreatDoorRows
import Derived.Test.YtdbnankjpnpojaaGreatDoorCards
import Derived.SevenTiedAt
set_option linter.unusedVariables false
set_option linter.unusedSimpArgs false
noncomputable section
namespace Go.Proofs.YtdbnankjpnpojaaGreatDoor
open Go.Proofs.Tryz
open Go Go.ChangeShapes Go.WideShapes Rows
abbrev uPg:=Tryz.pinned.checked.prog
theorem anh:uPg.funcNamed procedureUnitsRow.func=some 4:=by kernel_rfl
theorem bz {a b:Bool} (h:a=true) (k:b=true):(a&&b)=true:=by rw[h,k];rfl
theorem ahq {P:Program} {f:FuncId} {fn:Func} {s:ChangeSpec} {c:OpenClaim} (h0:(c.wf (OpenSpec.ofChange s))=true) (h1:(laidOutB P)=true) (h2:(mapsRowed P)=true) (h3:(fn.params.all (P.readableRec ·))=true) (h4:(namedTie P c.named s.vars)=true) (h5:((c.stops== []))=true) (h6:((P.stops== []))=true) (h7:((c.knobs== []))=true) (h8:((P.stopKnobs== []))=true) (h9:((c.inPlace==P.inPlace f))=true) (h10:((c.unfollowed==P.unfollowed f))=true) (h11:((c.recurses==P.recurses f))=true) (h12:((c.named==P.varsNamed f))=true) (h13:((c.maps==(fn.params.toList++s.plain.varTypes P).any (P.mapsRec ·)))=true) (h14:((c.ifaces==(fn.params.toList++s.plain.varTypes P).any (P.ifacesRec ·)))=true) (h15:((c.mapsOut==P.mapsAmong fn.resultTypes.toList))=true) (h16:((c.loops==(fn.params.toList++s.plain.varTypes P).any (P.loopsFrom ·)))=true) (h17:((c.wideKeys==(fn.params.toList++s.plain.varTypes P++fn.resultTypes.toList).any (P.wideKeysFrom ·)))=true) (h18:(s.vars.all (P.varReadable ·))=true) (h19:(fn.resultTypes.all (λt=>P.readableRec t&&decide (t<P.types.size)))=true) (h20:((c.ifacesOut==fn.resultTypes.toList.any (P.ifacesRec ·)))=true) (h21:((c.loopsOut==fn.resultTypes.toList.any (P.loopsFrom ·)))=true) (h22:((c.plainKeys==P.plainKeys))=true) (h23:(c.shortTexts.isNone)=true) (h24:(P.stopsHeard)=true) (h25:(P.mayEnter)=true) (h26:((c.lifted==P.liftsFinal))=true) (h27:((P.make==some c.make))=true) (h28:((c.kinds==(if c.domain.isEmpty then [] else fn.params.toList.map λt=>match P.underlying t with|some (.int k)=>some k|_=>none)))=true) (h29:((c.pinned==c.pinnedBy))=true) (h30:((c.veiled==(fn.params.toList++s.plain.varTypes P++fn.resultTypes.toList).any (P.veiledRec ·)))=true) (h31:(c.veiledFits P fn.params.toList (fn.params.toList++s.plain.varTypes P++fn.resultTypes.toList))=true):joinedFacts P f fn s c=true:=by
 unfold joinedFacts;exact(bz (bz (bz (bz (bz (bz (bz (bz (bz (bz (bz (bz (bz (bz (bz (bz (bz (bz (bz (bz (bz (bz (bz (bz (bz (bz (bz (bz (bz (bz (bz h0 h1) h2) h3) h4) h5) h6) h7) h8) h9) h10) h11) h12) h13) h14) h15) h16) h17) h18) h19) h20) h21) h22) h23) h24) h25) h26) h27) h28) h29) h30) h31)
theorem akQ:(procedureUnitsRow.wf (OpenSpec.ofChange procedureUnitsSpec))=true:=by kernel_rfl
theorem akR:(laidOutB uPg)=true:=by kernel_rfl
theorem akS:(mapsRowed uPg)=true:=by kernel_rfl
theorem akT:(f4.params.all (uPg.readableRec ·))=true:=by kernel_rfl
theorem akU:(namedTie uPg procedureUnitsRow.named procedureUnitsSpec.vars)=true:=by kernel_rfl
theorem akV:((procedureUnitsRow.stops== []))=true:=by kernel_rfl
theorem akW:((uPg.stops== []))=true:=by kernel_rfl
theorem akX:((procedureUnitsRow.knobs== []))=true:=by kernel_rfl
theorem akY:((uPg.stopKnobs== []))=true:=by kernel_rfl
theorem akZ:((procedureUnitsRow.inPlace==uPg.inPlace 4))=true:=by kernel_rfl
theorem ajQ:((procedureUnitsRow.unfollowed==uPg.unfollowed 4))=true:=by kernel_rfl
theorem ajR:((procedureUnitsRow.recurses==uPg.recurses 4))=true:=by kernel_rfl
theorem ajS:((procedureUnitsRow.named==uPg.varsNamed 4))=true:=by kernel_rfl
theorem ajT:((procedureUnitsRow.maps==(f4.params.toList++procedureUnitsSpec.plain.varTypes uPg).any (uPg.mapsRec ·)))=true:=by kernel_rfl
theorem ajU:((procedureUnitsRow.ifaces==(f4.params.toList++procedureUnitsSpec.plain.varTypes uPg).any (uPg.ifacesRec ·)))=true:=by kernel_rfl
theorem ajV:((procedureUnitsRow.mapsOut==uPg.mapsAmong f4.resultTypes.toList))=true:=by kernel_rfl
theorem ajW:((procedureUnitsRow.loops==(f4.params.toList++procedureUnitsSpec.plain.varTypes uPg).any (uPg.loopsFrom ·)))=true:=by kernel_rfl
theorem ajX:((procedureUnitsRow.wideKeys==(f4.params.toList++procedureUnitsSpec.plain.varTypes uPg++f4.resultTypes.toList).any (uPg.wideKeysFrom ·)))=true:=by kernel_rfl
theorem ajY:(procedureUnitsSpec.vars.all (uPg.varReadable ·))=true:=by kernel_rfl
theorem ajZ:(f4.resultTypes.all (λt=>uPg.readableRec t&&decide (t<uPg.types.size)))=true:=by kernel_rfl
theorem aj0:((procedureUnitsRow.ifacesOut==f4.resultTypes.toList.any (uPg.ifacesRec ·)))=true:=by kernel_rfl
theorem aj1:((procedureUnitsRow.loopsOut==f4.resultTypes.toList.any (uPg.loopsFrom ·)))=true:=by kernel_rfl
theorem aj2:((procedureUnitsRow.plainKeys==uPg.plainKeys))=true:=by kernel_rfl
theorem aj3:(procedureUnitsRow.shortTexts.isNone)=true:=by kernel_rfl
theorem aj4:(uPg.stopsHeard)=true:=by kernel_rfl
theorem aj5:(uPg.mayEnter)=true:=by kernel_rfl
theorem aj6:((procedureUnitsRow.lifted==uPg.liftsFinal))=true:=by kernel_rfl
theorem aj7:((uPg.make==some procedureUnitsRow.make))=true:=by kernel_rfl
theorem aj8:((procedureUnitsRow.kinds==(if procedureUnitsRow.domain.isEmpty then [] else f4.params.toList.map λt=>match uPg.underlying t with|some (.int k)=>some k|_=>none)))=true:=by kernel_rfl
theorem aj9:((procedureUnitsRow.pinned==procedureUnitsRow.pinnedBy))=true:=by kernel_rfl
theorem aka:((procedureUnitsRow.veiled==(f4.params.toList++procedureUnitsSpec.plain.varTypes uPg++f4.resultTypes.toList).any (uPg.veiledRec ·)))=true:=by kernel_rfl
theorem akb:(procedureUnitsRow.veiledFits uPg f4.params.toList (f4.params.toList++procedureUnitsSpec.plain.varTypes uPg++f4.resultTypes.toList))=true:=by kernel_rfl
theorem ani:joinedFacts uPg 4 f4 procedureUnitsSpec procedureUnitsRow=true:=
 ahq akQ akR akS akT akU akV akW akX akY akZ ajQ ajR ajS ajT ajU ajV ajW ajX ajY ajZ aj0 aj1 aj2 aj3 aj4 aj5 aj6 aj7 aj8 aj9 aka akb
end Go.Proofs.YtdbnankjpnpojaaGreatDoor
