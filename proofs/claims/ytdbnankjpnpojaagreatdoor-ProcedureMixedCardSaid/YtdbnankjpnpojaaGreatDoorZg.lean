import Derived.Test.YtdbnankjpnpojaaGreatDoorZf
import Derived.Test.YtdbnankjpnpojaaGreatDoorRows
import Derived.Test.YtdbnankjpnpojaaGreatDoorCards
import Derived.SevenTiedAt
set_option linter.unusedVariables false
set_option linter.unusedSimpArgs false
namespace Go.Proofs.YtdbnankjpnpojaaGreatDoor
open Go.Proofs.Tryz
open Go Go.ChangeShapes Go.WideShapes
theorem acp:Tryz.pinned.checked.prog.funcNamed Rows.procedureMixedRow.func=some 6:=by kernel_rfl
theorem bothTrue {a b:Bool} (h:a=true) (k:b=true):(a&&b)=true:=by rw[h,k];rfl
theorem joinedOf {P:Program} {f:FuncId} {fn:Func} {s:ChangeSpec} {c:OpenClaim} (h0:(c.wf (OpenSpec.ofChange s))=true) (h1:(laidOutB P)=true) (h2:(mapsRowed P)=true) (h3:(fn.params.all (P.readableRec ·))=true) (h4:(namedTie P c.named s.vars)=true) (h5:((c.stops== []))=true) (h6:((P.stops== []))=true) (h7:((c.knobs== []))=true) (h8:((P.stopKnobs== []))=true) (h9:((c.inPlace==P.inPlace f))=true) (h10:((c.unfollowed==P.unfollowed f))=true) (h11:((c.recurses==P.recurses f))=true) (h12:((c.named==P.varsNamed f))=true) (h13:((c.maps==(fn.params.toList++s.plain.varTypes P).any (P.mapsRec ·)))=true) (h14:((c.ifaces==(fn.params.toList++s.plain.varTypes P).any (P.ifacesRec ·)))=true) (h15:((c.mapsOut==P.mapsAmong fn.resultTypes.toList))=true) (h16:((c.loops==(fn.params.toList++s.plain.varTypes P).any (P.loopsFrom ·)))=true) (h17:((c.wideKeys==(fn.params.toList++s.plain.varTypes P++fn.resultTypes.toList).any (P.wideKeysFrom ·)))=true) (h18:(s.vars.all (P.varReadable ·))=true) (h19:(fn.resultTypes.all (λt=>P.readableRec t&&decide (t<P.types.size)))=true) (h20:((c.ifacesOut==fn.resultTypes.toList.any (P.ifacesRec ·)))=true) (h21:((c.loopsOut==fn.resultTypes.toList.any (P.loopsFrom ·)))=true) (h22:((c.plainKeys==P.plainKeys))=true) (h23:(c.shortTexts.isNone)=true) (h24:(P.stopsHeard)=true) (h25:(P.mayEnter)=true) (h26:((c.lifted==P.liftsFinal))=true) (h27:((P.make==some c.make))=true) (h28:((c.kinds==(if c.domain.isEmpty then [] else fn.params.toList.map λt=>match P.underlying t with|some (.int k)=>some k|_=>none)))=true) (h29:((c.pinned==c.pinnedBy))=true) (h30:((c.veiled==(fn.params.toList++s.plain.varTypes P++fn.resultTypes.toList).any (P.veiledRec ·)))=true) (h31:(c.veiledFits P fn.params.toList (fn.params.toList++s.plain.varTypes P++fn.resultTypes.toList))=true):joinedFacts P f fn s c=true:=by
 unfold joinedFacts;exact(bothTrue (bothTrue (bothTrue (bothTrue (bothTrue (bothTrue (bothTrue (bothTrue (bothTrue (bothTrue (bothTrue (bothTrue (bothTrue (bothTrue (bothTrue (bothTrue (bothTrue (bothTrue (bothTrue (bothTrue (bothTrue (bothTrue (bothTrue (bothTrue (bothTrue (bothTrue (bothTrue (bothTrue (bothTrue (bothTrue (bothTrue h0 h1) h2) h3) h4) h5) h6) h7) h8) h9) h10) h11) h12) h13) h14) h15) h16) h17) h18) h19) h20) h21) h22) h23) h24) h25) h26) h27) h28) h29) h30) h31)
theorem d9_j0:(Rows.procedureMixedRow.wf (OpenSpec.ofChange Rows.procedureMixedSpec))=true:=by kernel_rfl
theorem d9_j1:(laidOutB Tryz.pinned.checked.prog)=true:=by kernel_rfl
theorem d9_j2:(mapsRowed Tryz.pinned.checked.prog)=true:=by kernel_rfl
theorem d9_j3:(f6.params.all (Tryz.pinned.checked.prog.readableRec ·))=true:=by kernel_rfl
theorem d9_j4:(namedTie Tryz.pinned.checked.prog Rows.procedureMixedRow.named Rows.procedureMixedSpec.vars)=true:=by kernel_rfl
theorem d9_j5:((Rows.procedureMixedRow.stops== []))=true:=by kernel_rfl
theorem d9_j6:((Tryz.pinned.checked.prog.stops== []))=true:=by kernel_rfl
theorem d9_j7:((Rows.procedureMixedRow.knobs== []))=true:=by kernel_rfl
theorem d9_j8:((Tryz.pinned.checked.prog.stopKnobs== []))=true:=by kernel_rfl
theorem d9_j9:((Rows.procedureMixedRow.inPlace==Tryz.pinned.checked.prog.inPlace 6))=true:=by kernel_rfl
theorem d9_j10:((Rows.procedureMixedRow.unfollowed==Tryz.pinned.checked.prog.unfollowed 6))=true:=by kernel_rfl
theorem d9_j11:((Rows.procedureMixedRow.recurses==Tryz.pinned.checked.prog.recurses 6))=true:=by kernel_rfl
theorem d9_j12:((Rows.procedureMixedRow.named==Tryz.pinned.checked.prog.varsNamed 6))=true:=by kernel_rfl
theorem d9_j13:((Rows.procedureMixedRow.maps==(f6.params.toList++Rows.procedureMixedSpec.plain.varTypes Tryz.pinned.checked.prog).any (Tryz.pinned.checked.prog.mapsRec ·)))=true:=by kernel_rfl
theorem d9_j14:((Rows.procedureMixedRow.ifaces==(f6.params.toList++Rows.procedureMixedSpec.plain.varTypes Tryz.pinned.checked.prog).any (Tryz.pinned.checked.prog.ifacesRec ·)))=true:=by kernel_rfl
theorem d9_j15:((Rows.procedureMixedRow.mapsOut==Tryz.pinned.checked.prog.mapsAmong f6.resultTypes.toList))=true:=by kernel_rfl
theorem d9_j16:((Rows.procedureMixedRow.loops==(f6.params.toList++Rows.procedureMixedSpec.plain.varTypes Tryz.pinned.checked.prog).any (Tryz.pinned.checked.prog.loopsFrom ·)))=true:=by kernel_rfl
theorem d9_j17:((Rows.procedureMixedRow.wideKeys==(f6.params.toList++Rows.procedureMixedSpec.plain.varTypes Tryz.pinned.checked.prog++f6.resultTypes.toList).any (Tryz.pinned.checked.prog.wideKeysFrom ·)))=true:=by kernel_rfl
theorem d9_j18:(Rows.procedureMixedSpec.vars.all (Tryz.pinned.checked.prog.varReadable ·))=true:=by kernel_rfl
theorem d9_j19:(f6.resultTypes.all (λt=>Tryz.pinned.checked.prog.readableRec t&&decide (t<Tryz.pinned.checked.prog.types.size)))=true:=by kernel_rfl
theorem d9_j20:((Rows.procedureMixedRow.ifacesOut==f6.resultTypes.toList.any (Tryz.pinned.checked.prog.ifacesRec ·)))=true:=by kernel_rfl
theorem d9_j21:((Rows.procedureMixedRow.loopsOut==f6.resultTypes.toList.any (Tryz.pinned.checked.prog.loopsFrom ·)))=true:=by kernel_rfl
theorem d9_j22:((Rows.procedureMixedRow.plainKeys==Tryz.pinned.checked.prog.plainKeys))=true:=by kernel_rfl
theorem d9_j23:(Rows.procedureMixedRow.shortTexts.isNone)=true:=by kernel_rfl
theorem d9_j24:(Tryz.pinned.checked.prog.stopsHeard)=true:=by kernel_rfl
theorem d9_j25:(Tryz.pinned.checked.prog.mayEnter)=true:=by kernel_rfl
theorem d9_j26:((Rows.procedureMixedRow.lifted==Tryz.pinned.checked.prog.liftsFinal))=true:=by kernel_rfl
theorem d9_j27:((Tryz.pinned.checked.prog.make==some Rows.procedureMixedRow.make))=true:=by kernel_rfl
theorem d9_j28:((Rows.procedureMixedRow.kinds==(if Rows.procedureMixedRow.domain.isEmpty then [] else f6.params.toList.map λt=>match Tryz.pinned.checked.prog.underlying t with|some (.int k)=>some k|_=>none)))=true:=by kernel_rfl
theorem d9_j29:((Rows.procedureMixedRow.pinned==Rows.procedureMixedRow.pinnedBy))=true:=by kernel_rfl
theorem d9_j30:((Rows.procedureMixedRow.veiled==(f6.params.toList++Rows.procedureMixedSpec.plain.varTypes Tryz.pinned.checked.prog++f6.resultTypes.toList).any (Tryz.pinned.checked.prog.veiledRec ·)))=true:=by kernel_rfl
theorem d9_j31:(Rows.procedureMixedRow.veiledFits Tryz.pinned.checked.prog f6.params.toList (f6.params.toList++Rows.procedureMixedSpec.plain.varTypes Tryz.pinned.checked.prog++f6.resultTypes.toList))=true:=by kernel_rfl
theorem acq:joinedFacts Tryz.pinned.checked.prog 6 f6 Rows.procedureMixedSpec Rows.procedureMixedRow=true:=
 joinedOf d9_j0 d9_j1 d9_j2 d9_j3 d9_j4 d9_j5 d9_j6 d9_j7 d9_j8 d9_j9 d9_j10 d9_j11 d9_j12 d9_j13 d9_j14 d9_j15 d9_j16 d9_j17 d9_j18 d9_j19 d9_j20 d9_j21 d9_j22 d9_j23 d9_j24 d9_j25 d9_j26 d9_j27 d9_j28 d9_j29 d9_j30 d9_j31
end Go.Proofs.YtdbnankjpnpojaaGreatDoor
