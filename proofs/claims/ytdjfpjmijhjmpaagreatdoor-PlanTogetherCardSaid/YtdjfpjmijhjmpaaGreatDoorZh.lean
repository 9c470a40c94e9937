import Derived.Test.YtdjfpjmijhjmpaaGreatDoorZg
import Derived.Test.YtdjfpjmijhjmpaaGreatDoorRows
import Derived.Test.YtdjfpjmijhjmpaaGreatDoorCards
import Derived.SevenTiedAt
set_option linter.unusedVariables false
set_option linter.unusedSimpArgs false
noncomputable section
namespace Go.Proofs.YtdjfpjmijhjmpaaGreatDoor
open Go Go.ChangeShapes Go.WideShapes
theorem aJC:Tryz.pinned.checked.prog.funcNamed Rows.planTogetherRow.func=some 4:=by kernel_rfl
theorem bz {a b:Bool} (h:a=true) (k:b=true):(a&&b)=true:=by rw[h,k];rfl
def jF (P:Program) (f:FuncId) (fn:Func) (s:ChangeSpec) (c:OpenClaim) (k:Nat):Bool:=match k with
 |0=>c.wf (OpenSpec.ofChange s)
 |1=>laidOutB P
 |2=>mapsRowed P
 |3=>fn.params.all (P.readableRec ·)
 |4=>namedTie P c.named s.vars
 |5=>(c.stops== [])
 |6=>(P.stops== [])
 |7=>(c.knobs== [])
 |8=>(P.stopKnobs== [])
 |9=>(c.inPlace==P.inPlace f)
 |10=>(c.unfollowed==P.unfollowed f)
 |11=>(c.recurses==P.recurses f)
 |12=>(c.named==P.varsNamed f)
 |13=>(c.maps==(fn.params.toList++s.plain.varTypes P).any (P.mapsRec ·))
 |14=>(c.ifaces==(fn.params.toList++s.plain.varTypes P).any (P.ifacesRec ·))
 |15=>(c.mapsOut==P.mapsAmong fn.resultTypes.toList)
 |16=>(c.loops==(fn.params.toList++s.plain.varTypes P).any (P.loopsFrom ·))
 |17=>(c.wideKeys==(fn.params.toList++s.plain.varTypes P++fn.resultTypes.toList).any (P.wideKeysFrom ·))
 |18=>s.vars.all (P.varReadable ·)
 |19=>fn.resultTypes.all (λt=>P.readableRec t&&decide (t<P.types.size))
 |20=>(c.ifacesOut==fn.resultTypes.toList.any (P.ifacesRec ·))
 |21=>(c.loopsOut==fn.resultTypes.toList.any (P.loopsFrom ·))
 |22=>(c.plainKeys==P.plainKeys)
 |23=>c.shortTexts.isNone
 |24=>P.stopsHeard
 |25=>P.mayEnter
 |26=>(c.lifted==P.liftsFinal)
 |27=>(P.make==some c.make)
 |28=>(c.kinds==(if c.domain.isEmpty then [] else fn.params.toList.map λt=>match P.underlying t with|some (.int k)=>some k|_=>none))
 |29=>(c.pinned==c.pinnedBy)
 |30=>(c.veiled==(fn.params.toList++s.plain.varTypes P++fn.resultTypes.toList).any (P.veiledRec ·))
 |31=>c.veiledFits P fn.params.toList (fn.params.toList++s.plain.varTypes P++fn.resultTypes.toList)
 |_=>true
theorem ahq {P:Program} {f:FuncId} {fn:Func} {s:ChangeSpec} {c:OpenClaim} (h: ∀k,jF P f fn s c k=true):joinedFacts P f fn s c=true:=by
 unfold joinedFacts;exact bz (bz (bz (bz (bz (bz (bz (bz (bz (bz (bz (bz (bz (bz (bz (bz (bz (bz (bz (bz (bz (bz (bz (bz (bz (bz (bz (bz (bz (bz (bz (h 0) (h 1)) (h 2)) (h 3)) (h 4)) (h 5)) (h 6)) (h 7)) (h 8)) (h 9)) (h 10)) (h 11)) (h 12)) (h 13)) (h 14)) (h 15)) (h 16)) (h 17)) (h 18)) (h 19)) (h 20)) (h 21)) (h 22)) (h 23)) (h 24)) (h 25)) (h 26)) (h 27)) (h 28)) (h 29)) (h 30)) (h 31)
def jQ (k:Nat):Bool:=jF Tryz.pinned.checked.prog 4 Tryz.f4 Rows.planTogetherSpec Rows.planTogetherRow k
theorem akQ:jQ 0=true:=by kernel_rfl
theorem akR:jQ 1=true:=by kernel_rfl
theorem akS:jQ 2=true:=by kernel_rfl
theorem akT:jQ 3=true:=by kernel_rfl
theorem akU:jQ 4=true:=by kernel_rfl
theorem akV:jQ 5=true:=by kernel_rfl
theorem akW:jQ 6=true:=by kernel_rfl
theorem akX:jQ 7=true:=by kernel_rfl
theorem akY:jQ 8=true:=by kernel_rfl
theorem akZ:jQ 9=true:=by kernel_rfl
theorem ajQ:jQ 10=true:=by kernel_rfl
theorem ajR:jQ 11=true:=by kernel_rfl
theorem ajS:jQ 12=true:=by kernel_rfl
theorem ajT:jQ 13=true:=by kernel_rfl
theorem ajU:jQ 14=true:=by kernel_rfl
theorem ajV:jQ 15=true:=by kernel_rfl
theorem ajW:jQ 16=true:=by kernel_rfl
theorem ajX:jQ 17=true:=by kernel_rfl
theorem ajY:jQ 18=true:=by kernel_rfl
theorem ajZ:jQ 19=true:=by kernel_rfl
theorem aj0:jQ 20=true:=by kernel_rfl
theorem aj1:jQ 21=true:=by kernel_rfl
theorem aj2:jQ 22=true:=by kernel_rfl
theorem aj3:jQ 23=true:=by kernel_rfl
theorem aj4:jQ 24=true:=by kernel_rfl
theorem aj5:jQ 25=true:=by kernel_rfl
theorem aj6:jQ 26=true:=by kernel_rfl
theorem aj7:jQ 27=true:=by kernel_rfl
theorem aj8:jQ 28=true:=by kernel_rfl
theorem aj9:jQ 29=true:=by kernel_rfl
theorem aka:jQ 30=true:=by kernel_rfl
theorem akb:jQ 31=true:=by kernel_rfl
theorem aJD:joinedFacts Tryz.pinned.checked.prog 4 Tryz.f4 Rows.planTogetherSpec Rows.planTogetherRow=true:=ahq λk=>match k with
 |0=>akQ
 |1=>akR
 |2=>akS
 |3=>akT
 |4=>akU
 |5=>akV
 |6=>akW
 |7=>akX
 |8=>akY
 |9=>akZ
 |10=>ajQ
 |11=>ajR
 |12=>ajS
 |13=>ajT
 |14=>ajU
 |15=>ajV
 |16=>ajW
 |17=>ajX
 |18=>ajY
 |19=>ajZ
 |20=>aj0
 |21=>aj1
 |22=>aj2
 |23=>aj3
 |24=>aj4
 |25=>aj5
 |26=>aj6
 |27=>aj7
 |28=>aj8
 |29=>aj9
 |30=>aka
 |31=>akb
 |_+32=>rfl
end Go.Proofs.YtdjfpjmijhjmpaaGreatDoor
