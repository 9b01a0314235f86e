/- Words of this session for a region whose order is drawn: its operations one behind the other in an order that is told, each that only looks taken first, what looks stay true as long as all that stood at its start stands; no condition beyond those of each statement. -/
import Derived.Test.YtdimppdlfgnhgaaGreatDoorVFnExactParsePartXt
namespace Go.Proofs.YtdimppdlfgnhgaaGreatDoor.X
open Go.RowKit Go.Proofs.YtdimppdlfgnhgaaGreatDoorW.eP Go.Proofs.YtdimppdlfgnhgaaGreatDoorW.lF Go.Proofs.YtdimppdlfgnhgaaGreatDoorW.mX
section
variable {P:Program} {ops:Array Oper} {Q:Exit→Act→World→Prop} {S:World→Prop}
end
end Go.Proofs.YtdimppdlfgnhgaaGreatDoor.X
