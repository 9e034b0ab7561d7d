/- Part 20 of the proof. -/
import Derived.Test.YtieaiocljdpebaaGreatDoorQ4
set_option linter.all false
open Bool renaming true->J
open Option renaming some->U
namespace Go.Proofs.YtieaiocljdpebaaGreatDoor.Y
open Go.RowKit
noncomputable section
theorem aHp:Ud TB 3000 11 []=U (.ret [.b J]):=by kernel_rfl
theorem aHq:TB.Ev 11 [] (.ret [.b J]):=azy aHp
