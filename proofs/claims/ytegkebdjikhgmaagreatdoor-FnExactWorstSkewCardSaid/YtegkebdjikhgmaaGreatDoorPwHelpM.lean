/- No marks here. -/
import Derived.Test.YtegkebdjikhgmaaGreatDoorPwHelp
namespace Go.Proofs.YtegkebdjikhgmaaGreatDoor
end Go.Proofs.YtegkebdjikhgmaaGreatDoor
