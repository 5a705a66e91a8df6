/- No marks here. -/
import Derived.Test.YtdbmhfpphobmpaaGreatDoorPwHelp
namespace Go.Proofs.YtdbmhfpphobmpaaGreatDoor
end Go.Proofs.YtdbmhfpphobmpaaGreatDoor
