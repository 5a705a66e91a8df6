/- No marks here. -/
import Derived.Test.YtjimamifmpbhgaaGreatDoorPwHelp
namespace Go.Proofs.YtjimamifmpbhgaaGreatDoor
end Go.Proofs.YtjimamifmpbhgaaGreatDoor
