/- Layer 54 in plain words: what must be seen. -/
import Derived.Test.YtbnimhmoffchdaaGreatDoorKD
import Derived.Test.YtbnimhmoffchdaaGreatDoorZR1
namespace Go.Proofs.YtbnimhmoffchdaaGreatDoor

end Go.Proofs.YtbnimhmoffchdaaGreatDoor
