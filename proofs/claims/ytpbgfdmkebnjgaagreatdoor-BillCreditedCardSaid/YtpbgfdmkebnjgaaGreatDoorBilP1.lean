/- Layer 54 in plain words: what must be seen. -/
import Derived.Test.YtpbgfdmkebnjgaaGreatDoorKD
import Derived.Test.YtpbgfdmkebnjgaaGreatDoorBAwake
namespace Go.Proofs.YtpbgfdmkebnjgaaGreatDoor

theorem bilAwake_eq : m_recyclinglaw54_awake 40000 = some true := by decide +kernel
end Go.Proofs.YtpbgfdmkebnjgaaGreatDoor
