/- Models of functions, and that the code follows them. Written by deco.py. -/
import Derived.Test.YtljogldcejcikaaCmp6
namespace Go.Proofs.Ytljogldcejcikaa
open Go.RowKit

end Go.Proofs.Ytljogldcejcikaa
