/- Parts: N27, N28. -/
import Derived.Test.YtjhbglklcddekaaGreatDoorQ31
import Derived.Test.YtjhbglklcddekaaGreatDoorQ21
import Derived.Test.YtjhbglklcddekaaGreatDoorQ35
import Derived.Test.YtjhbglklcddekaaGreatDoorQ32
import Derived.Test.YtjhbglklcddekaaGreatDoorQ34
set_option linter.all false
set_option maxRecDepth 100000
set_option maxHeartbeats 16000000
namespace Go.Proofs.YtjhbglklcddekaaGreatDoor
open Go.RowKit Go.Proofs.Tryz
section
open Go.RowKit Nd
namespace Nd
end Nd
end
section
open Go.RowKit Nd
attribute [local irreducible] TR TC
end
end Go.Proofs.YtjhbglklcddekaaGreatDoor
