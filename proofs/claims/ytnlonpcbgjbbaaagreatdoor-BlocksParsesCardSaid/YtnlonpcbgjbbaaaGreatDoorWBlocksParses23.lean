/-
  BlocksParses, part 23 of its proof: that it returns true for every input, and each argument reads behind the call as it read before. Conditions: the listed variables read as the program's text lays them (tied by the card).
-/
import Derived.Test.YtnlonpcbgjbbaaaGreatDoorWBlocksParses22
set_option linter.unusedVariables false
set_option linter.unusedSimpArgs false
set_option maxRecDepth 20000
namespace Go.Proofs.YtnlonpcbgjbbaaaGreatDoor
open Go Go.E RowKit
attribute [local irreducible] Go.E.T Go.E.L Go.E.O Go.E.Ob
attribute [local irreducible] Go.E.ObX Go.E.ObG Go.E.ObK
theorem Qr {c:CxV} (h:iq c=false):∀ f∈c.fs,f.hs.length≤100000:=fun f hf=>by
 have:=((Qh h).2.2 f hf).1;omega
end Go.Proofs.YtnlonpcbgjbbaaaGreatDoor
