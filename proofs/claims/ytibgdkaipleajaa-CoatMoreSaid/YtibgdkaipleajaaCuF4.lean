/-
  Chapter 7: more facts on types and functions, by the kernel.
-/
import Derived.Test.YtibgdkaipleajaaCuF3
import Derived.Test.YtibgdkaipleajaaAfC
section
set_option maxRecDepth 100000
namespace Go.Proofs.Ytibgdkaipleajaa
open Go.AF
end Go.Proofs.Ytibgdkaipleajaa
end
