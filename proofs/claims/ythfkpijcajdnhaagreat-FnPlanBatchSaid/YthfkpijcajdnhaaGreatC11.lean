/-
  'DrawPlanFlow' by hand: a list of lists that is cut and written. Maps from structs of numbers to 'true': sets; how the machine's operations on them run. Batches aggregated: the program's function and the reference's. No statement is proved here.
-/
import Derived.Test.YthfkpijcajdnhaaGreatB2
import Derived.IntWalk

namespace Go.Proofs.YthfkpijcajdnhaaGreat
namespace Dp
open Go
set_option maxRecDepth 100000
section
variable {Q:Exit→Act→World→Prop} {B:Nat} {W0:World} {F0:Fz} {a:Act} {w:World} {p:Plan} {l:List LR}
end
end Dp
end Go.Proofs.YthfkpijcajdnhaaGreat

namespace Go.Proofs.YthfkpijcajdnhaaGreat
open Go
section
variable {P:Program} {K n:Nat}
variable {T E:Nat} (M:WW P T K E n) {w:World} {r:Nat} {S:wa} (hr:w.heap[r]? = some (Ha S)) (hm:Xb n S) {ks:List Int} (hk:ks.length=n)
include M hr hm hk
end
end Go.Proofs.YthfkpijcajdnhaaGreat

namespace Go.Proofs.YthfkpijcajdnhaaGreat
open Go Tg
section
variable {a:List Row} (hr:Hb a=true) {kind:Int} (hkind:1≤kind∧kind≤3)
include hr hkind
end
end Go.Proofs.YthfkpijcajdnhaaGreat
