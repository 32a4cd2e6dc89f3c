/- The heap, told plainly. No program. -/
import Derived.Test.YtffflnpidipheaaAb22
namespace Go.Ab
theorem s_heap {P : Program} {ops : Array Oper} {r : List Oper} {T : Tm} {H H' : Heap} {K : Tm → Heap → Prop} (e : H = H') (k : SK P ops r T H' K) : SK P ops r T H K := e ▸ k
theorem w_heap {E : Env} {c : Code} {T : Tm} {H H' : Heap} {Q : Exit → Tm → Heap → Prop} (e : H = H') (k : Wp E c T H' Q) : Wp E c T H Q := e ▸ k
end Go.Ab
