/- Words on rows, worlds and walks that the texts of one law use (chosen by a program out of the seat's printed words). No condition beyond each theorem's own. -/
import Derived.Test.YtoebojnhchocaaaDWN
namespace Go.Proofs.bR.eC
open Go.RowKit
section
variable {w w' u:World} {m B g:Nat} {o:Obj} {row:Option Nat} {S:Nat→Prop} {a:Addr} {v:Value}
theorem Ar (hq:w.drewN m=w') (h:Below B u w):Below B u w':=by subst hq;exact ek h m
theorem At (hq:w.drewN m=w') (h:w.heap[g]?=some o):w'.heap[g]?=some o:=by subst hq;exact h
end
namespace Kd
section
variable {α:Type} {d:Kd α} {e base n m:Nat} {ok:Nat→Prop} {w w':World} {v:Value} {A:Option Addr} {xs:List α}
theorem Ac (hq:w.drewN m=w') (h:d.R e w base ok v xs):d.R e w' base ok v xs:=by subst hq;exact bL h m
end
end Kd
end Go.Proofs.bR.eC
/- Set with little white space, by a program. -/
