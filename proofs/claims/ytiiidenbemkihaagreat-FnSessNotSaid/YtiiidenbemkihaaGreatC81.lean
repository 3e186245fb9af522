/-
  How the abstract state follows the machine's: what a new value, or more memory, leaves as it was. Each operation's run, as the abstract evaluator tells it: those that make no memory. Each operation's run, as the abstract evaluator tells it: addresses, loads, indices. Each operation's run, as the abstract evaluator tells it: indices, slices, lengths, conversions. Each operation's run, as the abstract evaluator tells it: those that make memory. Each operation's run, as the abstract evaluator tells it: all but the calls, in one theorem. Contracts of functions, and a call by a contract. One operation, whichever it is, as the machine runs it. One operation of the simple kind moves the abstract state as the evaluator tells it. One operation of the simple kind, guards and all. Rights that go from slot to slot. 'append': in place, or into a new block. No statement is proved here.
-/
import Derived.Test.YtiiidenbemkihaaGreatB3
import Derived.Laws.IdiomCopy
import Derived.Laws.AppendOwn
import Derived.Laws.MakeOwn
import Derived.Laws.StructEq
import Derived.Laws.Slices
import Derived.Tactics
import Derived.Test.YtiiidenbemkihaaGreatProg
import Derived.Shelf.SlSortFuncK.WholeK
import Derived.Shelf.GgSortFunc.Tiny
import Derived.Tactics2
import Derived.IntWalk

namespace Go.Proofs.YtiiidenbemkihaaGreat
open Go
section
variable {F F':Fz}{w w':World} (hg:Ta F w F' w') (hl:Live F w)
include hg hl
end
end Go.Proofs.YtiiidenbemkihaaGreat

namespace Go.Proofs.YtiiidenbemkihaaGreat
open Go
section
variable {P:Program}{F:Fz}{B:Nat}{w:World}{a:Act}{ge g:Get}{ow:Nat->Option Nat->Option Nat}
end
end Go.Proofs.YtiiidenbemkihaaGreat

namespace Go.Proofs.YtiiidenbemkihaaGreat
open Go
section
variable {P:Program}{w:World}
variable {F:Fz}{B:Nat}{a:Act}{ge g:Get}{ow:Nat->Option Nat->Option Nat}
end
end Go.Proofs.YtiiidenbemkihaaGreat

namespace Go.Proofs.YtiiidenbemkihaaGreat
open Go
section
variable {P:Program}{tt:TT} (htt:Xb P tt)
include htt
end
section
variable {P:Program}{w:World}{F:Fz}{B:Nat}
variable {a:Act}{ge g:Get}{ow:Nat->Option Nat->Option Nat}
end
end Go.Proofs.YtiiidenbemkihaaGreat

namespace Go.Proofs.YtiiidenbemkihaaGreat
open Go
section
variable {P:Program}{w:World}{F:Fz}{B:Nat}
variable {a:Act}{ge g:Get}{ow:Nat->Option Nat->Option Nat}
end
end Go.Proofs.YtiiidenbemkihaaGreat

namespace Go.Proofs.YtiiidenbemkihaaGreat
open Go
section
variable {P:Program}{w:World}{F:Fz}{B:Nat}{a:Act}{ge raw:Get}{ow:Nat->Option Nat->Option Nat}
end
end Go.Proofs.YtiiidenbemkihaaGreat

namespace Go.Proofs.YtiiidenbemkihaaGreat
open Go
section
variable {P:Program}{w:World}{F:Fz}{B:Nat}{a:Act}{ge g:Get}{ow:Nat->Option Nat->Option Nat}
end
end Go.Proofs.YtiiidenbemkihaaGreat

namespace Go.Proofs.YtiiidenbemkihaaGreat
open Go
section
variable {P:Program}{w:World}{F:Fz}{B:Nat}{a:Act}{ge raw:Get}{ow:Nat->Option Nat->Option Nat}
end
end Go.Proofs.YtiiidenbemkihaaGreat

namespace Go.Proofs.YtiiidenbemkihaaGreat
open Go
section
variable {w w1:World}{F:Fz}{B:Nat}{b:Nat} (hp:Pk w b w1) (hF:Le F w w1)
include hp hF
end
end Go.Proofs.YtiiidenbemkihaaGreat

namespace Go.Proofs.YtiiidenbemkihaaGreat
open Go
section
variable {P:Program}{tt:TT} (htt:Xb P tt) {sp:SP} (hsp:∀f s,spk sp f=some s->Con P f s)
include htt hsp
end
end Go.Proofs.YtiiidenbemkihaaGreat

namespace Go.Proofs.YtiiidenbemkihaaGreat
open Go
section
variable {B:Nat}{IoB:List Nat}{F0 F:Fz}{e:Env}{tm:Nat->Value}{w:World}{ow:Nat->Option Nat->Option Nat}
end
section
variable {P:Program}
end
end Go.Proofs.YtiiidenbemkihaaGreat

namespace Go.Proofs.YtiiidenbemkihaaGreat
open Go
section
variable {B:Nat}{IoB:List Nat}{F0 F:Fz}{e:Env}{tm:Nat->Value}{w:World}{ow:Nat->Option Nat->Option Nat}
end
section
variable {P:Program}{B:Nat}{IoB:List Nat}{F0 F:Fz}{e:Env}{tm:Nat->Value}{w:World}{ow:Nat->Option Nat->Option Nat}
end
end Go.Proofs.YtiiidenbemkihaaGreat

namespace Go.Proofs.YtiiidenbemkihaaGreat
open Go
section
variable {B:Nat}{IoB:List Nat}{F0 F:Fz}{e:Env}{tm:Nat->Value}{w:World}{ow:Nat->Option Nat->Option Nat}
end
section
variable {P:Program}{B:Nat}{IoB:List Nat}{F0 F:Fz}{e:Env}{w:World}{ow:Nat->Option Nat->Option Nat}{a:Act}
end
end Go.Proofs.YtiiidenbemkihaaGreat

namespace Go.Proofs.YtiiidenbemkihaaGreat
open Go
section
variable {P:Program}
variable {B:Nat}{IoB:List Nat}{F0 F:Fz}{e:Env}{w:World}{ow:Nat->Option Nat->Option Nat}{a:Act}
end
end Go.Proofs.YtiiidenbemkihaaGreat

namespace Go.Proofs.YtiiidenbemkihaaGreat
open Go
section
variable {P:Program}{tt:TT}{B:Nat}{IoB:List Nat}{F0 F:Fz}{e:Env}{w:World}{ow:Nat->Option Nat->Option Nat}{a:Act}
variable {sp:SP}
end
end Go.Proofs.YtiiidenbemkihaaGreat

namespace Go.Proofs.YtiiidenbemkihaaGreat
open Go
section
variable {E:Nat->Env}{W:Nat->List Nat}{L:Nat->Bool}
end
end Go.Proofs.YtiiidenbemkihaaGreat

namespace Go.Proofs.YtiiidenbemkihaaGreat
open Go
section
variable {P:Program}{tt:TT}{sp:SP}{B:Nat}{IoB:List Nat}{F0:Fz}{N:NP}{W0:World}
end
end Go.Proofs.YtiiidenbemkihaaGreat

namespace Go.Proofs.YtiiidenbemkihaaGreat
open Go
section
variable {B:Nat}{IoB:List Nat}{F0 F:Fz}{e:Env}{tm:Nat->Value}{w:World}{ow:Nat->Option Nat->Option Nat}
end
section
variable {P:Program}{tt:TT}{sp:SP}{B:Nat}{IoB:List Nat}{F0:Fz}{N:NP}{W0:World}
end
end Go.Proofs.YtiiidenbemkihaaGreat

namespace Go.Proofs.YtiiidenbemkihaaGreat
open Go
section
variable {P:Program}{tt:TT}{sp:SP}{N:NP}{fr:Fr}{c:Code}{e:Env}{n r:Env->Prop}{x:Nat->Env->Prop}
end
open Classical in
section
variable {P:Program}{N:NP}{fr:Fr}{c:Code}{n r:Env->Prop}{x:Nat->Env->Prop}
end
end Go.Proofs.YtiiidenbemkihaaGreat

namespace Go.Proofs.YtiiidenbemkihaaGreat
open Go
section
variable {P:Program}{tt:TT}{N:NP}{fr:Fr}{c:Code}{e:Env}{n r:Env->Prop}{x:Nat->Env->Prop}
end
section
variable {P:Program}{N:NP}{fr:Fr}{c:Code}{e:Env}{n r:Env->Prop}{x:Nat->Env->Prop}
end
end Go.Proofs.YtiiidenbemkihaaGreat

namespace Go.Proofs.YtiiidenbemkihaaGreat
open Go
section
variable {P:Program}{tt:TT}{B:Nat}{IoB:List Nat}{F0 F:Fz}{e:Env}{w:World}{ow:Nat->Option Nat->Option Nat}{a:Act}
end
end Go.Proofs.YtiiidenbemkihaaGreat

namespace Go.Proofs.YtiiidenbemkihaaGreat
open Go
section
variable {P:Program}{tt:TT}{N:NP}{fr:Fr}{c:Code}{e:Env}{n r:Env->Prop}{x:Nat->Env->Prop}
end
end Go.Proofs.YtiiidenbemkihaaGreat

namespace Go.Proofs.YtiiidenbemkihaaGreat
open Go
section
variable {R A X Y Z:Type}
end
section
variable (tt:TT) (sp:SP) (N:NP) (F:Fnn) (kp:List (Nat×List Nat)) (tb:List (Nat×Nat)) (af:List (Nat×Bool×Nat)) {R:Type} (subs:Ki R)
end
section
variable {P:Program}{tt:TT}{sp:SP}{N:NP}{F:Fnn}{kp:List (Nat×List Nat)}{tb:List (Nat×Nat)}{af:List (Nat×Bool×Nat)}{R:Type}{subs:Ki R}{fr:Fr}{C:Code}{n:Env->Prop}{r:RV->Prop}{x:Nat->Env->Prop}
end
end Go.Proofs.YtiiidenbemkihaaGreat

namespace Go.Proofs.YtiiidenbemkihaaGreat
open Go
section
variable {P:Program}
end
end Go.Proofs.YtiiidenbemkihaaGreat

namespace Go.Proofs.YtiiidenbemkihaaGreat
open Go
section
variable {w w':World}{F:Fz}{r:Nat}{B:Nat} (hp:Pk w r w') {o0:Obj} (ho:w.heap[r]? = some o0) (hc:isC o0=false)
include hp ho hc
end
section
variable {P:Program}{N:NP}{B:Nat}{IoB:List Nat}{W0:World}{F0:Fz}{obs:List (Nat×Obj)}{e:Env}{a:Act}{w:World}
end
section
variable {P:Program}{ops:Array Oper}{Q:Exit->Act->World->Prop}
end
end Go.Proofs.YtiiidenbemkihaaGreat

namespace Go.Proofs.YtiiidenbemkihaaGreat
open Go
section
variable {P:Program}{K n:Nat}
variable {T E:Nat} (M:JK P T K E n) {w:World}{r:Nat}{m:MP} (hr:w.heap[r]? = some (xa m)) (hm:Gb n m) {ks:List Int} (hk:ks.length=n)
include M hr
include hm hk
omit hm hk in
end
section
variable {P:Program}{w:World}{r it:Nat}{m:MP} (hr:w.heap[r]? = some (xa m)) {S:List Nat} (hit:w.heap[it]? = some (Cb r m S))
include hr hit
end
end Go.Proofs.YtiiidenbemkihaaGreat

namespace Go.Proofs.YtiiidenbemkihaaGreat
open Go
section
variable {P:Program}
end
end Go.Proofs.YtiiidenbemkihaaGreat

namespace Go.Proofs.YtiiidenbemkihaaGreat
open Go
section
variable {P:Program}{a:Act}{w:World}{o:Oper}
end
end Go.Proofs.YtiiidenbemkihaaGreat

namespace Go.Proofs.YtiiidenbemkihaaGreat
open Go
section
variable {P:Program}{N:NP}{B:Nat}{IoB:List Nat}{W0:World}{F0:Fz}{obs:List (Nat×Obj)}{e:Env}{a:Act}{w:World}{Q:Exit->Act->World->Prop}
end
end Go.Proofs.YtiiidenbemkihaaGreat

namespace Go.Proofs.YtiiidenbemkihaaGreat
open Go
section
variable {P:Program}{tt:TT}{sp:SP}{B:Nat}{IoB:List Nat}{F0:Fz}{N:NP}{W0:World}
end
end Go.Proofs.YtiiidenbemkihaaGreat

namespace Go.Proofs.YtiiidenbemkihaaGreat
open Go
section
variable {P:Program}{N:NP}{B:Nat}{IoB:List Nat}{W0:World}{F0:Fz}{obs:List (Nat×Obj)}{e:Env}{a:Act}{w:World}
end
end Go.Proofs.YtiiidenbemkihaaGreat

namespace Go.Proofs.YtiiidenbemkihaaGreat
open Go
section
variable {P:Program}{tt:TT}{N:NP}{sp:SP}{fr:Fr}{C:Code}{F:Fnn}{R:Type}
end
section
variable {P:Program}{tt:TT}{sp:SP}
end
end Go.Proofs.YtiiidenbemkihaaGreat

namespace Go.Proofs.YtiiidenbemkihaaGreat
open Go
section
variable {N:NP}{B:Nat}{IoB:List Nat}{W0:World}{F0:Fz}{obs:List (Nat×Obj)}{e:Env}{a:Act}{w:World}
end
end Go.Proofs.YtiiidenbemkihaaGreat

namespace Go.Proofs.YtiiidenbemkihaaGreat
open Go
section
variable {F:Fz}{B:Nat}{w w1:World}{b:Nat}{o:Option Nat->Option Nat}
end
end Go.Proofs.YtiiidenbemkihaaGreat

namespace Go.Proofs.YtiiidenbemkihaaGreat
open Go
section
variable {P:Program}{tt:TT}{sp:SP}{a:Act}{w:World}
end
end Go.Proofs.YtiiidenbemkihaaGreat

namespace Go.Proofs.YtiiidenbemkihaaGreat
open Go
section
variable {P:Program}{tt:TT}{sp:SP}{B:Nat}{IoB:List Nat}{F0:Fz}{N:NP}{W0:World}
end
end Go.Proofs.YtiiidenbemkihaaGreat

namespace Go.Proofs.YtiiidenbemkihaaGreat
open Go Go.Shelf Go.RowKit Go.Lib Go.Sort
section
variable {P:Program}{α:Type} [Inhabited α] {enc:α->List Value}{k:Nat}{w w0 W:World}{blk off:Nat}{d dk X:Array α}
variable {g:Nat}{lb:Array Value}{lt:α->α->Bool}{size:Nat}
end
end Go.Proofs.YtiiidenbemkihaaGreat

namespace Go.Proofs.YtiiidenbemkihaaGreat
open Go Go.Shelf Go.RowKit Go.Lib Go.Sort
variable {P:Program}{ρ:Ren}{α:Type} [Inhabited α]
end Go.Proofs.YtiiidenbemkihaaGreat

namespace Go.Proofs.YtiiidenbemkihaaGreat
open Go Go.Shelf Go.RowKit Go.Lib Go.Sort
variable {P:Program}{ρ:Ren}{α:Type} [Inhabited α]
end Go.Proofs.YtiiidenbemkihaaGreat

namespace Go.Proofs.YtiiidenbemkihaaGreat
open Go Go.Shelf Go.RowKit Go.Lib Go.Sort
variable {P:Program}{ρ:Ren}{α:Type} [Inhabited α]
end Go.Proofs.YtiiidenbemkihaaGreat

namespace Go.Proofs.YtiiidenbemkihaaGreat
open Go Go.Shelf Go.RowKit Go.Lib Go.Sort
variable {P:Program}{ρ:Ren}{α:Type} [Inhabited α]
end Go.Proofs.YtiiidenbemkihaaGreat

namespace Go.Proofs.YtiiidenbemkihaaGreat
open Go Go.Shelf Go.RowKit Go.Lib Go.Sort
variable {P:Program}{ρ:Ren}{α:Type} [Inhabited α]
end Go.Proofs.YtiiidenbemkihaaGreat

namespace Go.Proofs.YtiiidenbemkihaaGreat
open Go Go.Shelf Go.RowKit Go.Lib Go.Sort
variable {P:Program}{ρ:Ren}{α:Type} [Inhabited α]
end Go.Proofs.YtiiidenbemkihaaGreat

namespace Go.Proofs.YtiiidenbemkihaaGreat
open Go Go.Shelf Go.RowKit Go.Lib Go.Sort
variable {P:Program}{ρ:Ren}{α:Type} [Inhabited α]
end Go.Proofs.YtiiidenbemkihaaGreat

namespace Go.Proofs.YtiiidenbemkihaaGreat
open Go
noncomputable section
set_option maxRecDepth 100000
def naJ:SP:=[(42,C1),(43,wab),(44,Pf),(45,tp),(46,JC),(47,aO),(22,lR),(48,RR)]
abbrev F15:Fnn:=⟨[.cell 2 30,.cell 3 32],.tup [(false,(.st .sess)),(false,(.st .time))],none,[]⟩
abbrev saJ:Sess×Time×Unit->RV:=rvF F15
abbrev raJ:=@OkF Tryz.prog tt Tryz.f15 F15 (Sess×Time×Unit)
def GaJ(_ _:Int)(_:LP)(_:List LR)(_:List Time)(_:LR)(_:Time):TA (Sess×Time×Unit) Unit:=.w [] (.l (.n ()))
def DaK:=λx y z a b c d=>(GaJ x y z a b c d).val
def EaK:=λx y z a b c d=>(GaJ x y z a b c d).ob
def HaJ:=λy z a b c d x=>fa.mk (DaK y z a b c d x) (EaK y z a b c d x) [0,0,1,0,1,0,0,1,0,0,1,0,1,1,1] [(2,.box [(.fr,.i 0),(.fr,.i 0),(.fr,.nl .plan),(.fr,.nl .lrow),(.fr,.nl .time),(.fr,.nl .row)]),(3,.B [0,0]),(5,.box [(.fr,.i y),(.fr,.i z),(.sh,.lst .plan a),(.sh,.lst .lrow b),(.sh,.lst .time c),(.sh,.lst .row d)]),(7,.B [x.A,x.B])] saJ (λ_=>[(2,.box [(.fr,.i y),(.fr,.i z),(.sh,.lst .plan a),(.sh,.lst .lrow b),(.sh,.lst .time c),(.sh,.lst .row d)]),(3,.B [x.A,x.B])]) nE nE nE
theorem XaK(G:Gd naJ){fr x y z a b c d}:raJ fr (HaJ x y z a b c d):=any_ok G [2,3] 3 (GaJ x y z a b c d) rfl rfl rfl (by kernel_rfl) (by kernel_rfl) (by kernel_rfl)
def IaJ(x:LB)(y a b:Int)(c:LP)(d:List LR)(z:List Time)(f:LR)(_:Int):TA (Sess×Time×Unit) (Int×Int×Int×LP×(List LR)×(List Time)×LR×Bool):=.w [Ob (x,y) 4,(Ob (x,(la (x,y) 4).2) 3),(Oy z [(Time.mk (ar .add .i64 2 (la (x,y) 4).1) (la (x,(la (x,y) 4).2) 3).1)]),(lD (Sess.mk (Plan.mk a b c) d z f) (Ny z [(Time.mk (ar .add .i64 2 (la (x,y) 4).1) (la (x,(la (x,y) 4).2) 3).1)]))] (.l (.n ((la (x,(la (x,y) 4).2) 3).2,(wg (Sess.mk (Plan.mk a b c) d z f) (Ny z [(Time.mk (ar .add .i64 2 (la (x,y) 4).1) (la (x,(la (x,y) 4).2) 3).1)])).1.Plan.Kind,(wg (Sess.mk (Plan.mk a b c) d z f) (Ny z [(Time.mk (ar .add .i64 2 (la (x,y) 4).1) (la (x,(la (x,y) 4).2) 3).1)])).1.Plan.Num,(wg (Sess.mk (Plan.mk a b c) d z f) (Ny z [(Time.mk (ar .add .i64 2 (la (x,y) 4).1) (la (x,(la (x,y) 4).2) 3).1)])).1.Plan.Kids,(wg (Sess.mk (Plan.mk a b c) d z f) (Ny z [(Time.mk (ar .add .i64 2 (la (x,y) 4).1) (la (x,(la (x,y) 4).2) 3).1)])).1.Ins,(wg (Sess.mk (Plan.mk a b c) d z f) (Ny z [(Time.mk (ar .add .i64 2 (la (x,y) 4).1) (la (x,(la (x,y) 4).2) 3).1)])).1.Front,(wg (Sess.mk (Plan.mk a b c) d z f) (Ny z [(Time.mk (ar .add .i64 2 (la (x,y) 4).1) (la (x,(la (x,y) 4).2) 3).1)])).1.Told,(wg (Sess.mk (Plan.mk a b c) d z f) (Ny z [(Time.mk (ar .add .i64 2 (la (x,y) 4).1) (la (x,(la (x,y) 4).2) 3).1)])).2.2.1)))
def FaK:=λx y z a b c d f g=>(IaJ x y z a b c d f g).val
def GaK:=λx y z a b c d f g=>(IaJ x y z a b c d f g).ob
def JaJ:=λx g y z a b c d f=>fa.mk (FaK x g y z a b c d f) (GaK x g y z a b c d f) [0,1,1,0,0,1,0,0,1,0,1,1,1] [(2,.box [(.fr,.i 0),(.fr,.i 0),(.fr,.nl .plan),(.fr,.nl .lrow),(.fr,.nl .time),(.fr,.nl .row)]),(3,.B [0,0]),(4,.R x g),(5,.box [(.fr,.i y),(.fr,.i z),(.sh,.lst .plan a),(.sh,.lst .lrow b),(.sh,.lst .time c),(.sh,.lst .row d)]),(6,.I f)] saJ (λq=>[(2,.box [(.fr,.i 0),(.fr,.i 0),(.fr,.nl .plan),(.fr,.nl .lrow),(.fr,.nl .time),(.fr,.nl .row)]),(3,.B [0,0]),(4,.R x q.1),(5,.box [(.fr,.i y),(.fr,.i z),(.sh,.lst .plan a),(.sh,.lst .lrow b),(.sh,.lst .time c),(.sh,.lst .row d)]),(6,.I f),(8,.box [(.fr,.i q.2.1),(.fr,.i q.2.2.1),(.sh,.lst .plan q.2.2.2.1),(.sh,.lst .lrow q.2.2.2.2.1),(.sh,.lst .time q.2.2.2.2.2.1),(.sh,.lst .row q.2.2.2.2.2.2.1)]),(10,.O q.2.2.2.2.2.2.2)]) nE nE nE
theorem YaK(G:Gd naJ){fr x y z a b c d f g}:raJ fr (JaJ x y z a b c d f g):=Co G [2,3,4,5,6,8,10] [2,3,4,5,6,8,9,10,33,34,35,36,37,38,39,40,41,42,43,44,45,46,47,48] (IaJ x y z a b c d f g)
def KaJ(g:LB)(h a b:Int)(c:LP)(d:List LR)(y:List Time)(f:LR)(i:Int):TA (Sess×Time×Unit) (Int×Int×Int×LP×(List LR)×(List Time)×LR):=.k (Hh (g,h)) λz=>.w [Hk (g,h)] (.w [Ql y z.1] (.c (!(Pl y z.1)) (.s (HaJ a b c d y f z.1) (λ_=>.l (.r ((Sess.mk (Plan.mk a b c) d y f),(z.1,())))) nE nE nE)
 (.s (JaJ g z.2 a b c d y f i) (λx=>.c x.2.2.2.2.2.2.2 (.l (.n (x.1,x.2.1,x.2.2.1,x.2.2.2.1,x.2.2.2.2.1,x.2.2.2.2.2.1,x.2.2.2.2.2.2.1)))
 (.l (.n (x.1,a,b,c,d,y,f)))) nE nE nE)))
def LaJ:=λx y z a b c d f g=>(KaJ x y z a b c d f g).val
def haK:=λx y z a b c d f g=>(KaJ x y z a b c d f g).ob
def MaJ:=λx z a b c d f g y=>fa.mk (LaJ x z a b c d f g y) (haK x z a b c d f g y) [0,1,0,0,1,0,1,1,1] [(2,.box [(.fr,.i 0),(.fr,.i 0),(.fr,.nl .plan),(.fr,.nl .lrow),(.fr,.nl .time),(.fr,.nl .row)]),(3,.B [0,0]),(4,.R x z),(5,.box [(.fr,.i a),(.fr,.i b),(.sh,.lst .plan c),(.sh,.lst .lrow d),(.sh,.lst .time f),(.sh,.lst .row g)]),(6,.I y)] saJ (λq=>[(2,.box [(.fr,.i 0),(.fr,.i 0),(.fr,.nl .plan),(.fr,.nl .lrow),(.fr,.nl .time),(.fr,.nl .row)]),(3,.B [0,0]),(4,.R x q.1),(5,.box [(.fr,.i q.2.1),(.fr,.i q.2.2.1),(.sh,.lst .plan q.2.2.2.1),(.sh,.lst .lrow q.2.2.2.2.1),(.sh,.lst .time q.2.2.2.2.2.1),(.sh,.lst .row q.2.2.2.2.2.2)]),(6,.I y)]) nE nE nE
theorem ZaK(G:Gd naJ){fr x y z a b c d f g}:raJ fr (MaJ x y z a b c d f g):=ia G [([0,0,1,0,1,0,0,1,0,0,1,0,1,1,1],λe=>⟨HaJ (gI e 5 0) (gI e 5 1) (gL .plan e 5 2) (gL .lrow e 5 3) (gL .time e 5 4) (gL .row e 5 5) (Uc e 7)⟩),([0,1,1,0,0,1,0,0,1,0,1,1,1],λe=>⟨JaJ (gL .byte e 4 0) (gI e 4 1) (gI e 5 0) (gI e 5 1) (gL .plan e 5 2) (gL .lrow e 5 3) (gL .time e 5 4) (gL .row e 5 5) (gI e 6 0)⟩)] ⟨λ_=>⟨rfl,XaK G⟩,λ_=>⟨rfl,YaK G⟩,trivial⟩ [(6,[2,3,4,5,6,7]),(7,[2,3,4,5,6,7,30]),(10,[2,3,4,5,6,8,49]),(11,[2,3,4,5,6])] (KaJ x y z a b c d f g)
def xaJ(a:LB)(_ _ _:Int)(_:LP)(_:List LR)(_:List Time)(_:LR)(z c d:Int)(f:LP)(g:List LR)(h:List Time)(i:LR)(y:Int):TX (Sess×Time×Unit) (Int×Int×Int×LP×(List LR)×(List Time)×LR×Int) (Int×Int×Int×LP×(List LR)×(List Time)×LR):=.k (la (a,z) 10) λb=>.w [((cmp .lss y 5)&&true)=true->(Ob (a,z) 10)] (.c (cond (cmp .lss y 5) (cmp .gtr b.1 0) false) (.s (MaJ a (cond ((cmp .lss y 5)&&true) b.2 z) c d f g h i y) (λx=>.l (.n (x.1,x.2.1,x.2.2.1,x.2.2.2.1,x.2.2.2.2.1,x.2.2.2.2.2.1,x.2.2.2.2.2.2,(ar .add .i64 y 1)))) nE nE nE)
 (.l (.x ((cond ((cmp .lss y 5)&&true) b.2 z),c,d,f,g,h,i))))
def taJ:=λx y z a b c d f g h i j k l m n=>(xaJ x y z a b c d f g h i j k l m n).val
def yaJ:=λx y z a b c d f g h i j k l m n=>(xaJ x y z a b c d f g h i j k l m n).ob
def iaK:=λx h i j k l m n y z a b c d f g=>Ba (taJ x h i j k l m n y z a b c d f g) (yaJ x h i j k l m n y z a b c d f g) [0,0,1,0,1,1,1] (λq=>[(2,.box [(.fr,.i 0),(.fr,.i 0),(.fr,.nl .plan),(.fr,.nl .lrow),(.fr,.nl .time),(.fr,.nl .row)]),(3,.B [0,0]),(4,.R x q.1),(5,.box [(.fr,.i q.2.1),(.fr,.i q.2.2.1),(.sh,.lst .plan q.2.2.2.1),(.sh,.lst .lrow q.2.2.2.2.1),(.sh,.lst .time q.2.2.2.2.2.1),(.sh,.lst .row q.2.2.2.2.2.2.1)]),(6,.I q.2.2.2.2.2.2.2)]) (y,z,a,b,c,d,f,g) saJ (λq=>(0,[(2,.box [(.fr,.i 0),(.fr,.i 0),(.fr,.nl .plan),(.fr,.nl .lrow),(.fr,.nl .time),(.fr,.nl .row)]),(3,.B [0,0]),(4,.R x q.1),(5,.box [(.fr,.i q.2.1),(.fr,.i q.2.2.1),(.sh,.lst .plan q.2.2.2.1),(.sh,.lst .lrow q.2.2.2.2.1),(.sh,.lst .time q.2.2.2.2.2.1),(.sh,.lst .row q.2.2.2.2.2.2)])])) nE nE
theorem aaL(G:Gd naJ){fr x y z a b c d f g h i j k l m n}:raJ fr (iaK x y z a b c d f g h i j k l m n):=ia G [([0,1,0,0,1,0,1,1,1],λe=>⟨MaJ (gL .byte e 4 0) (gI e 4 1) (gI e 5 0) (gI e 5 1) (gL .plan e 5 2) (gL .lrow e 5 3) (gL .time e 5 4) (gL .row e 5 5) (gI e 6 0)⟩)] ⟨λ_=>⟨rfl,ZaK G⟩,trivial⟩ [(4,[2,3,4,5,6,21]),(5,[2,3,4,5,6])] (xaJ x y z a b c d f g h i j k l m n)
def HaK:=λf x y z a b c d=>lpV (λs:Int×Int×Int×LP×(List LR)×(List Time)×LR×Int=>da (taJ f x y z a b c d s.1 s.2.1 s.2.2.1 s.2.2.2.1 s.2.2.2.2.1 s.2.2.2.2.2.1 s.2.2.2.2.2.2.1 s.2.2.2.2.2.2.2)) (x,y,z,a,b,c,d,0)
def IaK:=λf x y z a b c d=>LpT (λs:Int×Int×Int×LP×(List LR)×(List Time)×LR×Int=>da (taJ f x y z a b c d s.1 s.2.1 s.2.2.1 s.2.2.2.1 s.2.2.2.2.1 s.2.2.2.2.2.1 s.2.2.2.2.2.2.1 s.2.2.2.2.2.2.2)) (λs=>yaJ f x y z a b c d s.1 s.2.1 s.2.2.1 s.2.2.2.1 s.2.2.2.2.1 s.2.2.2.2.2.1 s.2.2.2.2.2.2.1 s.2.2.2.2.2.2.2) (x,y,z,a,b,c,d,0)
def NaJ:=λf x y z a b c d=>lpS (iaK f x y z a b c d x y z a b c d 0) (HaK f x y z a b c d) (IaK f x y z a b c d)
theorem baL(G:Gd naJ){fr f x y z a b c d}:raJ fr (NaJ f x y z a b c d):=Ca (λs:Int×Int×Int×LP×(List LR)×(List Time)×LR×Int=>iaK f x y z a b c d s.1 s.2.1 s.2.2.1 s.2.2.2.1 s.2.2.2.2.1 s.2.2.2.2.2.1 s.2.2.2.2.2.2.1 s.2.2.2.2.2.2.2) (x,y,z,a,b,c,d,0) λ_=>aaL G
def OaJ(y:LB)(z a b:Int)(c:LP)(d:List LR)(f:List Time)(g:LR):TA (Sess×Time×Unit) (Int×Int×Int×LP×(List LR)×(List Time)×LR):=.s (NaJ y z a b c d f g) nE (λx=>.l (.n (x.1,x.2.1,x.2.2.1,x.2.2.2.1,x.2.2.2.2.1,x.2.2.2.2.2.1,x.2.2.2.2.2.2))) nE nE
def JaK:=λx y z a b c d f=>(OaJ x y z a b c d f).val
def KaK:=λx y z a b c d f=>(OaJ x y z a b c d f).ob
def PaJ:=λx y z a b c d f=>fa.mk (JaK x y z a b c d f) (KaK x y z a b c d f) [0,1,1,1] [(2,.box [(.fr,.i 0),(.fr,.i 0),(.fr,.nl .plan),(.fr,.nl .lrow),(.fr,.nl .time),(.fr,.nl .row)]),(3,.B [0,0]),(4,.R x y),(5,.box [(.fr,.i z),(.fr,.i a),(.sh,.lst .plan b),(.sh,.lst .lrow c),(.sh,.lst .time d),(.sh,.lst .row f)])] saJ (λq=>[(2,.box [(.fr,.i 0),(.fr,.i 0),(.fr,.nl .plan),(.fr,.nl .lrow),(.fr,.nl .time),(.fr,.nl .row)]),(3,.B [0,0]),(4,.R x q.1),(5,.box [(.fr,.i q.2.1),(.fr,.i q.2.2.1),(.sh,.lst .plan q.2.2.2.1),(.sh,.lst .lrow q.2.2.2.2.1),(.sh,.lst .time q.2.2.2.2.2.1),(.sh,.lst .row q.2.2.2.2.2.2)])]) nE nE nE
theorem caL(G:Gd naJ){fr x y z a b c d f}:raJ fr (PaJ x y z a b c d f):=ia G [([0,1,0,1,1,1],λe=>⟨NaJ (gL .byte e 4 0) (gI e 4 1) (gI e 5 0) (gI e 5 1) (gL .plan e 5 2) (gL .lrow e 5 3) (gL .time e 5 4) (gL .row e 5 5)⟩)] ⟨λ_=>⟨rfl,baL G⟩,trivial⟩ [(3,[2,3,4,5,6])] (OaJ x y z a b c d f)
def QaJ(a:LB):TN (Sess×Time×Unit):=.k (BM a) λy=>.w [CM a] (.k (Zs (y.1,y.2)) λz=>.w [eS (y.1,y.2)] (.s (PaJ y.1 z.2 z.1.Plan.Kind z.1.Plan.Num z.1.Plan.Kids z.1.Ins z.1.Front z.1.Told) (λx=>.w [bE (y.1,x.1)] (.l (.r ((Sess.mk (Plan.mk x.2.1 x.2.2.1 x.2.2.2.1) x.2.2.2.2.1 x.2.2.2.2.2.1 x.2.2.2.2.2.2),((Ws (y.1,x.1)).1,()))))) nE nE nE))
def jaK:=λx=>(QaJ x).val
def kaK:=λx=>(QaJ x).ob
def daL:=λx=>fa.mk (jaK x) (kaK x) [] [(0,.S .byte x)] saJ nE nE nE nE
theorem eaL(G:Gd naJ){fr x}:raJ fr (daL x):=ia G [([0,1,1,1],λe=>⟨PaJ (gL .byte e 4 0) (gI e 4 1) (gI e 5 0) (gI e 5 1) (gL .plan e 5 2) (gL .lrow e 5 3) (gL .time e 5 4) (gL .row e 5 5)⟩)] ⟨λ_=>⟨rfl,caL G⟩,trivial⟩ [(0,[0,2,3]),(1,[2,3,4]),(2,[2,3,4,5]),(12,[2,3])] (QaJ x)
def RaJ(x:LB):Sess×Time×Unit:=ocR (jaK x)
def SaJ(x:LB):Prop:=kaK x
def laK:Spec:=⟨[(.lst .byte)],.tup [(false,(.st .sess)),(false,(.st .time))],false,λx=>(RaJ x.1,0),λx=>SaJ x.1⟩
theorem faL(G:Gd naJ):Con Tryz.prog 15 laK:=va (pts:=[(.lst .byte)]) (F:=F15) G λ_ _=>eaL G
def LaK:SP:=[(28,ZC),(49,Ih),(46,JC),(50,PP)]
abbrev F16:Fnn:=⟨[.tmp 4,.tmp 5],.tup [(false,(.lst .item)),(true,.bool)],none,[]⟩
abbrev gaL:LI×Bool×Unit->RV:=rvF F16
abbrev haL:=@OkF Tryz.prog tt Tryz.f16 F16 (LI×Bool×Unit)
def TaJ(x:Sess)(y:Time):TN (LI×Bool×Unit):=.k (Rh (Sess.mk (Plan.mk x.Plan.Kind x.Plan.Num x.Plan.Kids) x.Ins x.Front x.Told)) λz=>.w [Th (Sess.mk (Plan.mk x.Plan.Kind x.Plan.Num x.Plan.Kids) x.Ins x.Front x.Told),((!(!z))&&true)=true->(vg y),((!(cond (!z) true (!(qe y))))&&true)=true->(Ql x.Front y)] (.c (cond (cond (!z) true (!(qe y))) true (Pl x.Front y)) (.l (.r ([],(false,()))))
 (.w [tB x.Told y] (.l (.r ((sB x.Told y),(true,()))))))
def maK:=λx y=>(TaJ x y).val
def naK:=λx y=>(TaJ x y).ob
def iaL:=λx y=>fa.mk (maK x y) (naK x y) [] [(0,.agg false [.i x.Plan.Kind,.i x.Plan.Num,.lst .plan x.Plan.Kids,.lst .lrow x.Ins,.lst .time x.Front,.lst .row x.Told]),(1,.agg true [.i y.A,.i y.B])] gaL nE nE nE nE
theorem jaL(G:Gd LaK){fr x y}:haL fr (iaL x y):=ma G [(0,[2,3]),(1,[2,3,19]),(2,[4,5]),(3,[4,5])] (TaJ x y)
def UaJ(x:Sess)(y:Time):LI×Bool×Unit:=ocR (maK x y)
def VaJ(x:Sess)(y:Time):Prop:=naK x y
def oaK:Spec:=⟨[(.st .sess),(.st .time)],.tup [(false,(.lst .item)),(true,.bool)],false,λx=>(UaJ x.1 x.2.1,0),λx=>VaJ x.1 x.2.1⟩
theorem kaL(G:Gd LaK):Con Tryz.prog 16 oaK:=va (pts:=[(.st .sess),(.st .time)]) (F:=F16) G λ_ _=>jaL G
def MaK:SP:=[(27,fae),(51,om),(52,VU),(53,WT)]
abbrev F17:Fnn:=⟨[.tmp 4,.tmp 5],.tup [(false,(.lst .item)),(true,.bool)],none,[]⟩
abbrev laL:LI×Bool×Unit->RV:=rvF F17
abbrev maL:=@OkF Tryz.prog tt Tryz.f17 F17 (LI×Bool×Unit)
def WaJ(x:Sess)(y:Time):TN (LI×Bool×Unit):=.k (oI (Sess.mk (Plan.mk x.Plan.Kind x.Plan.Num x.Plan.Kids) x.Ins x.Front x.Told)) λz=>.w [pI (Sess.mk (Plan.mk x.Plan.Kind x.Plan.Num x.Plan.Kids) x.Ins x.Front x.Told),((!(!z))&&true)=true->(nm y),((!(cond (!z) true (!(Xh y))))&&true)=true->(XH x.Front y)] (.c (cond (cond (!z) true (!(Xh y))) true (WH x.Front y)) (.l (.r ([],(false,()))))
 (.w [Tt x.Told y] (.l (.r ((St x.Told y),(true,()))))))
def paK:=λx y=>(WaJ x y).val
def qaK:=λx y=>(WaJ x y).ob
def naL:=λx y=>fa.mk (paK x y) (qaK x y) [] [(0,.agg false [.i x.Plan.Kind,.i x.Plan.Num,.lst .plan x.Plan.Kids,.lst .lrow x.Ins,.lst .time x.Front,.lst .row x.Told]),(1,.agg true [.i y.A,.i y.B])] laL nE nE nE nE
theorem oaL(G:Gd MaK){fr x y}:maL fr (naL x y):=ma G [(0,[2,3]),(1,[2,3,19]),(2,[4,5]),(3,[4,5])] (WaJ x y)
def XaJ(x:Sess)(y:Time):LI×Bool×Unit:=ocR (paK x y)
def YaJ(x:Sess)(y:Time):Prop:=qaK x y
def raK:Spec:=⟨[(.st .sess),(.st .time)],.tup [(false,(.lst .item)),(true,.bool)],false,λx=>(XaJ x.1 x.2.1,0),λx=>YaJ x.1 x.2.1⟩
theorem paL(G:Gd MaK):Con Tryz.prog 17 raK:=va (pts:=[(.st .sess),(.st .time)]) (F:=F17) G λ_ _=>oaL G
def zaJ:SP:=[]
abbrev F18:Fnn:=⟨[.tmp 4],.one .fr .bool,none,[]⟩
abbrev saK:Bool->RV:=rvF F18
abbrev ZaJ:=@OkF Tryz.prog tt Tryz.f18 F18 Bool
def uaJ(y z:LI)(x:Int):TX Bool Int Unit:=.c (cmp .lss x (ba .item y)) (.w [inb x (ba .item y),inb x (ba .item z)] (.c (!(cmp .eql (rd .item y x).Key (rd .item z x).Key&&(cmp .eql (rd .item y x).Val (rd .item z x).Val&&(cmp .eql (rd .item y x).Count (rd .item z x).Count&&true)))) (.l (.r false))
 (.l (.n (ar .add .i64 x 1)))))
 (.l (.x ()))
def oaJ:=λx y z=>(uaJ x y z).val
def AaJ:=λx y z=>(uaJ x y z).ob
def taK:=λx y z=>Ba (oaJ x y z) (AaJ x y z) [0,0,1,0,1,1] (λq=>[(0,.S .item x),(1,.S .item y),(5,.I q)]) z saK (λ_=>(0,[])) nE nE
theorem qaL(G:Gd zaJ){fr x y z}:ZaJ fr (taK x y z):=ma G [(4,[0,1,5,14]),(5,[0,1,5]),(6,[0,1,5,25]),(7,[4])] (uaJ x y z)
def uaK:=λx y=>lpV (λs:Int=>da (oaJ x y s)) 0
def NaK:=λx y=>LpT (λs:Int=>da (oaJ x y s)) (λs=>AaJ x y s) 0
def BaJ:=λx y=>lpS (taK x y 0) (uaK x y) (NaK x y)
theorem raL(G:Gd zaJ){fr x y}:ZaJ fr (BaJ x y):=Ca (λs:Int=>taK x y s) 0 λ_=>qaL G
def CaJ(x y:LI):TA Bool Unit:=.s (BaJ x y) nE (λ_=>.l (.n ())) nE nE
def vaK:=λx y=>(CaJ x y).val
def waK:=λx y=>(CaJ x y).ob
def vaJ:=λx y=>fa.mk (vaK x y) (waK x y) [0,1,1] [(0,.S .item x),(1,.S .item y)] saK (λ_=>[]) nE nE nE
theorem saL(G:Gd zaJ){fr x y}:ZaJ fr (vaJ x y):=ia G [([0,1,0,1,1],λe=>⟨BaJ (gL .item e 0 0) (gL .item e 1 0)⟩)] ⟨λ_=>⟨rfl,raL G⟩,trivial⟩ [(3,[0,1,5])] (CaJ x y)
def waJ(x y:LI):TN Bool:=.c (cmp .neq (ba .item x) (ba .item y)) (.l (.r false))
 (.s (vaJ x y) (λ_=>.l (.r true)) nE nE nE)
def DaJ:=λx y=>(waJ x y).val
def EaJ:=λx y=>(waJ x y).ob
def taL:=λx y=>fa.mk (DaJ x y) (EaJ x y) [] [(0,.S .item x),(1,.S .item y)] saK nE nE nE nE
theorem uaL(G:Gd zaJ){fr x y}:ZaJ fr (taL x y):=ia G [([0,1,1],λe=>⟨vaJ (gL .item e 0 0) (gL .item e 1 0)⟩)] ⟨λ_=>⟨rfl,saL G⟩,trivial⟩ [(0,[0,1]),(1,[0,1,10]),(2,[4]),(8,[4])] (waJ x y)
def paJ(x:LI)(y:LI):Bool:=ocR (DaJ x y)
def qaJ(x:LI)(y:LI):Prop:=EaJ x y
def xaK:Spec:=⟨[(.lst .item),(.lst .item)],.one .fr .bool,false,λx=>(paJ x.1 x.2.1,0),λx=>qaJ x.1 x.2.1⟩
theorem vaL(G:Gd zaJ):Con Tryz.prog 18 xaK:=va (pts:=[(.lst .item),(.lst .item)]) (F:=F18) G λ_ _=>uaL G
def DaA:SP:=[(54,mS),(51,om),(52,VU)]
abbrev F19:Fnn:=⟨[.tmp 4],.one .fr .bool,none,[]⟩
abbrev faB:Bool->RV:=rvF F19
abbrev gaB:=@OkF Tryz.prog tt Tryz.f19 F19 Bool
def Zay(y:List Time)(x:Time):TN Bool:=.k (zE y) λz=>.w [BE y,(z&&true)=true->(nm x),((cond z (Xh x) false)&&true)=true->(XH y x)] (.l (.r (cond (cond z (Xh x) false) (WH y x) false)))
def Saz:=λx y=>(Zay x y).val
def Taz:=λx y=>(Zay x y).ob
def haB:=λy x=>fa.mk (Saz y x) (Taz y x) [] [(0,.S .time y),(1,.agg true [.i x.A,.i x.B])] faB nE nE nE nE
theorem iaB(G:Gd DaA){fr x y}:gaB fr (haB x y):=ma G [(0,[0,3]),(1,[4])] (Zay x y)
def aaz(x:List Time)(y:Time):Bool:=ocR (Saz x y)
def baz(x:List Time)(y:Time):Prop:=Taz x y
def Uaz:Spec:=⟨[(.lst .time),(.st .time)],.one .fr .bool,false,λx=>(aaz x.1 x.2.1,0),λx=>baz x.1 x.2.1⟩
theorem jaB(G:Gd DaA):Con Tryz.prog 19 Uaz:=va (pts:=[(.lst .time),(.st .time)]) (F:=F19) G λ_ _=>iaB G
def OaK:SP:=[(55,vt),(51,om),(53,WT)]
abbrev F20:Fnn:=⟨[.tmp 4],.one .fr (.lst .item),none,[]⟩
abbrev waL:LI->RV:=rvF F20
abbrev xaL:=@OkF Tryz.prog tt Tryz.f20 F20 LI
def aaK(x:LR)(y:Time):TN LI:=.w [ut x,((!(!(qt x)))&&true)=true->(nm y)] (.c (cond (!(qt x)) true (!(Xh y))) (.l (.r []))
 (.w [Tt x y] (.l (.r (St x y)))))
def yaK:=λx y=>(aaK x y).val
def zaK:=λx y=>(aaK x y).ob
def yaL:=λy x=>fa.mk (yaK y x) (zaK y x) [] [(0,.S .row y),(1,.agg true [.i x.A,.i x.B])] waL nE nE nE nE
theorem zaL(G:Gd OaK){fr x y}:xaL fr (yaL x y):=ma G [(0,[0,3]),(1,[0,3,12]),(2,[4]),(3,[4])] (aaK x y)
def baK(x:LR)(y:Time):LI:=ocR (yaK x y)
def caK(x:LR)(y:Time):Prop:=zaK x y
def AaK:Spec:=⟨[(.lst .row),(.st .time)],.one .fr (.lst .item),false,λx=>(baK x.1 x.2.1,0),λx=>caK x.1 x.2.1⟩
theorem AaL(G:Gd OaK):Con Tryz.prog 20 AaK:=va (pts:=[(.lst .row),(.st .time)]) (F:=F20) G λ_ _=>zaL G
def PaK:SP:=[(15,laK),(16,oaK),(17,raK),(18,xaK),(19,Uaz),(20,AaK)]
abbrev F3:Fnn:=⟨[.tmp 2],.one .fr .bool,none,[]⟩
abbrev rv3:Bool->RV:=rvF F3
abbrev Ok3:=@OkF Tryz.prog tt Tryz.f3 F3 Bool
def FaJ(a:LB):TN Bool:=.c (cmp .gtr (ba .byte a) 1048576) (.l (.r true))
 (.k (RaJ a) λx=>.w [SaJ a] (.k (UaJ (Sess.mk (Plan.mk x.1.Plan.Kind x.1.Plan.Num x.1.Plan.Kids) x.1.Ins x.1.Front x.1.Told) x.2.1) λz=>.w [VaJ (Sess.mk (Plan.mk x.1.Plan.Kind x.1.Plan.Num x.1.Plan.Kids) x.1.Ins x.1.Front x.1.Told) x.2.1] (.k (XaJ (Sess.mk (Plan.mk x.1.Plan.Kind x.1.Plan.Num x.1.Plan.Kids) x.1.Ins x.1.Front x.1.Told) x.2.1) λy=>.w [YaJ (Sess.mk (Plan.mk x.1.Plan.Kind x.1.Plan.Num x.1.Plan.Kids) x.1.Ins x.1.Front x.1.Told) x.2.1] (.w [((!(!(y.2.1 == z.2.1)))&&true)=true->(qaJ y.1 z.1)] (.c (cond (!(y.2.1 == z.2.1)) true (!(paJ y.1 z.1))) (.l (.r false))
 (.k (aaz x.1.Front x.2.1) λb=>.k (baK x.1.Told x.2.1) λc=>.w [((!(!y.2.1))&&true)=true->(baz x.1.Front x.2.1),((!b)&&((!(!y.2.1))&&true))=true->(caK x.1.Told x.2.1),((!b)&&((!(!y.2.1))&&true))=true->(qaJ y.1 c)] (.l (.r (cond (cond (!y.2.1) true (cond (!b) (paJ y.1 c) false)) (cond y.2.1 true (cmp .eql (ba .item y.1) 0)) false)))))))))
def daK:=λx=>(FaJ x).val
def eaK:=λx=>(FaJ x).ob
def BaL:=λx=>fa.mk (daK x) (eaK x) [] [(0,.S .byte x)] rv3 nE nE nE nE
theorem CaL(G:Gd PaK){fr x}:Ok3 fr (BaL x):=ma G [(0,[0]),(1,[0,11]),(2,[2]),(3,[3,4]),(4,[3,4,5,6]),(5,[3,4,5,6,7,8]),(6,[3,4,7,8,37]),(7,[2]),(8,[2])] (FaJ x)
def faK(x:LB):Bool:=ocR (daK x)
def gaK(x:LB):Prop:=eaK x
def QaK:Spec:=⟨[(.lst .byte)],.one .fr .bool,false,λx=>(faK x.1,0),λx=>gaK x.1⟩
theorem DaL(G:Gd PaK):Con Tryz.prog 3 QaK:=va (pts:=[(.lst .byte)]) (F:=F3) G λ_ _=>CaL G
end
end Go.Proofs.YtiiidenbemkihaaGreat

namespace Go.Proofs.YtiiidenbemkihaaGreat
namespace Ds
open Go
set_option maxRecDepth 100000
section
variable {P:Program}{tt:TT}{N:NP}{fr:Fr}{Cd:Code}{F:Fnn}{R A X Y Z:Type}
end
end Ds
end Go.Proofs.YtiiidenbemkihaaGreat

namespace Go.Proofs.YtiiidenbemkihaaGreat
open Go
theorem RaK{xs:List Item}(h:∀x∈xs,InR x.Count):(gathI xs).length<=xs.length:=by
 rw[<-dai,List.length_map];have:=YL (xs:=xs.map itR) (λy hy=>by obtain⟨x,hx,rfl⟩:=List.mem_map.1 hy;exact h x hx);simpa using this
end Go.Proofs.YtiiidenbemkihaaGreat

namespace Go.Proofs.YtiiidenbemkihaaGreat
open Go
section
variable {P:Program}{K n:Nat}
variable {T E:Nat} (M:oaf P T K E n) {w:World}{r:Nat}{S:za} (hr:w.heap[r]? = some (Sa S)) (hm:ic n S) {ks:List Int} (hk:ks.length=n)
include M hr hm hk
end
end Go.Proofs.YtiiidenbemkihaaGreat

namespace Go.Proofs.YtiiidenbemkihaaGreat
open Go
theorem SaK(xs:List Row)(t:Time)(hl:xs.length<10000000):caK xs t/\baK xs t=if Jb xs=true/\Fa t=true then Sd xs t else []:=by
 obtain⟨r1,r2⟩:=rZ xs (by omega);obtain⟨q1,q2⟩:=tZ xs t (by omega);simp only[caK,baK,zaK,yaK,aaK,Tr.val,Tr.ob,ga,r2,Fw,q2];cases h1:Jb xs<;>cases h2:Fa t<;>simp[r1,Gw,q1,ocR]
end Go.Proofs.YtiiidenbemkihaaGreat

namespace Go.Proofs.YtiiidenbemkihaaGreat
open Go Tg
theorem TaK{xs:List Row}(h:∀x∈xs,InR x.Diff)(t:Time):∀x∈db xs t,InR x.Count:=λx hx=>by
 obtain⟨r,hr,rfl⟩:=List.mem_map.1 hx;exact h r ((List.mem_filter.1 hr).1)
end Go.Proofs.YtiiidenbemkihaaGreat

namespace Go.Proofs.YtiiidenbemkihaaGreat
open Go Tg
section
variable {a:List Row} (hr:Jb a=true) {kind:Int} (hkind:1<=kind/\kind<=3)
include hr hkind
end
end Go.Proofs.YtiiidenbemkihaaGreat

namespace Go.Proofs.YtiiidenbemkihaaGreat
open Go Tg
theorem UaK{x y:Item}(h1:x.Key=y.Key)(h2:x.Val=y.Val)(h3:x.Count=y.Count):x=y:=by
 obtain⟨a,b,c⟩:=x;obtain⟨a',b',c'⟩:=y;simp at h1 h2 h3;subst h1 h2 h3;rfl
theorem CaK(x y:Item):(cmp .eql x.Key y.Key&&(cmp .eql x.Val y.Val&&(cmp .eql x.Count y.Count&&true)))=true↔x=y:=by
 rw[Bb,Bb,Bb];simp only[Bool.and_eq_true,decide_eq_true_eq,and_true];constructor
 .rintro⟨h1,h2,h3⟩;exact UaK h1 h2 h3
 .rintro rfl;exact⟨rfl,rfl,rfl⟩
theorem VaK(a b:List Item)(hl:a.length<1000000000):qaJ a b/\(paJ a b=true↔a=b):=by
 by_cases hlen:a.length=b.length
 .have hz:(a.zip b).length=a.length:=by rw[List.length_zip];omega
  have key:∃q,ja (λs=>da ((λ(s:Int)=>oaJ a b s) s)) (λs=>AaJ a b s) 0 q/\((q=.x ()/\a=b)\/(q=.r false/\a≠b)):=by
   refine ja.list (a.zip b) (λi (_:Unit)=>(i:Int)) (λl _=>a.take l.length=b.take l.length) (b0:=()) rfl rfl ?_ ?_
   .rintro l ⟨u,v⟩ r ⟨⟩ hx hI;have hll:l.length<a.length:=by rw[<-hz,hx];simp
    have hg:(a.zip b)[l.length]? = some (u,v):=by rw[hx];simp
    rw[List.getElem?_zip_eq_some]at hg
    have hu:rd .item a (l.length:Int)=u:=by
     show a.getD (Int.toNat l.length) _=u;rw[Int.toNat_natCast,List.getD_eq_getElem?_getD,hg.1];rfl
    have hv:rd .item b (l.length:Int)=v:=by
     show b.getD (Int.toNat l.length) _=v;rw[Int.toNat_natCast,List.getD_eq_getElem?_getD,hg.2];rfl
    have hla:ba .item a=(a.length:Int):=rfl;have hlb:ba .item b=(b.length:Int):=rfl;have hlss:cmp .lss (l.length:Int) (ba .item a)=true:=by rw[bc,hla];simp;omega
    have hi1:inb (l.length:Int) (ba .item a):=⟨by omega,by omega⟩;have hi2:inb (l.length:Int) (ba .item b):=⟨by omega,by omega⟩;refine⟨by simp[AaJ,hlss,hi1,hi2,uaJ,Tr.ob,ga],?_⟩;show(∃b',da (oaJ a b (l.length:Int))=_/\_)\/∃q,da (oaJ a b (l.length:Int))=_/\_;simp only[oaJ,hlss,hu,hv,Ia (l:=l) (by omega),uaJ,Tr.val];by_cases he:u=v
    .left;subst he;rw[(CaK u u).2 rfl];refine⟨(),rfl,?_⟩;rw[List.length_append,List.length_singleton,List.take_add_one,List.take_add_one,hI,hg.1,hg.2]
    .right
     have hne:(cmp .eql u.Key v.Key&&(cmp .eql u.Val v.Val&&(cmp .eql u.Count v.Count&&true)))=false:=by
      rw[<-Bool.not_eq_true,CaK];exact he
     rw[hne];refine⟨.r false,rfl,.inr ⟨rfl,λhab=>he ?_⟩⟩;have:=hg.1;rw[hab,hg.2]at this;exact(Option.some.inj this).symm
   .rintro⟨⟩ hI;have hend:cmp .lss ((a.zip b).length:Int) (ba .item a)=false:=by rw[bc,hz];simp[ba]
    rw[hz,List.take_length,hlen,List.take_length]at hI;simp only[AaJ,oaJ,hend,uaJ,Tr.val,Tr.ob,ga];exact⟨by simp,_,rfl,.inl ⟨rfl,hI⟩⟩
  obtain⟨q,h1,h2⟩:=key;have b2:NaK a b:=h1.t
  have hn:cmp .neq (ba .item a) (ba .item b)=false:=by
   show cmp .neq (a.length:Int) (b.length:Int)=false;rw[Rd,hlen];simp
  rcases h2 with⟨rfl,h2⟩|⟨rfl,h2⟩
  .have a2:uaK a b=.x ():=h1.v;simp only[qaJ,paJ,EaJ,DaJ,waK,vaK,hn,a2,ocR,waJ,vaJ,CaJ,BaJ,lpS,Tr.val,Tr.ob];exact⟨by simp[b2],λ_=>h2,λ_=>trivial⟩
  .have a2:uaK a b=.r false:=h1.v;simp only[qaJ,paJ,EaJ,DaJ,waK,vaK,hn,a2,ocR,waJ,vaJ,CaJ,BaJ,lpS,Tr.val,Tr.ob];exact⟨by simp[b2],(λh=>by cases h),λh=>absurd h h2⟩
 .have hn:cmp .neq (ba .item a) (ba .item b)=true:=by
   show cmp .neq (a.length:Int) (b.length:Int)=true;rw[Rd];simp;omega
  simp only[qaJ,paJ,EaJ,DaJ,hn,ocR,waJ,vaJ,Tr.val,Tr.ob];exact⟨by simp,(λh=>by cases h),λh=>absurd (by rw[h]) hlen⟩
theorem WaK{a:List Row}(h:Jb a=true)(t:Time):(Sd a t).length<=400:=by
 obtain⟨h1,h2⟩:=gb h;have hs:∀x∈db a t,InR x.Count:=TaK (λx hx=>Oe (h2 x hx)) t
 have hl:(db a t).length<=400:=by
  unfold db;rw[List.length_map];exact Nat.le_trans (List.length_filter_le _ _) h1
 exact Nat.le_trans (RaK hs) hl
end Go.Proofs.YtiiidenbemkihaaGreat

namespace Go.Proofs.YtiiidenbemkihaaGreat
open Go Tg
theorem vaC{f:List Time}(hf:Wd f=true){t:Time}(ht:Fa t=true)(hl:f.length<1000000000):baz f t/\aaz f t=Ib f t:=by
 obtain⟨a1,a2⟩:=raj f hl;obtain⟨b1,b2⟩:=Eaw f t hl;have tp:nm t:=by simp[nm,zab,fS,Tr.ob]
 have tv:Xh t=Fa t:=Fw t;simp only[baz,aaz,Taz,Saz,Zay,Tr.val,Tr.ob,ga,a2,b2,tv,hf,ht,ocR];exact⟨by simp[a1,b1,tp],rfl⟩
end Go.Proofs.YtiiidenbemkihaaGreat

namespace Go.Proofs.YtiiidenbemkihaaGreat
open Go Tg
theorem SaD(f:List Time)(x:List Row):(Za f x).Sublist x:=List.filter_sublist
theorem PaE{s:Sess}(hs:Sm s){f:List Time}(hf:f.length<=1000):Sm (onS s f):=⟨hs.ins,hs.each,hf,by have:=fv f (wn s);have:=fax s;show(Za f (wn s)).length<=1000;omega⟩
end Go.Proofs.YtiiidenbemkihaaGreat

namespace Go.Proofs.YtiiidenbemkihaaGreat
open Go Tg
noncomputable def atV(s:Sess)(t:Time):List Item×Bool×Unit:=cond (pd s&&(Fa t&&!Ib s.Front t)) (Sd s.Told t,true,()) ([],false,())
theorem BaK{s:Sess}(h:pd s=true):Jb s.Told=true:=by
 obtain⟨x,hx⟩:=LV.1 h;rw[hx.told];exact oe (Vaw (cp hx.flow).batch (SaD _ x))
theorem KaL(t:Time):nm t:=by simp[nm,zab,fS,Tr.ob]
theorem LaL{s:Sess}(hs:Sm s)(t:Time):YaJ s t/\XaJ s t=atV s t:=by
 have h3:=hs.front;have h4:=hs.told;obtain⟨o1,o2⟩:=kay hs;obtain⟨b1,b2⟩:=Eaw s.Front t (by omega);obtain⟨p1,p2⟩:=tZ s.Told t (by omega);have tp:=KaL t;have tv:Xh t=Fa t:=Fw t;simp only[YaJ,XaJ,qaK,paK,WaJ,Tr.val,Tr.ob,ga,Vae,o2,b2,p2,tv,atV];refine⟨by simp[o1,b1,p1,tp],?_⟩;cases pd s<;>cases Fa t<;>cases Ib s.Front t<;>rfl
theorem MaL{s:Sess}(hs:Sm s)(t:Time):VaJ s t/\UaJ s t=atV s t:=by
 have h3:=hs.front;have h4:=hs.told;obtain⟨o1,o2⟩:=JV hs;obtain⟨c1,_⟩:=saj s.Front t (by omega);obtain⟨p1,p2⟩:=pai s.Told t (by omega);have tp:=pg t;have tv:qe t=Fa t:=Fh t;simp only[VaJ,UaJ,naK,maK,TaJ,Tr.val,Tr.ob,ga,Vae,o2,tv,atV];refine⟨by simp[o1,c1,p1,tp],?_⟩;cases hok:pd s with
 |false=>rfl
 |true=>
  cases ht:Fa t with
  |false=>rfl
  |true=>
   obtain⟨x,hx⟩:=LV.1 hok;rw[(Uae hx.front ht (by omega)).2,p2,if_pos ⟨BaK hok,ht⟩];cases Ib s.Front t<;>rfl
theorem NaL{b:List Int}(hb:Xc b){p:Int}(hp:0<=p/\p<=300000){s:Sess}(hs:Sm s)(i:Int) :
  haK b p s.Plan.Kind s.Plan.Num s.Plan.Kids s.Ins s.Front s.Told i /\
  ((∃p' s',LaJ b p s.Plan.Kind s.Plan.Num s.Plan.Kids s.Ins s.Front s.Told i=.n (tS p' s')/\p<=p'/\p'<=p+5/\Sm s') \/
    ∃t,LaJ b p s.Plan.Kind s.Plan.Num s.Plan.Kids s.Ins s.Front s.Told i=.r (s,t,())):=by
 have hfr:=hs.front;obtain⟨a1,a2⟩:=Ew hb (p:=p) (by omega);obtain⟨c1,_⟩:=saj s.Front (Hh (b,p)).1 (by omega);obtain⟨x1,x2,_,_⟩:=Hb hb (p:=p+3) (n:=4) (by omega) (by omega);obtain⟨y1,y2,_,_⟩:=Hb hb (p:=p+3+1) (n:=3) (by omega) (by omega);have hB:∀u,Oy s.Front [u]/\(Ny s.Front [u]).length<=64:=λu=>Zaw hfr (by simp);have hO:∀u,lD s (Ny s.Front [u])/\wg s (Ny s.Front [u])=onV s (Ny s.Front [u]):=λu=>Xaw hs (by have:=(hB u).2;omega);have hO1:=λu=>(hO u).1;have hO2:=λu=>(hO u).2;have hB1:=λu=>(hB u).1;simp only[haK,LaJ,KaJ,HaJ,EaK,DaK,GaJ,JaJ,GaK,FaK,IaJ,Tr.val,Tr.ob,ga,Vae,a2,x2,y2,hO2];cases Pl s.Front (Hh (b,p)).1 with
 |false=>exact⟨by simp[a1,c1],.inr ⟨_,rfl⟩⟩
 |true=>
  refine⟨by simp[a1,c1,x1,y1,hB1,hO1],.inl ?_⟩;simp only[Bool.not_true,onV];cases NV s (Ny s.Front [Time.mk (ar .add .i64 2 (la (b,p+3) 4).1) (la (b,p+3+1) 3).1]) with
  |true=>exact⟨_,onS s _,rfl,by omega,by omega,PaE hs (by have:=(hB (Time.mk (ar .add .i64 2 (la (b,p+3) 4).1) (la (b,p+3+1) 3).1)).2;omega)⟩
  |false=>exact⟨_,s,rfl,by omega,by omega,hs⟩
theorem OaL{c:List Int}(hc:∀x∈c,0<=x/\x<=255):SaJ c/\∃s t,RaJ c=(s,t,())/\Sm s:=by
 obtain⟨o1,b,o2,hb⟩:=eay hc;obtain⟨s1,s2,s3,s4⟩:=oay hb;generalize hv:Zs (b,0)=sv at s2 s3 s4;obtain⟨s,q0⟩:=sv;simp only[]at s2 s3 s4
 have key:∃q,ja (λt:Int×Int×Int×LP×(List LR)×(List Time)×LR×Int=>da (taJ b q0 s.Plan.Kind s.Plan.Num s.Plan.Kids s.Ins s.Front s.Told t.1 t.2.1 t.2.2.1 t.2.2.2.1 t.2.2.2.2.1 t.2.2.2.2.2.1 t.2.2.2.2.2.2.1 t.2.2.2.2.2.2.2))
   (λt=>yaJ b q0 s.Plan.Kind s.Plan.Num s.Plan.Kids s.Ins s.Front s.Told t.1 t.2.1 t.2.2.1 t.2.2.2.1 t.2.2.2.2.1 t.2.2.2.2.2.1 t.2.2.2.2.2.2.1 t.2.2.2.2.2.2.2)
   (q0,s.Plan.Kind,s.Plan.Num,s.Plan.Kids,s.Ins,s.Front,s.Told,0) q/\((∃p' s',q=.x (tS p' s')/\0<=p'/\p'<=1000/\Sm s')\/∃s' t,q=.r (s',t,())/\Sm s'):=by
  refine ja.list (List.range 5) (λi (t:Int×Sess)=>(t.1,t.2.Plan.Kind,t.2.Plan.Num,t.2.Plan.Kids,t.2.Ins,t.2.Front,t.2.Told,(i:Int))) (λl t=>0<=t.1/\t.1<=400+6*l.length/\Sm t.2) (b0:=(q0,s)) rfl ⟨s2,by simpa using s3,s4⟩ ?_ ?_
  .rintro l x r ⟨p,t⟩ hx ⟨i1,i2,i3⟩;simp only[]at i1 i2 i3;have hlen:5=l.length+(r.length+1):=by have:=congrArg List.length hx;simpa using this
   have hl:cmp .lss (l.length:Int) 5=true:=by rw[bc];simp;omega
   obtain⟨x1,x2,_,_⟩:=Hb hb (p:=p) (n:=10) (by omega) (by omega);obtain⟨c1,c2⟩:=NaL hb (p:=p+1) (by omega) i3 (l.length:Int);simp only[yaJ,taJ,xaJ,MaJ,Tr.val,Tr.ob,ga,hl,x2,cond_true,Bool.true_and,Ia (l:=l) (by omega)];cases cmp .gtr (la (b,p) 10).1 0 with
   |false=>exact⟨by simp[x1],.inr ⟨_,rfl,.inl ⟨p+1,t,rfl,by omega,by omega,i3⟩⟩⟩
   |true=>
    rcases c2 with⟨p',t',c2,c3,c4,c5⟩|⟨u,c2⟩
    .rw[c2];exact⟨by simp[x1,c1],.inl ⟨(p',t'),rfl,by simp only[];omega,by simp only[List.length_append,List.length_singleton];omega,c5⟩⟩
    .rw[c2];exact⟨by simp[x1,c1],.inr ⟨_,rfl,.inr ⟨t,u,rfl,i3⟩⟩⟩
  .rintro⟨p,t⟩ ⟨i1,i2,i3⟩;have hl:cmp .lss ((List.range 5).length:Int) 5=false:=rfl;simp only[List.length_range]at i2;simp only[yaJ,taJ,xaJ,Tr.val,Tr.ob,ga,hl];exact⟨by simp,_,rfl,.inl ⟨p,t,rfl,i1,by omega,i3⟩⟩
 obtain⟨q,k1,k2⟩:=key;have a2:HaK b q0 s.Plan.Kind s.Plan.Num s.Plan.Kids s.Ins s.Front s.Told=q:=k1.v;have b2:IaK b q0 s.Plan.Kind s.Plan.Num s.Plan.Kids s.Ins s.Front s.Told:=k1.t;simp only[SaJ,RaJ,kaK,jaK,QaJ,PaJ,KaK,JaK,OaJ,NaJ,lpS,Tr.val,Tr.ob,ga,o2,hv,a2];rcases k2 with⟨p',s',rfl,h1,h2,h3⟩|⟨s',t,rfl,h3⟩
 .have w:=Aaj hb (p:=p') (by omega);exact⟨by simp[o1,s1,b2,tS,w],s',(Ws (b,p')).1,by simp only[tS,ocR,Vae],h3⟩
 .exact⟨by simp[o1,s1,b2],s',t,rfl,h3⟩
theorem PaL{a:List Item}(hl:a.length<=1000):qaJ a a/\paJ a a=true:=by
 obtain⟨h1,h2⟩:=VaK a a (by omega);exact⟨h1,h2.2 rfl⟩
theorem QaL(s:Sess)(t:Time):(atV s t).1.length<=1000:=by
 unfold atV;cases h:pd s with
 |false=>exact Nat.zero_le _
 |true=>
  have:=WaK (BaK h) t;cases (Fa t&&!Ib s.Front t)<;>simp<;>omega
theorem RaL(c:List Int)(hc:∀x∈c,0<=x/\x<=255):gaK c/\faK c=true:=by
 by_cases hbig:cmp .gtr (ba .byte c) 1048576=true
 .simp only[gaK,faK,eaK,daK,hbig,ocR,FaJ,Tr.val,Tr.ob,ga];exact⟨by simp,trivial⟩
 .have hbig:cmp .gtr (ba .byte c) 1048576=false:=by simpa using hbig
  obtain⟨d1,s,t,d2,hs⟩:=OaL hc;obtain⟨e1,e2⟩:=MaL hs t;obtain⟨f1,f2⟩:=LaL hs t;obtain⟨l1,l2⟩:=PaL (QaL s t);have hfl:=hs.front;have htl:=hs.told;obtain⟨b1,b2⟩:=SaK s.Told t (by omega);simp only[gaK,faK,eaK,daK,FaJ,Tr.val,Tr.ob,ga,hbig,d2,Vae,e2,f2,l2];cases hok:(pd s&&(Fa t&&!Ib s.Front t)) with
  |false=>
   have ha:atV s t=([],false,()):=by unfold atV;rw[hok];rfl
   rw[ha]at l1⊢;have e:cmp .eql (ba .item []) 0=true:=rfl;simp[d1,e1,f1,l1,e,ocR]
  |true=>
   have ha:atV s t=(Sd s.Told t,true,()):=by unfold atV;rw[hok];rfl
   rw[ha]at l1 l2⊢;simp only[Bool.and_eq_true,Bool.not_eq_true']at hok;obtain⟨x,hx⟩:=LV.1 hok.1;obtain⟨c1,c2⟩:=vaC hx.front hok.2.1 (by omega);rw[hok.2.2]at c2;rw[if_pos ⟨BaK hok.1,hok.2.1⟩]at b2;simp only[]at l1 l2;simp[d1,e1,f1,l1,c1,c2,b1,b2,l2,ocR]
end Go.Proofs.YtiiidenbemkihaaGreat

namespace Go.Proofs.YtiiidenbemkihaaGreat
open Go
theorem EaL:Con Tryz.prog 15 laK:=faL (.cons fay (.cons gay (.cons gh (.cons FV (.cons Iae (.cons Dav (.cons Vav (.cons aaw (.nil na oa)))))))))
theorem FaL:Con Tryz.prog 16 oaK:=kaL (.cons Jae (.cons vn (.cons Iae (.cons Nav (.nil na oa)))))
theorem GaL:Con Tryz.prog 17 raK:=paL (.cons hay (.cons HV (.cons zaw (.cons qaw (.nil na oa)))))
theorem HaL:Con Tryz.prog 18 xaK:=vaL (.nil na oa)
theorem aaC:Con Tryz.prog 19 Uaz:=jaB (.cons baw (.cons HV (.cons zaw (.nil na oa))))
theorem IaL:Con Tryz.prog 20 AaK:=AaL (.cons haw (.cons HV (.cons qaw (.nil na oa))))
theorem JaL:Con Tryz.prog 3 QaK:=DaL (.cons EaL (.cons FaL (.cons GaL (.cons HaL (.cons aaC (.cons IaL (.nil na oa)))))))
end Go.Proofs.YtiiidenbemkihaaGreat
