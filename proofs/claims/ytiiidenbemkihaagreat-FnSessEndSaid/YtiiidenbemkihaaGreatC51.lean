/-
  How the abstract state follows the machine's: what a new value, or more memory, leaves as it was. Each operation's run, as the abstract evaluator tells it: those that make no memory. Each operation's run, as the abstract evaluator tells it: addresses, loads, indices. Each operation's run, as the abstract evaluator tells it: indices, slices, lengths, conversions. Each operation's run, as the abstract evaluator tells it: those that make memory. Each operation's run, as the abstract evaluator tells it: all but the calls, in one theorem. Contracts of functions, and a call by a contract. One operation, whichever it is, as the machine runs it. One operation of the simple kind moves the abstract state as the evaluator tells it. One operation of the simple kind, guards and all. Rights that go from slot to slot. 'append': in place, or into a new block. No statement is proved here.
-/
import Derived.Test.YtiiidenbemkihaaGreatB3
import Derived.Laws.IdiomCopy
import Derived.Laws.AppendOwn
import Derived.Laws.MakeOwn
import Derived.Laws.StructEq
import Derived.Laws.Slices
import Derived.Tactics
import Derived.Test.YtiiidenbemkihaaGreatProg
import Derived.Shelf.SlSortFuncK.WholeK
import Derived.Shelf.GgSortFunc.Tiny
import Derived.Tactics2
import Derived.IntWalk

namespace Go.Proofs.YtiiidenbemkihaaGreat
open Go
section
variable {F F':Fz}{w w':World} (hg:Ta F w F' w') (hl:Live F w)
include hg hl
end
end Go.Proofs.YtiiidenbemkihaaGreat

namespace Go.Proofs.YtiiidenbemkihaaGreat
open Go
section
variable {P:Program}{F:Fz}{B:Nat}{w:World}{a:Act}{ge g:Get}{ow:Nat->Option Nat->Option Nat}
end
end Go.Proofs.YtiiidenbemkihaaGreat

namespace Go.Proofs.YtiiidenbemkihaaGreat
open Go
section
variable {P:Program}{w:World}
variable {F:Fz}{B:Nat}{a:Act}{ge g:Get}{ow:Nat->Option Nat->Option Nat}
end
end Go.Proofs.YtiiidenbemkihaaGreat

namespace Go.Proofs.YtiiidenbemkihaaGreat
open Go
section
variable {P:Program}{tt:TT} (htt:Xb P tt)
include htt
end
section
variable {P:Program}{w:World}{F:Fz}{B:Nat}
variable {a:Act}{ge g:Get}{ow:Nat->Option Nat->Option Nat}
end
end Go.Proofs.YtiiidenbemkihaaGreat

namespace Go.Proofs.YtiiidenbemkihaaGreat
open Go
section
variable {P:Program}{w:World}{F:Fz}{B:Nat}
variable {a:Act}{ge g:Get}{ow:Nat->Option Nat->Option Nat}
end
end Go.Proofs.YtiiidenbemkihaaGreat

namespace Go.Proofs.YtiiidenbemkihaaGreat
open Go
section
variable {P:Program}{w:World}{F:Fz}{B:Nat}{a:Act}{ge raw:Get}{ow:Nat->Option Nat->Option Nat}
end
end Go.Proofs.YtiiidenbemkihaaGreat

namespace Go.Proofs.YtiiidenbemkihaaGreat
open Go
section
variable {P:Program}{w:World}{F:Fz}{B:Nat}{a:Act}{ge g:Get}{ow:Nat->Option Nat->Option Nat}
end
end Go.Proofs.YtiiidenbemkihaaGreat

namespace Go.Proofs.YtiiidenbemkihaaGreat
open Go
section
variable {P:Program}{w:World}{F:Fz}{B:Nat}{a:Act}{ge raw:Get}{ow:Nat->Option Nat->Option Nat}
end
end Go.Proofs.YtiiidenbemkihaaGreat

namespace Go.Proofs.YtiiidenbemkihaaGreat
open Go
section
variable {w w1:World}{F:Fz}{B:Nat}{b:Nat} (hp:Pk w b w1) (hF:Le F w w1)
include hp hF
end
end Go.Proofs.YtiiidenbemkihaaGreat

namespace Go.Proofs.YtiiidenbemkihaaGreat
open Go
section
variable {P:Program}{tt:TT} (htt:Xb P tt) {sp:SP} (hsp:∀f s,spk sp f=some s->Con P f s)
include htt hsp
end
end Go.Proofs.YtiiidenbemkihaaGreat

namespace Go.Proofs.YtiiidenbemkihaaGreat
open Go
section
variable {B:Nat}{IoB:List Nat}{F0 F:Fz}{e:Env}{tm:Nat->Value}{w:World}{ow:Nat->Option Nat->Option Nat}
end
section
variable {P:Program}
end
end Go.Proofs.YtiiidenbemkihaaGreat

namespace Go.Proofs.YtiiidenbemkihaaGreat
open Go
section
variable {B:Nat}{IoB:List Nat}{F0 F:Fz}{e:Env}{tm:Nat->Value}{w:World}{ow:Nat->Option Nat->Option Nat}
end
section
variable {P:Program}{B:Nat}{IoB:List Nat}{F0 F:Fz}{e:Env}{tm:Nat->Value}{w:World}{ow:Nat->Option Nat->Option Nat}
end
end Go.Proofs.YtiiidenbemkihaaGreat

namespace Go.Proofs.YtiiidenbemkihaaGreat
open Go
section
variable {B:Nat}{IoB:List Nat}{F0 F:Fz}{e:Env}{tm:Nat->Value}{w:World}{ow:Nat->Option Nat->Option Nat}
end
section
variable {P:Program}{B:Nat}{IoB:List Nat}{F0 F:Fz}{e:Env}{w:World}{ow:Nat->Option Nat->Option Nat}{a:Act}
end
end Go.Proofs.YtiiidenbemkihaaGreat

namespace Go.Proofs.YtiiidenbemkihaaGreat
open Go
section
variable {P:Program}
variable {B:Nat}{IoB:List Nat}{F0 F:Fz}{e:Env}{w:World}{ow:Nat->Option Nat->Option Nat}{a:Act}
end
end Go.Proofs.YtiiidenbemkihaaGreat

namespace Go.Proofs.YtiiidenbemkihaaGreat
open Go
section
variable {P:Program}{tt:TT}{B:Nat}{IoB:List Nat}{F0 F:Fz}{e:Env}{w:World}{ow:Nat->Option Nat->Option Nat}{a:Act}
variable {sp:SP}
end
end Go.Proofs.YtiiidenbemkihaaGreat

namespace Go.Proofs.YtiiidenbemkihaaGreat
open Go
section
variable {E:Nat->Env}{W:Nat->List Nat}{L:Nat->Bool}
end
end Go.Proofs.YtiiidenbemkihaaGreat

namespace Go.Proofs.YtiiidenbemkihaaGreat
open Go
section
variable {P:Program}{tt:TT}{sp:SP}{B:Nat}{IoB:List Nat}{F0:Fz}{N:NP}{W0:World}
end
end Go.Proofs.YtiiidenbemkihaaGreat

namespace Go.Proofs.YtiiidenbemkihaaGreat
open Go
section
variable {B:Nat}{IoB:List Nat}{F0 F:Fz}{e:Env}{tm:Nat->Value}{w:World}{ow:Nat->Option Nat->Option Nat}
end
section
variable {P:Program}{tt:TT}{sp:SP}{B:Nat}{IoB:List Nat}{F0:Fz}{N:NP}{W0:World}
end
end Go.Proofs.YtiiidenbemkihaaGreat

namespace Go.Proofs.YtiiidenbemkihaaGreat
open Go
section
variable {P:Program}{tt:TT}{sp:SP}{N:NP}{fr:Fr}{c:Code}{e:Env}{n r:Env->Prop}{x:Nat->Env->Prop}
end
open Classical in
section
variable {P:Program}{N:NP}{fr:Fr}{c:Code}{n r:Env->Prop}{x:Nat->Env->Prop}
end
end Go.Proofs.YtiiidenbemkihaaGreat

namespace Go.Proofs.YtiiidenbemkihaaGreat
open Go
section
variable {P:Program}{tt:TT}{N:NP}{fr:Fr}{c:Code}{e:Env}{n r:Env->Prop}{x:Nat->Env->Prop}
end
section
variable {P:Program}{N:NP}{fr:Fr}{c:Code}{e:Env}{n r:Env->Prop}{x:Nat->Env->Prop}
end
end Go.Proofs.YtiiidenbemkihaaGreat

namespace Go.Proofs.YtiiidenbemkihaaGreat
open Go
section
variable {P:Program}{tt:TT}{B:Nat}{IoB:List Nat}{F0 F:Fz}{e:Env}{w:World}{ow:Nat->Option Nat->Option Nat}{a:Act}
end
end Go.Proofs.YtiiidenbemkihaaGreat

namespace Go.Proofs.YtiiidenbemkihaaGreat
open Go
section
variable {P:Program}{tt:TT}{N:NP}{fr:Fr}{c:Code}{e:Env}{n r:Env->Prop}{x:Nat->Env->Prop}
end
end Go.Proofs.YtiiidenbemkihaaGreat

namespace Go.Proofs.YtiiidenbemkihaaGreat
open Go
section
variable {R A X Y Z:Type}
end
section
variable (tt:TT) (sp:SP) (N:NP) (F:Fnn) (kp:List (Nat×List Nat)) (tb:List (Nat×Nat)) (af:List (Nat×Bool×Nat)) {R:Type} (subs:Ki R)
end
section
variable {P:Program}{tt:TT}{sp:SP}{N:NP}{F:Fnn}{kp:List (Nat×List Nat)}{tb:List (Nat×Nat)}{af:List (Nat×Bool×Nat)}{R:Type}{subs:Ki R}{fr:Fr}{C:Code}{n:Env->Prop}{r:RV->Prop}{x:Nat->Env->Prop}
end
end Go.Proofs.YtiiidenbemkihaaGreat

namespace Go.Proofs.YtiiidenbemkihaaGreat
open Go
section
variable {P:Program}
end
end Go.Proofs.YtiiidenbemkihaaGreat

namespace Go.Proofs.YtiiidenbemkihaaGreat
open Go
section
variable {w w':World}{F:Fz}{r:Nat}{B:Nat} (hp:Pk w r w') {o0:Obj} (ho:w.heap[r]? = some o0) (hc:isC o0=false)
include hp ho hc
end
section
variable {P:Program}{N:NP}{B:Nat}{IoB:List Nat}{W0:World}{F0:Fz}{obs:List (Nat×Obj)}{e:Env}{a:Act}{w:World}
end
section
variable {P:Program}{ops:Array Oper}{Q:Exit->Act->World->Prop}
end
end Go.Proofs.YtiiidenbemkihaaGreat

namespace Go.Proofs.YtiiidenbemkihaaGreat
open Go
section
variable {P:Program}{K n:Nat}
variable {T E:Nat} (M:JK P T K E n) {w:World}{r:Nat}{m:MP} (hr:w.heap[r]? = some (xa m)) (hm:Gb n m) {ks:List Int} (hk:ks.length=n)
include M hr
include hm hk
omit hm hk in
end
section
variable {P:Program}{w:World}{r it:Nat}{m:MP} (hr:w.heap[r]? = some (xa m)) {S:List Nat} (hit:w.heap[it]? = some (Cb r m S))
include hr hit
end
end Go.Proofs.YtiiidenbemkihaaGreat

namespace Go.Proofs.YtiiidenbemkihaaGreat
open Go
section
variable {P:Program}
end
end Go.Proofs.YtiiidenbemkihaaGreat

namespace Go.Proofs.YtiiidenbemkihaaGreat
open Go
section
variable {P:Program}{a:Act}{w:World}{o:Oper}
end
end Go.Proofs.YtiiidenbemkihaaGreat

namespace Go.Proofs.YtiiidenbemkihaaGreat
open Go
section
variable {P:Program}{N:NP}{B:Nat}{IoB:List Nat}{W0:World}{F0:Fz}{obs:List (Nat×Obj)}{e:Env}{a:Act}{w:World}{Q:Exit->Act->World->Prop}
end
end Go.Proofs.YtiiidenbemkihaaGreat

namespace Go.Proofs.YtiiidenbemkihaaGreat
open Go
section
variable {P:Program}{tt:TT}{sp:SP}{B:Nat}{IoB:List Nat}{F0:Fz}{N:NP}{W0:World}
end
end Go.Proofs.YtiiidenbemkihaaGreat

namespace Go.Proofs.YtiiidenbemkihaaGreat
open Go
section
variable {P:Program}{N:NP}{B:Nat}{IoB:List Nat}{W0:World}{F0:Fz}{obs:List (Nat×Obj)}{e:Env}{a:Act}{w:World}
end
end Go.Proofs.YtiiidenbemkihaaGreat

namespace Go.Proofs.YtiiidenbemkihaaGreat
open Go
section
variable {P:Program}{tt:TT}{N:NP}{sp:SP}{fr:Fr}{C:Code}{F:Fnn}{R:Type}
end
section
variable {P:Program}{tt:TT}{sp:SP}
end
end Go.Proofs.YtiiidenbemkihaaGreat

namespace Go.Proofs.YtiiidenbemkihaaGreat
open Go
section
variable {N:NP}{B:Nat}{IoB:List Nat}{W0:World}{F0:Fz}{obs:List (Nat×Obj)}{e:Env}{a:Act}{w:World}
end
end Go.Proofs.YtiiidenbemkihaaGreat

namespace Go.Proofs.YtiiidenbemkihaaGreat
open Go
section
variable {F:Fz}{B:Nat}{w w1:World}{b:Nat}{o:Option Nat->Option Nat}
end
end Go.Proofs.YtiiidenbemkihaaGreat

namespace Go.Proofs.YtiiidenbemkihaaGreat
open Go
section
variable {P:Program}{tt:TT}{sp:SP}{a:Act}{w:World}
end
end Go.Proofs.YtiiidenbemkihaaGreat

namespace Go.Proofs.YtiiidenbemkihaaGreat
open Go
section
variable {P:Program}{tt:TT}{sp:SP}{B:Nat}{IoB:List Nat}{F0:Fz}{N:NP}{W0:World}
end
end Go.Proofs.YtiiidenbemkihaaGreat

namespace Go.Proofs.YtiiidenbemkihaaGreat
open Go Go.Shelf Go.RowKit Go.Lib Go.Sort
section
variable {P:Program}{α:Type} [Inhabited α] {enc:α->List Value}{k:Nat}{w w0 W:World}{blk off:Nat}{d dk X:Array α}
variable {g:Nat}{lb:Array Value}{lt:α->α->Bool}{size:Nat}
end
end Go.Proofs.YtiiidenbemkihaaGreat

namespace Go.Proofs.YtiiidenbemkihaaGreat
open Go Go.Shelf Go.RowKit Go.Lib Go.Sort
variable {P:Program}{ρ:Ren}{α:Type} [Inhabited α]
end Go.Proofs.YtiiidenbemkihaaGreat

namespace Go.Proofs.YtiiidenbemkihaaGreat
open Go Go.Shelf Go.RowKit Go.Lib Go.Sort
variable {P:Program}{ρ:Ren}{α:Type} [Inhabited α]
end Go.Proofs.YtiiidenbemkihaaGreat

namespace Go.Proofs.YtiiidenbemkihaaGreat
open Go Go.Shelf Go.RowKit Go.Lib Go.Sort
variable {P:Program}{ρ:Ren}{α:Type} [Inhabited α]
end Go.Proofs.YtiiidenbemkihaaGreat

namespace Go.Proofs.YtiiidenbemkihaaGreat
open Go Go.Shelf Go.RowKit Go.Lib Go.Sort
variable {P:Program}{ρ:Ren}{α:Type} [Inhabited α]
end Go.Proofs.YtiiidenbemkihaaGreat

namespace Go.Proofs.YtiiidenbemkihaaGreat
open Go Go.Shelf Go.RowKit Go.Lib Go.Sort
variable {P:Program}{ρ:Ren}{α:Type} [Inhabited α]
end Go.Proofs.YtiiidenbemkihaaGreat

namespace Go.Proofs.YtiiidenbemkihaaGreat
open Go Go.Shelf Go.RowKit Go.Lib Go.Sort
variable {P:Program}{ρ:Ren}{α:Type} [Inhabited α]
end Go.Proofs.YtiiidenbemkihaaGreat

namespace Go.Proofs.YtiiidenbemkihaaGreat
open Go Go.Shelf Go.RowKit Go.Lib Go.Sort
variable {P:Program}{ρ:Ren}{α:Type} [Inhabited α]
end Go.Proofs.YtiiidenbemkihaaGreat

namespace Go.Proofs.YtiiidenbemkihaaGreat
open Go
noncomputable section
set_option maxRecDepth 100000
def XaC:SP:=[(27,fae),(54,mS),(52,VU),(29,PU),(63,rae),(64,sV),(65,bV)]
abbrev F23:Fnn:=⟨[.cell 4 30,.tmp 5,.tmp 6],.tup [(false,(.st .sess)),(false,(.lst .row)),(true,.bool)],none,[]⟩
abbrev ZaC:Sess×LR×Bool×Unit->RV:=rvF F23
abbrev YaC:=@OkF Tryz.prog tt Tryz.f23 F23 (Sess×LR×Bool×Unit)
def caD(y:List Time)(_ _:Int)(_:LP)(_:List LR)(z:List Time)(_:LR)(a x:Int):TX (Sess×LR×Bool×Unit) Int Unit:=.c (cmp .lss x a) (.w [inb x (ba .time y)] (.w [XH z (rd .time y x)] (.c (!(WH z (rd .time y x))) (.l (.r ((Sess.mk (Plan.mk 0 0 []) [] [] []),([],(false,())))))
 (.l (.n (ar .add .i64 x 1))))))
 (.l (.x ()))
def aaD:=λx y z a b c d f g=>(caD x y z a b c d f g).val
def daD:=λx y z a b c d f g=>(caD x y z a b c d f g).ob
def IaD:=λx y z a b c d f g=>Ba (aaD x y z a b c d f g) (daD x y z a b c d f g) [0,0,1,0,1,1] (λq=>[(1,.S .time x),(2,.box [(.fr,.i y),(.fr,.i z),(.sh,.lst .plan a),(.sh,.lst .lrow b),(.sh,.lst .time c),(.sh,.lst .row d)]),(4,.box [(.fr,.i 0),(.fr,.i 0),(.fr,.nl .plan),(.fr,.nl .lrow),(.fr,.nl .time),(.fr,.nl .row)]),(24,.S .time x),(25,.I f),(26,.I q)]) g ZaC (λ_=>(0,[(1,.S .time x),(2,.box [(.fr,.i y),(.fr,.i z),(.sh,.lst .plan a),(.sh,.lst .lrow b),(.sh,.lst .time c),(.sh,.lst .row d)]),(4,.box [(.fr,.i 0),(.fr,.i 0),(.fr,.nl .plan),(.fr,.nl .lrow),(.fr,.nl .time),(.fr,.nl .row)])])) nE nE
theorem oaE(G:Gd XaC){fr x y z a b c d f g}:YaC fr (IaD x y z a b c d f g):=ma G [(4,[1,2,4,24,25,26,27]),(5,[1,2,4,8,24,25,26]),(6,[1,2,4,24,25,26,34]),(7,[4,5,6]),(8,[1,2,4,24,25,26])] (caD x y z a b c d f g)
def XaD:=λx y z a b c d f=>lpV (λs:Int=>da (aaD x y z a b c d f s)) 0
def YaD:=λx y z a b c d f=>LpT (λs:Int=>da (aaD x y z a b c d f s)) (λs=>daD x y z a b c d f s) 0
def oaD:=λx y z a b c d f=>lpS (IaD x y z a b c d f 0) (XaD x y z a b c d f) (YaD x y z a b c d f)
theorem paE(G:Gd XaC){fr x y z a b c d f}:YaC fr (oaD x y z a b c d f):=Ca (λs:Int=>IaD x y z a b c d f s) 0 λ_=>oaE G
def paD(x:List Time)(y z:Int)(a:LP)(b:List LR)(c:List Time)(d:LR):TA (Sess×LR×Bool×Unit) Unit:=.s (oaD x y z a b c d (ba .time x)) nE (λ_=>.l (.n ())) nE nE
def ZaD:=λx y z a b c d=>(paD x y z a b c d).val
def aaE:=λx y z a b c d=>(paD x y z a b c d).ob
def qaD:=λx y z a b c d=>fa.mk (ZaD x y z a b c d) (aaE x y z a b c d) [0,1,1] [(1,.S .time x),(2,.box [(.fr,.i y),(.fr,.i z),(.sh,.lst .plan a),(.sh,.lst .lrow b),(.sh,.lst .time c),(.sh,.lst .row d)]),(4,.box [(.fr,.i 0),(.fr,.i 0),(.fr,.nl .plan),(.fr,.nl .lrow),(.fr,.nl .time),(.fr,.nl .row)])] ZaC (λ_=>[(1,.S .time x),(2,.box [(.fr,.i y),(.fr,.i z),(.sh,.lst .plan a),(.sh,.lst .lrow b),(.sh,.lst .time c),(.sh,.lst .row d)]),(4,.box [(.fr,.i 0),(.fr,.i 0),(.fr,.nl .plan),(.fr,.nl .lrow),(.fr,.nl .time),(.fr,.nl .row)])]) nE nE nE
theorem qaE(G:Gd XaC){fr x y z a b c d}:YaC fr (qaD x y z a b c d):=ia G [([0,1,0,1,1],λe=>⟨oaD (gL .time e 1 0) (gI e 2 0) (gI e 2 1) (gL .plan e 2 2) (gL .lrow e 2 3) (gL .time e 2 4) (gL .row e 2 5) (gI e 25 0)⟩)] ⟨λ_=>⟨rfl,paE G⟩,trivial⟩ [(3,[1,2,4,24,25,26])] (paD x y z a b c d)
def raD(_ _:Int)(_:LP)(_:List LR)(a:List Time)(_:LR)(_ _:Int)(_:LP)(_:List LR)(_:List Time)(x z:LR)(_ y:Int):TA (Sess×LR×Bool×Unit) LR:=.w [inb y (ba .row x)] (.w [XH a (rd .row x y).At] (.c (WH a (rd .row x y).At) (.w [lim (ba .row z) (ba .row [(rd .row x y)])] (.l (.n (z++[(rd .row x y)]))))
 (.l (.n z))))
def JaD:=λx y z a b c d f g h i j k l m=>(raD x y z a b c d f g h i j k l m).val
def KaD:=λx y z a b c d f g h i j k l m=>(raD x y z a b c d f g h i j k l m).ob
def saD:=λy z a b c d f g h i j x m k l=>fa.mk (JaD y z a b c d f g h i j x m k l) (KaD y z a b c d f g h i j x m k l) [0,1,1,0,0,1,0,1,1,1,1,1,1,1,1] [(2,.box [(.fr,.i y),(.fr,.i z),(.sh,.lst .plan a),(.sh,.lst .lrow b),(.sh,.lst .time c),(.sh,.lst .row d)]),(4,.box [(.fr,.i 0),(.fr,.i 0),(.fr,.nl .plan),(.fr,.nl .lrow),(.fr,.nl .time),(.fr,.nl .row)]),(11,.box [(.fr,.i f),(.fr,.i g),(.sh,.lst .plan h),(.sh,.lst .lrow i),((.acc false),.lst .time j),(.fr,.lst .row x)]),(12,.A .row m),(56,.v .fr (.lst .row x)),(57,.I k),(58,.I l)] ZaC (λq=>[(2,.box [(.fr,.i y),(.fr,.i z),(.sh,.lst .plan a),(.sh,.lst .lrow b),(.sh,.lst .time c),(.sh,.lst .row d)]),(4,.box [(.fr,.i 0),(.fr,.i 0),(.fr,.nl .plan),(.fr,.nl .lrow),(.fr,.nl .time),(.fr,.nl .row)]),(11,.box [(.fr,.i f),(.fr,.i g),(.sh,.lst .plan h),(.sh,.lst .lrow i),((.acc false),.lst .time j),(.fr,.lst .row x)]),(12,.A .row q),(56,.v .fr (.lst .row x)),(57,.I k),(58,.I l)]) nE nE nE
theorem raE(G:Gd XaC){fr x y z a b c d f g h i j k l m}:YaC fr (saD x y z a b c d f g h i j k l m):=ma G [(16,[2,4,11,12,14,56,57,58]),(17,[2,4,11,12,14,56,57,58,66]),(18,[2,4,11,12,56,57,58])] (raD x y z a b c d f g h i j k l m)
def eaD(a b:Int)(c:LP)(d:List LR)(f:List Time)(g:LR)(h i:Int)(j:LP)(k:List LR)(l:List Time)(m:LR)(y:Int)(z:LR)(x:Int):TX (Sess×LR×Bool×Unit) (LR×Int) LR:=.c (cmp .lss x y) (.s (saD a b c d f g h i j k l m z y x) (λn=>.l (.n (n,(ar .add .i64 x 1)))) nE nE nE)
 (.l (.x z))
def baD:=λx y z a b c d f g h i j k l m=>(eaD x y z a b c d f g h i j k l m).val
def faD:=λx y z a b c d f g h i j k l m=>(eaD x y z a b c d f g h i j k l m).ob
def LaD:=λd f g h i j y z a b c x k l m=>Ba (baD d f g h i j y z a b c x k l m) (faD d f g h i j y z a b c x k l m) [0,0,1,0,1,1,1,1,1,1,1,1] (λq=>[(2,.box [(.fr,.i d),(.fr,.i f),(.sh,.lst .plan g),(.sh,.lst .lrow h),(.sh,.lst .time i),(.sh,.lst .row j)]),(4,.box [(.fr,.i 0),(.fr,.i 0),(.fr,.nl .plan),(.fr,.nl .lrow),(.fr,.nl .time),(.fr,.nl .row)]),(11,.box [(.fr,.i y),(.fr,.i z),(.sh,.lst .plan a),(.sh,.lst .lrow b),((.acc false),.lst .time c),(.fr,.lst .row x)]),(12,.A .row q.1),(56,.v .fr (.lst .row x)),(57,.I k),(58,.I q.2)]) (l,m) ZaC (λq=>(2,[(4,.box [(.fr,.i 0),(.fr,.i 0),(.fr,.nl .plan),(.fr,.nl .lrow),(.fr,.nl .time),(.fr,.nl .row)]),(11,.box [(.fr,.i y),(.fr,.i z),(.sh,.lst .plan a),(.sh,.lst .lrow b),((.acc false),.lst .time c),(.fr,.lst .row x)]),(12,.A .row q)])) nE nE
theorem saE(G:Gd XaC){fr x y z a b c d f g h i j k l m}:YaC fr (LaD x y z a b c d f g h i j k l m):=ia G [([0,1,1,0,0,1,0,1,1,1,1,1,1,1,1],λe=>⟨saD (gI e 2 0) (gI e 2 1) (gL .plan e 2 2) (gL .lrow e 2 3) (gL .time e 2 4) (gL .row e 2 5) (gI e 11 0) (gI e 11 1) (gL .plan e 11 2) (gL .lrow e 11 3) (gL .time e 11 4) (gL .row e 11 5) (gL .row e 12 0) (gI e 57 0) (gI e 58 0)⟩)] ⟨λ_=>⟨rfl,raE G⟩,trivial⟩ [(15,[2,4,11,12,56,57,58,59]),(19,[2,4,11,12,56,57,58])] (eaD x y z a b c d f g h i j k l m)
def baE:=λx y z a b c d f g h i j k=>lpV (λs:LR×Int=>da (baD x y z a b c d f g h i j k s.1 s.2)) ([],0)
def caE:=λx y z a b c d f g h i j k=>LpT (λs:LR×Int=>da (baD x y z a b c d f g h i j k s.1 s.2)) (λs=>faD x y z a b c d f g h i j k s.1 s.2) ([],0)
def taD:=λx y z a b c d f g h i j k=>lpS (LaD x y z a b c d f g h i j k [] 0) (baE x y z a b c d f g h i j k) (caE x y z a b c d f g h i j k)
theorem taE(G:Gd XaC){fr x y z a b c d f g h i j k}:YaC fr (taD x y z a b c d f g h i j k):=Ca (λs:LR×Int=>LaD x y z a b c d f g h i j k s.1 s.2) ([],0) λ_=>saE G
def uaD(y z:Int)(a:LP)(b:List LR)(c:List Time)(d:LR)(f g:Int)(h:LP)(i:List LR)(j:List Time)(x:LR):TA (Sess×LR×Bool×Unit) LR:=.s (taD y z a b c d f g h i j x (ba .row x)) nE (λk=>.l (.n k)) nE nE
def daE:=λx y z a b c d f g h i j=>(uaD x y z a b c d f g h i j).val
def eaE:=λx y z a b c d f g h i j=>(uaD x y z a b c d f g h i j).ob
def vaD:=λd f g h i j x y z a b c=>fa.mk (daE d f g h i j x y z a b c) (eaE d f g h i j x y z a b c) [0,1,1,1,1,1,1,1,1] [(2,.box [(.fr,.i d),(.fr,.i f),(.sh,.lst .plan g),(.sh,.lst .lrow h),(.sh,.lst .time i),(.sh,.lst .row j)]),(4,.box [(.fr,.i 0),(.fr,.i 0),(.fr,.nl .plan),(.fr,.nl .lrow),(.fr,.nl .time),(.fr,.nl .row)]),(11,.box [(.fr,.i x),(.fr,.i y),(.sh,.lst .plan z),(.sh,.lst .lrow a),((.acc false),.lst .time b),(.fr,.lst .row c)]),(12,.A .row [])] ZaC (λq=>[(4,.box [(.fr,.i 0),(.fr,.i 0),(.fr,.nl .plan),(.fr,.nl .lrow),(.fr,.nl .time),(.fr,.nl .row)]),(11,.box [(.fr,.i x),(.fr,.i y),(.sh,.lst .plan z),(.sh,.lst .lrow a),((.acc false),.lst .time b),(.fr,.lst .row c)]),(12,.A .row q)]) nE nE nE
theorem uaE(G:Gd XaC){fr x y z a b c d f g h i j}:YaC fr (vaD x y z a b c d f g h i j):=ia G [([0,1,0,1,1,1,1,1,1,1,1],λe=>⟨taD (gI e 2 0) (gI e 2 1) (gL .plan e 2 2) (gL .lrow e 2 3) (gL .time e 2 4) (gL .row e 2 5) (gI e 11 0) (gI e 11 1) (gL .plan e 11 2) (gL .lrow e 11 3) (gL .time e 11 4) (gL .row e 11 5) (gI e 57 0)⟩)] ⟨λ_=>⟨rfl,taE G⟩,trivial⟩ [(14,[2,4,11,12,56,57,58])] (uaD x y z a b c d f g h i j)
def waD(x:Sess)(z:List Time):TN (Sess×LR×Bool×Unit):=.k (oI (Sess.mk (Plan.mk x.Plan.Kind x.Plan.Num x.Plan.Kids) x.Ins x.Front x.Told)) λa=>.w [pI (Sess.mk (Plan.mk x.Plan.Kind x.Plan.Num x.Plan.Kids) x.Ins x.Front x.Told),((!(!a))&&true)=true->(BE z)] (.c (cond (!a) true (!(zE z))) (.l (.r ((Sess.mk (Plan.mk 0 0 []) [] [] []),([],(false,())))))
 (.s (qaD z x.Plan.Kind x.Plan.Num x.Plan.Kids x.Ins x.Front x.Told) (λ_=>.k (MH (Plan.mk x.Plan.Kind x.Plan.Num x.Plan.Kids) x.Ins) λb=>.w [PH (Plan.mk x.Plan.Kind x.Plan.Num x.Plan.Kids) x.Ins] (.k (xV (Sess.mk (Plan.mk x.Plan.Kind x.Plan.Num x.Plan.Kids) x.Ins x.Front x.Told)) λy=>.w [yV (Sess.mk (Plan.mk x.Plan.Kind x.Plan.Num x.Plan.Kids) x.Ins x.Front x.Told)] (.k (zI z) λc=>.w [AI z] (.k (jI b.1 z) λd=>.w [lI b.1 z] (.s (vaD x.Plan.Kind x.Plan.Num x.Plan.Kids x.Ins x.Front x.Told y.Plan.Kind y.Plan.Num y.Plan.Kids y.Ins c d) (λf=>.l (.r ((Sess.mk (Plan.mk y.Plan.Kind y.Plan.Num y.Plan.Kids) y.Ins c d),(f,(true,()))))) nE nE nE))))) nE nE nE))
def MaD:=λx y=>(waD x y).val
def NaD:=λx y=>(waD x y).ob
def vaE:=λx y=>fa.mk (MaD x y) (NaD x y) [] [(0,.agg false [.i x.Plan.Kind,.i x.Plan.Num,.lst .plan x.Plan.Kids,.lst .lrow x.Ins,.lst .time x.Front,.lst .row x.Told]),(1,.S .time y)] ZaC nE nE nE nE
theorem waE(G:Gd XaC){fr x y}:YaC fr (vaE x y):=ia G [([0,1,1],λe=>⟨qaD (gL .time e 1 0) (gI e 2 0) (gI e 2 1) (gL .plan e 2 2) (gL .lrow e 2 3) (gL .time e 2 4) (gL .row e 2 5)⟩),([0,1,1,1,1,1,1,1,1],λe=>⟨vaD (gI e 2 0) (gI e 2 1) (gL .plan e 2 2) (gL .lrow e 2 3) (gL .time e 2 4) (gL .row e 2 5) (gI e 11 0) (gI e 11 1) (gL .plan e 11 2) (gL .lrow e 11 3) (gL .time e 11 4) (gL .row e 11 5)⟩)] ⟨λ_=>⟨rfl,qaE G⟩,λ_=>⟨rfl,uaE G⟩,trivial⟩ [(0,[1,2,4]),(1,[1,2,4,22]),(2,[4,5,6]),(9,[1,2,4,9]),(10,[1,2,4,9,11]),(11,[1,2,4,9,11]),(12,[2,4,11]),(13,[2,4,11,12]),(20,[4,5,6])] (waD x y)
def xaD(x:Sess)(y:List Time):Sess×LR×Bool×Unit:=ocR (MaD x y)
def yaD(x:Sess)(y:List Time):Prop:=NaD x y
def OaD:Spec:=⟨[(.st .sess),(.lst .time)],.tup [(false,(.st .sess)),(false,(.lst .row)),(true,.bool)],false,λx=>(xaD x.1 x.2.1,0),λx=>yaD x.1 x.2.1⟩
theorem xaE(G:Gd XaC):Con Tryz.prog 23 OaD:=va (pts:=[(.st .sess),(.lst .time)]) (F:=F23) G λ_ _=>waE G
def DaG:SP:=[(42,C1),(43,wab)]
abbrev F26:Fnn:=⟨[.cell 2 30],.one .sh (.st .sess),none,[]⟩
abbrev GaG:Sess->RV:=rvF F26
abbrev HaG:=@OkF Tryz.prog tt Tryz.f26 F26 Sess
def uaG(z:LB):TN Sess:=.k (BM z) λy=>.k (Zs (y.1,y.2)) λx=>.w [CM z,eS (y.1,y.2)] (.l (.r (Sess.mk (Plan.mk x.1.Plan.Kind x.1.Plan.Num x.1.Plan.Kids) x.1.Ins x.1.Front x.1.Told)))
def AaG:=λx=>(uaG x).val
def BaG:=λx=>(uaG x).ob
def IaG:=λx=>fa.mk (AaG x) (BaG x) [] [(0,.S .byte x)] GaG nE nE nE nE
theorem JaG(G:Gd DaG){fr x}:HaG fr (IaG x):=ma G [(0,[0,2]),(1,[2])] (uaG x)
def saG(x:LB):Sess:=ocR (AaG x)
def vaG(x:LB):Prop:=BaG x
def CaG:Spec:=⟨[(.lst .byte)],.one .sh (.st .sess),false,λx=>(saG x.1,0),λx=>vaG x.1⟩
theorem KaG(G:Gd DaG):Con Tryz.prog 26 CaG:=va (pts:=[(.lst .byte)]) (F:=F26) G λ_ _=>JaG G
def faE:SP:=[(55,vt),(72,rT),(71,Cm)]
abbrev F30:Fnn:=⟨[.tmp 4],.one .sh (.lst .row),none,[]⟩
abbrev yaE:LR->RV:=rvF F30
abbrev zaE:=@OkF Tryz.prog tt Tryz.f30 F30 LR
def zaD(x y:LR):TN LR:=.w [ut x,((!(!(qt x)))&&true)=true->(ut y)] (.c (cond (!(qt x)) true (!(qt y))) (.l (.r []))
 (.k (DF x y) λz=>.w [EF x y,Zh z] (.l (.r (Qe z).1))))
def PaD:=λx y=>(zaD x y).val
def QaD:=λx y=>(zaD x y).ob
def AaE:=λx y=>fa.mk (PaD x y) (QaD x y) [] [(0,.S .row x),(1,.S .row y)] yaE nE nE nE nE
theorem BaE(G:Gd faE){fr x y}:zaE fr (AaE x y):=ma G [(0,[0,1]),(1,[0,1,14]),(2,[4]),(3,[5]),(4,[4])] (zaD x y)
def gaD(x:LR)(y:LR):LR:=ocR (PaD x y)
def haD(x:LR)(y:LR):Prop:=QaD x y
def RaD:Spec:=⟨[(.lst .row),(.lst .row)],.one .sh (.lst .row),false,λx=>(gaD x.1 x.2.1,0),λx=>haD x.1 x.2.1⟩
theorem CaE(G:Gd faE):Con Tryz.prog 30 RaD:=va (pts:=[(.lst .row),(.lst .row)]) (F:=F30) G λ_ _=>BaE G
def EaG:SP:=[(26,CaG),(27,fae),(28,ZC),(23,OaD),(29,PU),(24,wae),(30,RaD)]
abbrev F5:Fnn:=⟨[.tmp 2],.one .fr .bool,none,[]⟩
abbrev rv5:Bool->RV:=rvF F5
abbrev Ok5:=@OkF Tryz.prog tt Tryz.f5 F5 Bool
def taG(a:LB):TN Bool:=.c (cmp .gtr (ba .byte a) 1048576) (.l (.r true))
 (.k (saG a) λx=>.w [vaG a] (.k (oI (Sess.mk (Plan.mk x.Plan.Kind x.Plan.Num x.Plan.Kids) x.Ins x.Front x.Told)) λb=>.w [pI (Sess.mk (Plan.mk x.Plan.Kind x.Plan.Num x.Plan.Kids) x.Ins x.Front x.Told)] (.k (Rh (Sess.mk (Plan.mk x.Plan.Kind x.Plan.Num x.Plan.Kids) x.Ins x.Front x.Told)) λd=>.w [Th (Sess.mk (Plan.mk x.Plan.Kind x.Plan.Num x.Plan.Kids) x.Ins x.Front x.Told)] (.c (cond (!(b == d)) true (!b)) (.w [Th (Sess.mk (Plan.mk x.Plan.Kind x.Plan.Num x.Plan.Kids) x.Ins x.Front x.Told)] (.l (.r (b == d))))
 (.k (xaD (Sess.mk (Plan.mk x.Plan.Kind x.Plan.Num x.Plan.Kids) x.Ins x.Front x.Told) []) λy=>.w [yaD (Sess.mk (Plan.mk x.Plan.Kind x.Plan.Num x.Plan.Kids) x.Ins x.Front x.Told) []] (.k (MH (Plan.mk x.Plan.Kind x.Plan.Num x.Plan.Kids) x.Ins) λz=>.w [PH (Plan.mk x.Plan.Kind x.Plan.Num x.Plan.Kids) x.Ins] (.k (MI y.1.Told z.1) λc=>.k (gaD x.Told y.2.1) λf=>.w [((cond y.2.2.1 z.2.1 false)&&true)=true->(PI y.1.Told z.1),((cond (cond y.2.2.1 z.2.1 false) c false)&&true)=true->(haD x.Told y.2.1),((cond (cond y.2.2.1 z.2.1 false) c false)&&true)=true->(PI f z.1)] (.l (.r (cond (cond (cond y.2.2.1 z.2.1 false) c false) (MI f z.1) false))))))))))
def waG:=λx=>(taG x).val
def xaG:=λx=>(taG x).ob
def LaG:=λx=>fa.mk (waG x) (xaG x) [] [(0,.S .byte x)] rv5 nE nE nE nE
theorem MaG(G:Gd EaG){fr x}:Ok5 fr (LaG x):=ma G [(0,[0]),(1,[0,12]),(2,[2]),(3,[3]),(4,[3,4]),(5,[3,4,24]),(6,[2]),(7,[3,5,6,7]),(8,[3,5,6,7,8,9]),(9,[2])] (taG x)
def yaG(x:LB):Bool:=ocR (waG x)
def zaG(x:LB):Prop:=xaG x
def FaG:Spec:=⟨[(.lst .byte)],.one .fr .bool,false,λx=>(yaG x.1,0),λx=>zaG x.1⟩
theorem NaG(G:Gd EaG):Con Tryz.prog 5 FaG:=va (pts:=[(.lst .byte)]) (F:=F5) G λ_ _=>MaG G
end
end Go.Proofs.YtiiidenbemkihaaGreat

namespace Go.Proofs.YtiiidenbemkihaaGreat
namespace Ds
open Go
set_option maxRecDepth 100000
section
variable {P:Program}{tt:TT}{N:NP}{fr:Fr}{Cd:Code}{F:Fnn}{R A X Y Z:Type}
end
end Ds
end Go.Proofs.YtiiidenbemkihaaGreat

namespace Go.Proofs.YtiiidenbemkihaaGreat
open Go
section
variable {P:Program}{K n:Nat}
variable {T E:Nat} (M:oaf P T K E n) {w:World}{r:Nat}{S:za} (hr:w.heap[r]? = some (Sa S)) (hm:ic n S) {ks:List Int} (hk:ks.length=n)
include M hr hm hk
end
end Go.Proofs.YtiiidenbemkihaaGreat

namespace Go.Proofs.YtiiidenbemkihaaGreat
open Go Tg
section
variable {a:List Row} (hr:Jb a=true) {kind:Int} (hkind:1<=kind/\kind<=3)
include hr hkind
end
end Go.Proofs.YtiiidenbemkihaaGreat

namespace Go.Proofs.YtiiidenbemkihaaGreat
open Go Tg
theorem jaE{a b:List Row}(ha:Jb a=true)(hb:Jb b=true)(hg:Ga (Pa (a++b))=true):haD a b/\gaD a b=Pa (a++b):=by
 obtain⟨l1,m1⟩:=gb ha;obtain⟨l2,m2⟩:=gb hb;obtain⟨r1,r2⟩:=rZ a (by omega);obtain⟨s1,s2⟩:=rZ b (by omega);obtain⟨c1,c2⟩:=Eai (a:=a) (b:=b) (by omega) (by omega);obtain⟨b1,b2⟩:=Wo (xs:=a++b) (by rw[List.length_append];omega) (λx hx=>Oe ((List.mem_append.1 hx).elim (m1 x) (m2 x)));rw[if_pos hg]at b2;simp only[haD,gaD,QaD,PaD,zaD,Tr.val,Tr.ob,ga,r2,s2,ha,hb,c2,b2];exact⟨by simp[r1,s1,c1,b1],rfl⟩
end Go.Proofs.YtiiidenbemkihaaGreat

namespace Go.Proofs.YtiiidenbemkihaaGreat
open Go Tg
theorem KaE{f g:List Time}{x:List Row}(hb:Ga x=true)(h:(f.all λt=>Ib g t)=true) :
  Pa (Za g x++(Za f x).filter λz=>Ib g z.At)=Za f x:=by
 have hsub:(Za f x).Sublist x:=List.filter_sublist
 have e2:Za g x=(Za f x).filter λz=>!Ib g z.At:=by
  unfold Za;rw[List.filter_filter];refine List.filter_congr λz _=>?_;cases hk:Ib f z.At with
  |false=>simp
  |true=>rw[Saw h hk];rfl
 conv=>rhs;rw[<-Uaw hb hsub]
 refine Qah λk=>Eqm.of ?_;rw[Wah,e2];have:=Yae (λz=>Ib g z.At) k (Za f x);omega
theorem LaE{s:Sess}(hs:Sm s){f:List Time}(hf:f.length<=1000):yaD s f/\xaD s f=onV s f:=by
 have h1:=hs.ins;have h2:=hs.each;have h3:=hs.front;have h4:=hs.told;obtain⟨o1,o2⟩:=kay hs;obtain⟨q1,q2⟩:=raj f (by omega);obtain⟨g1,g2⟩:=faj s.Plan s.Ins (by omega) (λa ha=>by have:=h2 a ha;omega);simp only[yaD,xaD,NaD,MaD,waD,qaD,aaE,ZaD,paD,oaD,vaD,eaE,daE,uaD,taD,lpS,Tr.val,Tr.ob,ga,Pc,o2,q2,g2,onV,NV];cases hok:pd s with
 |false=>exact⟨by simp[o1],rfl⟩
 |true=>
  obtain⟨x,hx⟩:=LV.1 hok;cases hfo:Wd f with
  |false=>exact⟨by simp[o1,q1],rfl⟩
  |true=>
   have k2:ja (λj:Int=>da (aaD f s.Plan.Kind s.Plan.Num s.Plan.Kids s.Ins s.Front s.Told (ba .time f) j)) (λj=>daD f s.Plan.Kind s.Plan.Num s.Plan.Kids s.Ins s.Front s.Told (ba .time f) j) 0 (if ub (λ_ t=>!Ib s.Front t) none f=true then .x () else .r (gv,([],(false,())))):=by
    refine ja.scan f _ (λl t r ht=>?_) ?_
    .obtain⟨hlen,hrd,hin,hlss⟩:=Oa (t:=.time) ht;obtain⟨y1,y2⟩:=Eaw s.Front t (by omega);simp only[daD,aaD,caD,Tr.val,Tr.ob,ga,hlss,hrd,y2,Ia (l:=l) (by omega)];refine⟨by simp[hin,y1],?_⟩;cases Ib s.Front t<;>rfl
    .have hend:cmp .lss (f.length:Int) (ba .time f)=false:=Ma (t:=.time);simp only[daD,aaD,caD,Tr.val,Tr.ob,ga,hend];exact⟨by simp,rfl⟩
   rw[rg]at k2;have a2:XaD f s.Plan.Kind s.Plan.Num s.Plan.Kids s.Ins s.Front s.Told (ba .time f)=_:=k2.v;have d2:YaD f s.Plan.Kind s.Plan.Num s.Plan.Kids s.Ins s.Front s.Told (ba .time f):=k2.t;have hfl:=cp hx.flow;have hxl:=hfl.short;obtain⟨c1,c2⟩:=nay hs hfl.ok;obtain⟨t1,t2⟩:=Naw (f:=f) (by omega);obtain⟨l1,l2⟩:=Faw x f (by omega) (by omega);have hal:=fv f x
   have k4:∀w:LR,ja (λq:LR×Int=>da (baD s.Plan.Kind s.Plan.Num s.Plan.Kids s.Ins s.Front s.Told s.Plan.Kind s.Plan.Num s.Plan.Kids s.Ins f (Za f x) (ba .row (Za f x)) q.1 q.2)) (λq=>faD s.Plan.Kind s.Plan.Num s.Plan.Kids s.Ins s.Front s.Told s.Plan.Kind s.Plan.Num s.Plan.Kids s.Ins f (Za f x) (ba .row (Za f x)) q.1 q.2) ([],0) (.x ((Za f x).filter λz=>Ib s.Front z.At)):=by
    intro _;refine ja.fold (Za f x) (λi b=>(b,(i:Int))) (λl=>l.filter λz=>Ib s.Front z.At) rfl (λl z r hz=>?_) ?_
    .obtain⟨hlen,hrd,hin,hlss⟩:=Oa (t:=.row) hz;obtain⟨b1,b2⟩:=Eaw s.Front z.At (by omega);have hlim:∀w,lim (ba .row (l.filter λz=>Ib s.Front z.At)) (ba .row [w]):=λw=>Ab (t:=.row) (show(l.filter λz=>Ib s.Front z.At).length<1099511627776 by have:(l.filter λz=>Ib s.Front z.At).length<=l.length:=List.length_filter_le _ _;omega)
     have hnext:(l++[z]).filter (λz=>Ib s.Front z.At)=if Ib s.Front z.At=true then(l.filter λz=>Ib s.Front z.At)++[z] else l.filter λz=>Ib s.Front z.At:=by
      rw[List.filter_append];cases h:Ib s.Front z.At<;>simp[h]
     have e:KaD s.Plan.Kind s.Plan.Num s.Plan.Kids s.Ins s.Front s.Told s.Plan.Kind s.Plan.Num s.Plan.Kids s.Ins f (Za f x) (l.filter λz=>Ib s.Front z.At) (ba .row (Za f x)) l.length/\JaD s.Plan.Kind s.Plan.Num s.Plan.Kids s.Ins s.Front s.Told s.Plan.Kind s.Plan.Num s.Plan.Kids s.Ins f (Za f x) (l.filter λz=>Ib s.Front z.At) (ba .row (Za f x)) l.length=.n ((l++[z]).filter λz=>Ib s.Front z.At):=by
      simp only[KaD,JaD,raD,Tr.val,Tr.ob,ga,hrd,b2];refine⟨by simp[hin,b1,hlim],?_⟩;rw[hnext];cases Ib s.Front z.At<;>rfl
     obtain⟨e1,e2⟩:=e;simp only[faD,baD,eaD,saD,Tr.val,Tr.ob,hlss,e2,Ia (l:=l) (by omega)];exact⟨by simp[e1],rfl⟩
    .have hend:cmp .lss ((Za f x).length:Int) (ba .row (Za f x))=false:=Ma (t:=.row);simp only[faD,baD,eaD,Tr.val,Tr.ob,hend];exact⟨by simp,rfl⟩
   have a4:baE s.Plan.Kind s.Plan.Num s.Plan.Kids s.Ins s.Front s.Told s.Plan.Kind s.Plan.Num s.Plan.Kids s.Ins f (Za f x) (ba .row (Za f x))=_:=(k4 []).v;have d4:caE s.Plan.Kind s.Plan.Num s.Plan.Kids s.Ins s.Front s.Told s.Plan.Kind s.Plan.Num s.Plan.Kids s.Ins f (Za f x) (ba .row (Za f x)):=(k4 []).t;simp only[a2,hx.flow,yc,c2,t2,l2,a4];cases hall:(f.all λt=>Ib s.Front t) with
   |false=>exact⟨by simp[o1,q1,d2],rfl⟩
   |true=>
    refine⟨by simp[o1,q1,d2,g1,c1,t1,l1,d4],?_⟩;simp[ocR,onS,QV,hx.all]
end Go.Proofs.YtiiidenbemkihaaGreat

namespace Go.Proofs.YtiiidenbemkihaaGreat
open Go Tg
theorem QaG{c:List Int}(hc:∀x∈c,0<=x/\x<=255):vaG c/\Sm (saG c):=by
 obtain⟨o1,b,o2,hb⟩:=eay hc;obtain⟨s1,s2,s3,s4⟩:=oay hb;generalize hv:Zs (b,0)=sv at s2 s3 s4;obtain⟨s,q⟩:=sv;simp only[]at s2 s3 s4;simp only[vaG,saG,BaG,AaG,uaG,Tr.val,Tr.ob,ga,o2,hv,Vae,ocR];exact⟨by simp[o1,s1],s4⟩
end Go.Proofs.YtiiidenbemkihaaGreat

namespace Go.Proofs.YtiiidenbemkihaaGreat
open Go Tg
theorem NaE{s:Sess}{f:List Time}(h:NV s f=true):∃x,On s f x:=by
 unfold NV at h;simp only[Bool.and_eq_true]at h;obtain⟨x,hx⟩:=LV.1 h.1;exact⟨x,hx,cp hx.flow,h.2.1,h.2.2,hx.told,by unfold onS;rw[hx.all],by unfold QV;rw[hx.all]⟩
theorem SaD(f:List Time)(x:List Row):(Za f x).Sublist x:=List.filter_sublist
theorem OaE{s:Sess}{f:List Time}{x:List Row}(h:On s f x):(QV s f).Sublist x:=by rw[h.fresh];exact List.filter_sublist.trans (SaD f x)
theorem On.both{s:Sess}{f:List Time}{x:List Row}(h:On s f x):haD s.Told (QV s f)/\gaD s.Told (QV s f)=Za f x:=by
 have hg:=KaE h.flow.batch h.all;rw[<-h.told,<-h.fresh]at hg;have hb:=Vaw h.flow.batch (SaD f x);obtain⟨b1,b2⟩:=jaE (a:=s.Told) (b:=QV s f) (oe (by rw[h.told];exact Vaw h.flow.batch (SaD _ x))) (oe (Vaw h.flow.batch (OaE h))) (by rw[hg];exact hb);rw[hg]at b2;exact⟨b1,b2⟩
theorem RaG(x:List Row):Za [] x=x:=List.filter_eq_self.2 λ_ _=>rfl
theorem SaG{s:Sess}(h:pd s=true):NV s []=true:=by unfold NV;rw[h];rfl
theorem TaG(c:List Int)(hc:∀x∈c,0<=x/\x<=255):zaG c/\yaG c=true:=by
 by_cases hbig:cmp .gtr (ba .byte c) 1048576=true
 .simp only[zaG,yaG,xaG,waG,hbig,ocR,taG,Tr.val,Tr.ob,ga];exact⟨by simp,trivial⟩
 .have hbig:cmp .gtr (ba .byte c) 1048576=false:=by simpa using hbig
  obtain⟨d1,hs⟩:=QaG hc;obtain⟨s,hv⟩ : ∃s,saG c=s:=⟨_,rfl⟩;rw[hv]at hs;obtain⟨e1,e2⟩:=JV hs;obtain⟨f1,f2⟩:=kay hs;obtain⟨o1,o2⟩:=LaE hs (f:=[]) (Nat.zero_le _);obtain⟨g1,g2⟩:=faj s.Plan s.Ins (by have:=hs.ins;omega) (λa ha=>by have:=hs.each a ha;omega);simp only[zaG,yaG,xaG,waG,taG,Tr.val,Tr.ob,ga,hbig,hv,Pc,e2,f2,o2,g2,onV];cases h:pd s with
  |false=>simp[d1,e1,f1,ocR]
  |true=>
   have hon:=SaG h;obtain⟨x,hx⟩:=NaE hon;obtain⟨b1,b2⟩:=hx.both;have hn:=hx.new;rw[RaG]at b2 hn;obtain⟨a1,a2⟩:=pay (a:=x) (by have:=hx.flow.short;omega);simp only[hon,cond_true,hx.ok.flow,yc,hn,b2,a2,ocR];simp[d1,e1,f1,o1,g1,a1,b1]
end Go.Proofs.YtiiidenbemkihaaGreat

namespace Go.Proofs.YtiiidenbemkihaaGreat
open Go
theorem HaE:Con Tryz.prog 23 OaD:=xaE (.cons hay (.cons baw (.cons zaw (.cons yaw (.cons iay (.cons Daw (.cons Aaw (.nil na oa))))))))
theorem OaG:Con Tryz.prog 26 CaG:=KaG (.cons fay (.cons gay (.nil na oa)))
theorem IaE:Con Tryz.prog 30 RaD:=CaE (.cons haw (.cons kaw (.cons VI (.nil na oa))))
theorem PaG:Con Tryz.prog 5 FaG:=NaG (.cons OaG (.cons hay (.cons Jae (.cons HaE (.cons yaw (.cons jay (.cons IaE (.nil na oa))))))))
end Go.Proofs.YtiiidenbemkihaaGreat
