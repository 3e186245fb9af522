/-
  How the abstract state follows the machine's: what a new value, or more memory, leaves as it was. Each operation's run, as the abstract evaluator tells it: those that make no memory. Each operation's run, as the abstract evaluator tells it: addresses, loads, indices. Each operation's run, as the abstract evaluator tells it: indices, slices, lengths, conversions. Each operation's run, as the abstract evaluator tells it: those that make memory. Each operation's run, as the abstract evaluator tells it: all but the calls, in one theorem. Contracts of functions, and a call by a contract. One operation, whichever it is, as the machine runs it. One operation of the simple kind moves the abstract state as the evaluator tells it. One operation of the simple kind, guards and all. Rights that go from slot to slot. 'append': in place, or into a new block. No statement is proved here.
-/
import Derived.Test.YtiiidenbemkihaaGreatB3
import Derived.Laws.IdiomCopy
import Derived.Laws.AppendOwn
import Derived.Laws.MakeOwn
import Derived.Laws.StructEq
import Derived.Laws.Slices
import Derived.Tactics
import Derived.Test.YtiiidenbemkihaaGreatProg
import Derived.Shelf.SlSortFuncK.WholeK
import Derived.Shelf.GgSortFunc.Tiny
import Derived.Tactics2
import Derived.IntWalk

namespace Go.Proofs.YtiiidenbemkihaaGreat
open Go
section
variable {F F':Fz}{w w':World} (hg:Ta F w F' w') (hl:Live F w)
include hg hl
end
end Go.Proofs.YtiiidenbemkihaaGreat

namespace Go.Proofs.YtiiidenbemkihaaGreat
open Go
section
variable {P:Program}{F:Fz}{B:Nat}{w:World}{a:Act}{ge g:Get}{ow:Nat->Option Nat->Option Nat}
end
end Go.Proofs.YtiiidenbemkihaaGreat

namespace Go.Proofs.YtiiidenbemkihaaGreat
open Go
section
variable {P:Program}{w:World}
variable {F:Fz}{B:Nat}{a:Act}{ge g:Get}{ow:Nat->Option Nat->Option Nat}
end
end Go.Proofs.YtiiidenbemkihaaGreat

namespace Go.Proofs.YtiiidenbemkihaaGreat
open Go
section
variable {P:Program}{tt:TT} (htt:Xb P tt)
include htt
end
section
variable {P:Program}{w:World}{F:Fz}{B:Nat}
variable {a:Act}{ge g:Get}{ow:Nat->Option Nat->Option Nat}
end
end Go.Proofs.YtiiidenbemkihaaGreat

namespace Go.Proofs.YtiiidenbemkihaaGreat
open Go
section
variable {P:Program}{w:World}{F:Fz}{B:Nat}
variable {a:Act}{ge g:Get}{ow:Nat->Option Nat->Option Nat}
end
end Go.Proofs.YtiiidenbemkihaaGreat

namespace Go.Proofs.YtiiidenbemkihaaGreat
open Go
section
variable {P:Program}{w:World}{F:Fz}{B:Nat}{a:Act}{ge raw:Get}{ow:Nat->Option Nat->Option Nat}
end
end Go.Proofs.YtiiidenbemkihaaGreat

namespace Go.Proofs.YtiiidenbemkihaaGreat
open Go
section
variable {P:Program}{w:World}{F:Fz}{B:Nat}{a:Act}{ge g:Get}{ow:Nat->Option Nat->Option Nat}
end
end Go.Proofs.YtiiidenbemkihaaGreat

namespace Go.Proofs.YtiiidenbemkihaaGreat
open Go
section
variable {P:Program}{w:World}{F:Fz}{B:Nat}{a:Act}{ge raw:Get}{ow:Nat->Option Nat->Option Nat}
end
end Go.Proofs.YtiiidenbemkihaaGreat

namespace Go.Proofs.YtiiidenbemkihaaGreat
open Go
section
variable {w w1:World}{F:Fz}{B:Nat}{b:Nat} (hp:Pk w b w1) (hF:Le F w w1)
include hp hF
end
end Go.Proofs.YtiiidenbemkihaaGreat

namespace Go.Proofs.YtiiidenbemkihaaGreat
open Go
section
variable {P:Program}{tt:TT} (htt:Xb P tt) {sp:SP} (hsp:∀f s,spk sp f=some s->Con P f s)
include htt hsp
end
end Go.Proofs.YtiiidenbemkihaaGreat

namespace Go.Proofs.YtiiidenbemkihaaGreat
open Go
section
variable {B:Nat}{IoB:List Nat}{F0 F:Fz}{e:Env}{tm:Nat->Value}{w:World}{ow:Nat->Option Nat->Option Nat}
end
section
variable {P:Program}
end
end Go.Proofs.YtiiidenbemkihaaGreat

namespace Go.Proofs.YtiiidenbemkihaaGreat
open Go
section
variable {B:Nat}{IoB:List Nat}{F0 F:Fz}{e:Env}{tm:Nat->Value}{w:World}{ow:Nat->Option Nat->Option Nat}
end
section
variable {P:Program}{B:Nat}{IoB:List Nat}{F0 F:Fz}{e:Env}{tm:Nat->Value}{w:World}{ow:Nat->Option Nat->Option Nat}
end
end Go.Proofs.YtiiidenbemkihaaGreat

namespace Go.Proofs.YtiiidenbemkihaaGreat
open Go
section
variable {B:Nat}{IoB:List Nat}{F0 F:Fz}{e:Env}{tm:Nat->Value}{w:World}{ow:Nat->Option Nat->Option Nat}
end
section
variable {P:Program}{B:Nat}{IoB:List Nat}{F0 F:Fz}{e:Env}{w:World}{ow:Nat->Option Nat->Option Nat}{a:Act}
end
end Go.Proofs.YtiiidenbemkihaaGreat

namespace Go.Proofs.YtiiidenbemkihaaGreat
open Go
section
variable {P:Program}
variable {B:Nat}{IoB:List Nat}{F0 F:Fz}{e:Env}{w:World}{ow:Nat->Option Nat->Option Nat}{a:Act}
end
end Go.Proofs.YtiiidenbemkihaaGreat

namespace Go.Proofs.YtiiidenbemkihaaGreat
open Go
section
variable {P:Program}{tt:TT}{B:Nat}{IoB:List Nat}{F0 F:Fz}{e:Env}{w:World}{ow:Nat->Option Nat->Option Nat}{a:Act}
variable {sp:SP}
end
end Go.Proofs.YtiiidenbemkihaaGreat

namespace Go.Proofs.YtiiidenbemkihaaGreat
open Go
section
variable {E:Nat->Env}{W:Nat->List Nat}{L:Nat->Bool}
end
end Go.Proofs.YtiiidenbemkihaaGreat

namespace Go.Proofs.YtiiidenbemkihaaGreat
open Go
section
variable {P:Program}{tt:TT}{sp:SP}{B:Nat}{IoB:List Nat}{F0:Fz}{N:NP}{W0:World}
end
end Go.Proofs.YtiiidenbemkihaaGreat

namespace Go.Proofs.YtiiidenbemkihaaGreat
open Go
section
variable {B:Nat}{IoB:List Nat}{F0 F:Fz}{e:Env}{tm:Nat->Value}{w:World}{ow:Nat->Option Nat->Option Nat}
end
section
variable {P:Program}{tt:TT}{sp:SP}{B:Nat}{IoB:List Nat}{F0:Fz}{N:NP}{W0:World}
end
end Go.Proofs.YtiiidenbemkihaaGreat

namespace Go.Proofs.YtiiidenbemkihaaGreat
open Go
section
variable {P:Program}{tt:TT}{sp:SP}{N:NP}{fr:Fr}{c:Code}{e:Env}{n r:Env->Prop}{x:Nat->Env->Prop}
end
open Classical in
section
variable {P:Program}{N:NP}{fr:Fr}{c:Code}{n r:Env->Prop}{x:Nat->Env->Prop}
end
end Go.Proofs.YtiiidenbemkihaaGreat

namespace Go.Proofs.YtiiidenbemkihaaGreat
open Go
section
variable {P:Program}{tt:TT}{N:NP}{fr:Fr}{c:Code}{e:Env}{n r:Env->Prop}{x:Nat->Env->Prop}
end
section
variable {P:Program}{N:NP}{fr:Fr}{c:Code}{e:Env}{n r:Env->Prop}{x:Nat->Env->Prop}
end
end Go.Proofs.YtiiidenbemkihaaGreat

namespace Go.Proofs.YtiiidenbemkihaaGreat
open Go
section
variable {P:Program}{tt:TT}{B:Nat}{IoB:List Nat}{F0 F:Fz}{e:Env}{w:World}{ow:Nat->Option Nat->Option Nat}{a:Act}
end
end Go.Proofs.YtiiidenbemkihaaGreat

namespace Go.Proofs.YtiiidenbemkihaaGreat
open Go
section
variable {P:Program}{tt:TT}{N:NP}{fr:Fr}{c:Code}{e:Env}{n r:Env->Prop}{x:Nat->Env->Prop}
end
end Go.Proofs.YtiiidenbemkihaaGreat

namespace Go.Proofs.YtiiidenbemkihaaGreat
open Go
section
variable {R A X Y Z:Type}
end
section
variable (tt:TT) (sp:SP) (N:NP) (F:Fnn) (kp:List (Nat×List Nat)) (tb:List (Nat×Nat)) (af:List (Nat×Bool×Nat)) {R:Type} (subs:Ki R)
end
section
variable {P:Program}{tt:TT}{sp:SP}{N:NP}{F:Fnn}{kp:List (Nat×List Nat)}{tb:List (Nat×Nat)}{af:List (Nat×Bool×Nat)}{R:Type}{subs:Ki R}{fr:Fr}{C:Code}{n:Env->Prop}{r:RV->Prop}{x:Nat->Env->Prop}
end
end Go.Proofs.YtiiidenbemkihaaGreat

namespace Go.Proofs.YtiiidenbemkihaaGreat
open Go
section
variable {P:Program}
end
end Go.Proofs.YtiiidenbemkihaaGreat

namespace Go.Proofs.YtiiidenbemkihaaGreat
open Go
section
variable {w w':World}{F:Fz}{r:Nat}{B:Nat} (hp:Pk w r w') {o0:Obj} (ho:w.heap[r]? = some o0) (hc:isC o0=false)
include hp ho hc
end
section
variable {P:Program}{N:NP}{B:Nat}{IoB:List Nat}{W0:World}{F0:Fz}{obs:List (Nat×Obj)}{e:Env}{a:Act}{w:World}
end
section
variable {P:Program}{ops:Array Oper}{Q:Exit->Act->World->Prop}
end
end Go.Proofs.YtiiidenbemkihaaGreat

namespace Go.Proofs.YtiiidenbemkihaaGreat
open Go
section
variable {P:Program}{K n:Nat}
variable {T E:Nat} (M:JK P T K E n) {w:World}{r:Nat}{m:MP} (hr:w.heap[r]? = some (xa m)) (hm:Gb n m) {ks:List Int} (hk:ks.length=n)
include M hr
include hm hk
omit hm hk in
end
section
variable {P:Program}{w:World}{r it:Nat}{m:MP} (hr:w.heap[r]? = some (xa m)) {S:List Nat} (hit:w.heap[it]? = some (Cb r m S))
include hr hit
end
end Go.Proofs.YtiiidenbemkihaaGreat

namespace Go.Proofs.YtiiidenbemkihaaGreat
open Go
section
variable {P:Program}
end
end Go.Proofs.YtiiidenbemkihaaGreat

namespace Go.Proofs.YtiiidenbemkihaaGreat
open Go
section
variable {P:Program}{a:Act}{w:World}{o:Oper}
end
end Go.Proofs.YtiiidenbemkihaaGreat

namespace Go.Proofs.YtiiidenbemkihaaGreat
open Go
section
variable {P:Program}{N:NP}{B:Nat}{IoB:List Nat}{W0:World}{F0:Fz}{obs:List (Nat×Obj)}{e:Env}{a:Act}{w:World}{Q:Exit->Act->World->Prop}
end
end Go.Proofs.YtiiidenbemkihaaGreat

namespace Go.Proofs.YtiiidenbemkihaaGreat
open Go
section
variable {P:Program}{tt:TT}{sp:SP}{B:Nat}{IoB:List Nat}{F0:Fz}{N:NP}{W0:World}
end
end Go.Proofs.YtiiidenbemkihaaGreat

namespace Go.Proofs.YtiiidenbemkihaaGreat
open Go
section
variable {P:Program}{N:NP}{B:Nat}{IoB:List Nat}{W0:World}{F0:Fz}{obs:List (Nat×Obj)}{e:Env}{a:Act}{w:World}
end
end Go.Proofs.YtiiidenbemkihaaGreat

namespace Go.Proofs.YtiiidenbemkihaaGreat
open Go
section
variable {P:Program}{tt:TT}{N:NP}{sp:SP}{fr:Fr}{C:Code}{F:Fnn}{R:Type}
end
section
variable {P:Program}{tt:TT}{sp:SP}
end
end Go.Proofs.YtiiidenbemkihaaGreat

namespace Go.Proofs.YtiiidenbemkihaaGreat
open Go
section
variable {N:NP}{B:Nat}{IoB:List Nat}{W0:World}{F0:Fz}{obs:List (Nat×Obj)}{e:Env}{a:Act}{w:World}
end
end Go.Proofs.YtiiidenbemkihaaGreat

namespace Go.Proofs.YtiiidenbemkihaaGreat
open Go
section
variable {F:Fz}{B:Nat}{w w1:World}{b:Nat}{o:Option Nat->Option Nat}
end
end Go.Proofs.YtiiidenbemkihaaGreat

namespace Go.Proofs.YtiiidenbemkihaaGreat
open Go
section
variable {P:Program}{tt:TT}{sp:SP}{a:Act}{w:World}
end
end Go.Proofs.YtiiidenbemkihaaGreat

namespace Go.Proofs.YtiiidenbemkihaaGreat
open Go
section
variable {P:Program}{tt:TT}{sp:SP}{B:Nat}{IoB:List Nat}{F0:Fz}{N:NP}{W0:World}
end
end Go.Proofs.YtiiidenbemkihaaGreat

namespace Go.Proofs.YtiiidenbemkihaaGreat
open Go Go.Shelf Go.RowKit Go.Lib Go.Sort
section
variable {P:Program}{α:Type} [Inhabited α] {enc:α->List Value}{k:Nat}{w w0 W:World}{blk off:Nat}{d dk X:Array α}
variable {g:Nat}{lb:Array Value}{lt:α->α->Bool}{size:Nat}
end
end Go.Proofs.YtiiidenbemkihaaGreat

namespace Go.Proofs.YtiiidenbemkihaaGreat
open Go Go.Shelf Go.RowKit Go.Lib Go.Sort
variable {P:Program}{ρ:Ren}{α:Type} [Inhabited α]
end Go.Proofs.YtiiidenbemkihaaGreat

namespace Go.Proofs.YtiiidenbemkihaaGreat
open Go Go.Shelf Go.RowKit Go.Lib Go.Sort
variable {P:Program}{ρ:Ren}{α:Type} [Inhabited α]
end Go.Proofs.YtiiidenbemkihaaGreat

namespace Go.Proofs.YtiiidenbemkihaaGreat
open Go Go.Shelf Go.RowKit Go.Lib Go.Sort
variable {P:Program}{ρ:Ren}{α:Type} [Inhabited α]
end Go.Proofs.YtiiidenbemkihaaGreat

namespace Go.Proofs.YtiiidenbemkihaaGreat
open Go Go.Shelf Go.RowKit Go.Lib Go.Sort
variable {P:Program}{ρ:Ren}{α:Type} [Inhabited α]
end Go.Proofs.YtiiidenbemkihaaGreat

namespace Go.Proofs.YtiiidenbemkihaaGreat
open Go Go.Shelf Go.RowKit Go.Lib Go.Sort
variable {P:Program}{ρ:Ren}{α:Type} [Inhabited α]
end Go.Proofs.YtiiidenbemkihaaGreat

namespace Go.Proofs.YtiiidenbemkihaaGreat
open Go Go.Shelf Go.RowKit Go.Lib Go.Sort
variable {P:Program}{ρ:Ren}{α:Type} [Inhabited α]
end Go.Proofs.YtiiidenbemkihaaGreat

namespace Go.Proofs.YtiiidenbemkihaaGreat
open Go Go.Shelf Go.RowKit Go.Lib Go.Sort
variable {P:Program}{ρ:Ren}{α:Type} [Inhabited α]
end Go.Proofs.YtiiidenbemkihaaGreat

namespace Go.Proofs.YtiiidenbemkihaaGreat
open Go
noncomputable section
set_option maxRecDepth 100000
def EaD:SP:=[(42,C1),(43,wab),(56,dO)]
abbrev F21:Fnn:=⟨[.cell 2 30,.tmp 3],.tup [(false,(.st .sess)),(false,(.lst .time))],none,[]⟩
abbrev TaD:Sess×(List Time)×Unit->RV:=rvF F21
abbrev UaD:=@OkF Tryz.prog tt Tryz.f21 F21 (Sess×(List Time)×Unit)
def jaD(x:LB)(y z a:Int)(b:LP)(c:List LR)(d:List Time)(f:LR):TA (Sess×(List Time)×Unit) ((List Time)):=.w [Qy (x,y) (Sess.mk (Plan.mk z a b) c d f)] (.l (.n (Yd (x,y) (Sess.mk (Plan.mk z a b) c d f)).1))
def VaD:=λx y z a b c d f=>(jaD x y z a b c d f).val
def WaD:=λx y z a b c d f=>(jaD x y z a b c d f).ob
def kaD:=λd f x y z a b c=>fa.mk (VaD d f x y z a b c) (WaD d f x y z a b c) [0,1,1,1] [(2,.box [(.fr,.i 0),(.fr,.i 0),(.fr,.nl .plan),(.fr,.nl .lrow),(.fr,.nl .time),(.fr,.nl .row)]),(4,.R d f),(5,.box [(.fr,.i x),(.fr,.i y),(.sh,.lst .plan z),(.sh,.lst .lrow a),(.sh,.lst .time b),(.sh,.lst .row c)])] TaD (λq=>[(2,.box [(.fr,.i x),(.fr,.i y),(.sh,.lst .plan z),(.sh,.lst .lrow a),(.sh,.lst .time b),(.sh,.lst .row c)]),(3,.A .time q)]) nE nE nE
theorem kaE(G:Gd EaD){fr x y z a b c d f}:UaD fr (kaD x y z a b c d f):=any_ok G [2,3] 8 (jaD x y z a b c d f) rfl rfl rfl (by kernel_rfl) (by kernel_rfl) (by kernel_rfl)
def laD(z:LB):TN (Sess×(List Time)×Unit):=.k (BM z) λy=>.w [CM z] (.k (Zs (y.1,y.2)) λx=>.w [eS (y.1,y.2)] (.s (kaD y.1 x.2 x.1.Plan.Kind x.1.Plan.Num x.1.Plan.Kids x.1.Ins x.1.Front x.1.Told) (λa=>.l (.r ((Sess.mk (Plan.mk x.1.Plan.Kind x.1.Plan.Num x.1.Plan.Kids) x.1.Ins x.1.Front x.1.Told),(a,())))) nE nE nE))
def FaD:=λx=>(laD x).val
def GaD:=λx=>(laD x).ob
def laE:=λx=>fa.mk (FaD x) (GaD x) [] [(0,.S .byte x)] TaD nE nE nE nE
theorem maE(G:Gd EaD){fr x}:UaD fr (laE x):=ia G [([0,1,1,1],λe=>⟨kaD (gL .byte e 4 0) (gI e 4 1) (gI e 5 0) (gI e 5 1) (gL .plan e 5 2) (gL .lrow e 5 3) (gL .time e 5 4) (gL .row e 5 5)⟩)] ⟨λ_=>⟨rfl,kaE G⟩,trivial⟩ [(0,[0,2]),(1,[2,4]),(2,[2,4,5])] (laD x)
def maD(x:LB):Sess×(List Time)×Unit:=ocR (FaD x)
def naD(x:LB):Prop:=GaD x
def HaD:Spec:=⟨[(.lst .byte)],.tup [(false,(.st .sess)),(false,(.lst .time))],false,λx=>(maD x.1,0),λx=>naD x.1⟩
theorem naE(G:Gd EaD):Con Tryz.prog 21 HaD:=va (pts:=[(.lst .byte)]) (F:=F21) G λ_ _=>maE G
def XaC:SP:=[(27,fae),(54,mS),(52,VU),(29,PU),(63,rae),(64,sV),(65,bV)]
abbrev F23:Fnn:=⟨[.cell 4 30,.tmp 5,.tmp 6],.tup [(false,(.st .sess)),(false,(.lst .row)),(true,.bool)],none,[]⟩
abbrev ZaC:Sess×LR×Bool×Unit->RV:=rvF F23
abbrev YaC:=@OkF Tryz.prog tt Tryz.f23 F23 (Sess×LR×Bool×Unit)
def caD(y:List Time)(_ _:Int)(_:LP)(_:List LR)(z:List Time)(_:LR)(a x:Int):TX (Sess×LR×Bool×Unit) Int Unit:=.c (cmp .lss x a) (.w [inb x (ba .time y)] (.w [XH z (rd .time y x)] (.c (!(WH z (rd .time y x))) (.l (.r ((Sess.mk (Plan.mk 0 0 []) [] [] []),([],(false,())))))
 (.l (.n (ar .add .i64 x 1))))))
 (.l (.x ()))
def aaD:=λx y z a b c d f g=>(caD x y z a b c d f g).val
def daD:=λx y z a b c d f g=>(caD x y z a b c d f g).ob
def IaD:=λx y z a b c d f g=>Ba (aaD x y z a b c d f g) (daD x y z a b c d f g) [0,0,1,0,1,1] (λq=>[(1,.S .time x),(2,.box [(.fr,.i y),(.fr,.i z),(.sh,.lst .plan a),(.sh,.lst .lrow b),(.sh,.lst .time c),(.sh,.lst .row d)]),(4,.box [(.fr,.i 0),(.fr,.i 0),(.fr,.nl .plan),(.fr,.nl .lrow),(.fr,.nl .time),(.fr,.nl .row)]),(24,.S .time x),(25,.I f),(26,.I q)]) g ZaC (λ_=>(0,[(1,.S .time x),(2,.box [(.fr,.i y),(.fr,.i z),(.sh,.lst .plan a),(.sh,.lst .lrow b),(.sh,.lst .time c),(.sh,.lst .row d)]),(4,.box [(.fr,.i 0),(.fr,.i 0),(.fr,.nl .plan),(.fr,.nl .lrow),(.fr,.nl .time),(.fr,.nl .row)])])) nE nE
theorem oaE(G:Gd XaC){fr x y z a b c d f g}:YaC fr (IaD x y z a b c d f g):=ma G [(4,[1,2,4,24,25,26,27]),(5,[1,2,4,8,24,25,26]),(6,[1,2,4,24,25,26,34]),(7,[4,5,6]),(8,[1,2,4,24,25,26])] (caD x y z a b c d f g)
def XaD:=λx y z a b c d f=>lpV (λs:Int=>da (aaD x y z a b c d f s)) 0
def YaD:=λx y z a b c d f=>LpT (λs:Int=>da (aaD x y z a b c d f s)) (λs=>daD x y z a b c d f s) 0
def oaD:=λx y z a b c d f=>lpS (IaD x y z a b c d f 0) (XaD x y z a b c d f) (YaD x y z a b c d f)
theorem paE(G:Gd XaC){fr x y z a b c d f}:YaC fr (oaD x y z a b c d f):=Ca (λs:Int=>IaD x y z a b c d f s) 0 λ_=>oaE G
def paD(x:List Time)(y z:Int)(a:LP)(b:List LR)(c:List Time)(d:LR):TA (Sess×LR×Bool×Unit) Unit:=.s (oaD x y z a b c d (ba .time x)) nE (λ_=>.l (.n ())) nE nE
def ZaD:=λx y z a b c d=>(paD x y z a b c d).val
def aaE:=λx y z a b c d=>(paD x y z a b c d).ob
def qaD:=λx y z a b c d=>fa.mk (ZaD x y z a b c d) (aaE x y z a b c d) [0,1,1] [(1,.S .time x),(2,.box [(.fr,.i y),(.fr,.i z),(.sh,.lst .plan a),(.sh,.lst .lrow b),(.sh,.lst .time c),(.sh,.lst .row d)]),(4,.box [(.fr,.i 0),(.fr,.i 0),(.fr,.nl .plan),(.fr,.nl .lrow),(.fr,.nl .time),(.fr,.nl .row)])] ZaC (λ_=>[(1,.S .time x),(2,.box [(.fr,.i y),(.fr,.i z),(.sh,.lst .plan a),(.sh,.lst .lrow b),(.sh,.lst .time c),(.sh,.lst .row d)]),(4,.box [(.fr,.i 0),(.fr,.i 0),(.fr,.nl .plan),(.fr,.nl .lrow),(.fr,.nl .time),(.fr,.nl .row)])]) nE nE nE
theorem qaE(G:Gd XaC){fr x y z a b c d}:YaC fr (qaD x y z a b c d):=ia G [([0,1,0,1,1],λe=>⟨oaD (gL .time e 1 0) (gI e 2 0) (gI e 2 1) (gL .plan e 2 2) (gL .lrow e 2 3) (gL .time e 2 4) (gL .row e 2 5) (gI e 25 0)⟩)] ⟨λ_=>⟨rfl,paE G⟩,trivial⟩ [(3,[1,2,4,24,25,26])] (paD x y z a b c d)
def raD(_ _:Int)(_:LP)(_:List LR)(a:List Time)(_:LR)(_ _:Int)(_:LP)(_:List LR)(_:List Time)(x z:LR)(_ y:Int):TA (Sess×LR×Bool×Unit) LR:=.w [inb y (ba .row x)] (.w [XH a (rd .row x y).At] (.c (WH a (rd .row x y).At) (.w [lim (ba .row z) (ba .row [(rd .row x y)])] (.l (.n (z++[(rd .row x y)]))))
 (.l (.n z))))
def JaD:=λx y z a b c d f g h i j k l m=>(raD x y z a b c d f g h i j k l m).val
def KaD:=λx y z a b c d f g h i j k l m=>(raD x y z a b c d f g h i j k l m).ob
def saD:=λy z a b c d f g h i j x m k l=>fa.mk (JaD y z a b c d f g h i j x m k l) (KaD y z a b c d f g h i j x m k l) [0,1,1,0,0,1,0,1,1,1,1,1,1,1,1] [(2,.box [(.fr,.i y),(.fr,.i z),(.sh,.lst .plan a),(.sh,.lst .lrow b),(.sh,.lst .time c),(.sh,.lst .row d)]),(4,.box [(.fr,.i 0),(.fr,.i 0),(.fr,.nl .plan),(.fr,.nl .lrow),(.fr,.nl .time),(.fr,.nl .row)]),(11,.box [(.fr,.i f),(.fr,.i g),(.sh,.lst .plan h),(.sh,.lst .lrow i),((.acc false),.lst .time j),(.fr,.lst .row x)]),(12,.A .row m),(56,.v .fr (.lst .row x)),(57,.I k),(58,.I l)] ZaC (λq=>[(2,.box [(.fr,.i y),(.fr,.i z),(.sh,.lst .plan a),(.sh,.lst .lrow b),(.sh,.lst .time c),(.sh,.lst .row d)]),(4,.box [(.fr,.i 0),(.fr,.i 0),(.fr,.nl .plan),(.fr,.nl .lrow),(.fr,.nl .time),(.fr,.nl .row)]),(11,.box [(.fr,.i f),(.fr,.i g),(.sh,.lst .plan h),(.sh,.lst .lrow i),((.acc false),.lst .time j),(.fr,.lst .row x)]),(12,.A .row q),(56,.v .fr (.lst .row x)),(57,.I k),(58,.I l)]) nE nE nE
theorem raE(G:Gd XaC){fr x y z a b c d f g h i j k l m}:YaC fr (saD x y z a b c d f g h i j k l m):=ma G [(16,[2,4,11,12,14,56,57,58]),(17,[2,4,11,12,14,56,57,58,66]),(18,[2,4,11,12,56,57,58])] (raD x y z a b c d f g h i j k l m)
def eaD(a b:Int)(c:LP)(d:List LR)(f:List Time)(g:LR)(h i:Int)(j:LP)(k:List LR)(l:List Time)(m:LR)(y:Int)(z:LR)(x:Int):TX (Sess×LR×Bool×Unit) (LR×Int) LR:=.c (cmp .lss x y) (.s (saD a b c d f g h i j k l m z y x) (λn=>.l (.n (n,(ar .add .i64 x 1)))) nE nE nE)
 (.l (.x z))
def baD:=λx y z a b c d f g h i j k l m=>(eaD x y z a b c d f g h i j k l m).val
def faD:=λx y z a b c d f g h i j k l m=>(eaD x y z a b c d f g h i j k l m).ob
def LaD:=λd f g h i j y z a b c x k l m=>Ba (baD d f g h i j y z a b c x k l m) (faD d f g h i j y z a b c x k l m) [0,0,1,0,1,1,1,1,1,1,1,1] (λq=>[(2,.box [(.fr,.i d),(.fr,.i f),(.sh,.lst .plan g),(.sh,.lst .lrow h),(.sh,.lst .time i),(.sh,.lst .row j)]),(4,.box [(.fr,.i 0),(.fr,.i 0),(.fr,.nl .plan),(.fr,.nl .lrow),(.fr,.nl .time),(.fr,.nl .row)]),(11,.box [(.fr,.i y),(.fr,.i z),(.sh,.lst .plan a),(.sh,.lst .lrow b),((.acc false),.lst .time c),(.fr,.lst .row x)]),(12,.A .row q.1),(56,.v .fr (.lst .row x)),(57,.I k),(58,.I q.2)]) (l,m) ZaC (λq=>(2,[(4,.box [(.fr,.i 0),(.fr,.i 0),(.fr,.nl .plan),(.fr,.nl .lrow),(.fr,.nl .time),(.fr,.nl .row)]),(11,.box [(.fr,.i y),(.fr,.i z),(.sh,.lst .plan a),(.sh,.lst .lrow b),((.acc false),.lst .time c),(.fr,.lst .row x)]),(12,.A .row q)])) nE nE
theorem saE(G:Gd XaC){fr x y z a b c d f g h i j k l m}:YaC fr (LaD x y z a b c d f g h i j k l m):=ia G [([0,1,1,0,0,1,0,1,1,1,1,1,1,1,1],λe=>⟨saD (gI e 2 0) (gI e 2 1) (gL .plan e 2 2) (gL .lrow e 2 3) (gL .time e 2 4) (gL .row e 2 5) (gI e 11 0) (gI e 11 1) (gL .plan e 11 2) (gL .lrow e 11 3) (gL .time e 11 4) (gL .row e 11 5) (gL .row e 12 0) (gI e 57 0) (gI e 58 0)⟩)] ⟨λ_=>⟨rfl,raE G⟩,trivial⟩ [(15,[2,4,11,12,56,57,58,59]),(19,[2,4,11,12,56,57,58])] (eaD x y z a b c d f g h i j k l m)
def baE:=λx y z a b c d f g h i j k=>lpV (λs:LR×Int=>da (baD x y z a b c d f g h i j k s.1 s.2)) ([],0)
def caE:=λx y z a b c d f g h i j k=>LpT (λs:LR×Int=>da (baD x y z a b c d f g h i j k s.1 s.2)) (λs=>faD x y z a b c d f g h i j k s.1 s.2) ([],0)
def taD:=λx y z a b c d f g h i j k=>lpS (LaD x y z a b c d f g h i j k [] 0) (baE x y z a b c d f g h i j k) (caE x y z a b c d f g h i j k)
theorem taE(G:Gd XaC){fr x y z a b c d f g h i j k}:YaC fr (taD x y z a b c d f g h i j k):=Ca (λs:LR×Int=>LaD x y z a b c d f g h i j k s.1 s.2) ([],0) λ_=>saE G
def uaD(y z:Int)(a:LP)(b:List LR)(c:List Time)(d:LR)(f g:Int)(h:LP)(i:List LR)(j:List Time)(x:LR):TA (Sess×LR×Bool×Unit) LR:=.s (taD y z a b c d f g h i j x (ba .row x)) nE (λk=>.l (.n k)) nE nE
def daE:=λx y z a b c d f g h i j=>(uaD x y z a b c d f g h i j).val
def eaE:=λx y z a b c d f g h i j=>(uaD x y z a b c d f g h i j).ob
def vaD:=λd f g h i j x y z a b c=>fa.mk (daE d f g h i j x y z a b c) (eaE d f g h i j x y z a b c) [0,1,1,1,1,1,1,1,1] [(2,.box [(.fr,.i d),(.fr,.i f),(.sh,.lst .plan g),(.sh,.lst .lrow h),(.sh,.lst .time i),(.sh,.lst .row j)]),(4,.box [(.fr,.i 0),(.fr,.i 0),(.fr,.nl .plan),(.fr,.nl .lrow),(.fr,.nl .time),(.fr,.nl .row)]),(11,.box [(.fr,.i x),(.fr,.i y),(.sh,.lst .plan z),(.sh,.lst .lrow a),((.acc false),.lst .time b),(.fr,.lst .row c)]),(12,.A .row [])] ZaC (λq=>[(4,.box [(.fr,.i 0),(.fr,.i 0),(.fr,.nl .plan),(.fr,.nl .lrow),(.fr,.nl .time),(.fr,.nl .row)]),(11,.box [(.fr,.i x),(.fr,.i y),(.sh,.lst .plan z),(.sh,.lst .lrow a),((.acc false),.lst .time b),(.fr,.lst .row c)]),(12,.A .row q)]) nE nE nE
theorem uaE(G:Gd XaC){fr x y z a b c d f g h i j}:YaC fr (vaD x y z a b c d f g h i j):=ia G [([0,1,0,1,1,1,1,1,1,1,1],λe=>⟨taD (gI e 2 0) (gI e 2 1) (gL .plan e 2 2) (gL .lrow e 2 3) (gL .time e 2 4) (gL .row e 2 5) (gI e 11 0) (gI e 11 1) (gL .plan e 11 2) (gL .lrow e 11 3) (gL .time e 11 4) (gL .row e 11 5) (gI e 57 0)⟩)] ⟨λ_=>⟨rfl,taE G⟩,trivial⟩ [(14,[2,4,11,12,56,57,58])] (uaD x y z a b c d f g h i j)
def waD(x:Sess)(z:List Time):TN (Sess×LR×Bool×Unit):=.k (oI (Sess.mk (Plan.mk x.Plan.Kind x.Plan.Num x.Plan.Kids) x.Ins x.Front x.Told)) λa=>.w [pI (Sess.mk (Plan.mk x.Plan.Kind x.Plan.Num x.Plan.Kids) x.Ins x.Front x.Told),((!(!a))&&true)=true->(BE z)] (.c (cond (!a) true (!(zE z))) (.l (.r ((Sess.mk (Plan.mk 0 0 []) [] [] []),([],(false,())))))
 (.s (qaD z x.Plan.Kind x.Plan.Num x.Plan.Kids x.Ins x.Front x.Told) (λ_=>.k (MH (Plan.mk x.Plan.Kind x.Plan.Num x.Plan.Kids) x.Ins) λb=>.w [PH (Plan.mk x.Plan.Kind x.Plan.Num x.Plan.Kids) x.Ins] (.k (xV (Sess.mk (Plan.mk x.Plan.Kind x.Plan.Num x.Plan.Kids) x.Ins x.Front x.Told)) λy=>.w [yV (Sess.mk (Plan.mk x.Plan.Kind x.Plan.Num x.Plan.Kids) x.Ins x.Front x.Told)] (.k (zI z) λc=>.w [AI z] (.k (jI b.1 z) λd=>.w [lI b.1 z] (.s (vaD x.Plan.Kind x.Plan.Num x.Plan.Kids x.Ins x.Front x.Told y.Plan.Kind y.Plan.Num y.Plan.Kids y.Ins c d) (λf=>.l (.r ((Sess.mk (Plan.mk y.Plan.Kind y.Plan.Num y.Plan.Kids) y.Ins c d),(f,(true,()))))) nE nE nE))))) nE nE nE))
def MaD:=λx y=>(waD x y).val
def NaD:=λx y=>(waD x y).ob
def vaE:=λx y=>fa.mk (MaD x y) (NaD x y) [] [(0,.agg false [.i x.Plan.Kind,.i x.Plan.Num,.lst .plan x.Plan.Kids,.lst .lrow x.Ins,.lst .time x.Front,.lst .row x.Told]),(1,.S .time y)] ZaC nE nE nE nE
theorem waE(G:Gd XaC){fr x y}:YaC fr (vaE x y):=ia G [([0,1,1],λe=>⟨qaD (gL .time e 1 0) (gI e 2 0) (gI e 2 1) (gL .plan e 2 2) (gL .lrow e 2 3) (gL .time e 2 4) (gL .row e 2 5)⟩),([0,1,1,1,1,1,1,1,1],λe=>⟨vaD (gI e 2 0) (gI e 2 1) (gL .plan e 2 2) (gL .lrow e 2 3) (gL .time e 2 4) (gL .row e 2 5) (gI e 11 0) (gI e 11 1) (gL .plan e 11 2) (gL .lrow e 11 3) (gL .time e 11 4) (gL .row e 11 5)⟩)] ⟨λ_=>⟨rfl,qaE G⟩,λ_=>⟨rfl,uaE G⟩,trivial⟩ [(0,[1,2,4]),(1,[1,2,4,22]),(2,[4,5,6]),(9,[1,2,4,9]),(10,[1,2,4,9,11]),(11,[1,2,4,9,11]),(12,[2,4,11]),(13,[2,4,11,12]),(20,[4,5,6])] (waD x y)
def xaD(x:Sess)(y:List Time):Sess×LR×Bool×Unit:=ocR (MaD x y)
def yaD(x:Sess)(y:List Time):Prop:=NaD x y
def OaD:Spec:=⟨[(.st .sess),(.lst .time)],.tup [(false,(.st .sess)),(false,(.lst .row)),(true,.bool)],false,λx=>(xaD x.1 x.2.1,0),λx=>yaD x.1 x.2.1⟩
theorem xaE(G:Gd XaC):Con Tryz.prog 23 OaD:=va (pts:=[(.st .sess),(.lst .time)]) (F:=F23) G λ_ _=>waE G
abbrev V73:=Plan->Plan->Bool
abbrev Q73:=Plan->Plan->Prop
def caz(v:V73)(p:Q73):Spec:=⟨[(.st .plan),(.st .plan)],.one .fr .bool,false,λx=>(v x.1 x.2.1,0),λx=>p x.1 x.2.1⟩
def Fay(r73V:V73)(r73P:Q73):SP:=[(73,caz r73V r73P)]
abbrev F73:Fnn:=⟨[.tmp 4],.one .fr .bool,none,[]⟩
abbrev Vaz:Bool->RV:=rvF F73
abbrev daz:=@OkF Tryz.prog tt Tryz.f73 F73 Bool
def Gay(r73V:V73)(r73P:Q73)(_ _:Int)(y:LP)(_ _:Int)(z:LP)(x:Int):TX Bool Int Unit:=.c (cmp .lss x (ba .plan y)) (.w [inb x (ba .plan y),inb x (ba .plan z),r73P (Plan.mk (rd .plan y x).Kind (rd .plan y x).Num (rd .plan y x).Kids) (Plan.mk (rd .plan z x).Kind (rd .plan z x).Num (rd .plan z x).Kids)] (.c (!(r73V (Plan.mk (rd .plan y x).Kind (rd .plan y x).Num (rd .plan y x).Kids) (Plan.mk (rd .plan z x).Kind (rd .plan z x).Num (rd .plan z x).Kids))) (.l (.r false))
 (.l (.n (ar .add .i64 x 1)))))
 (.l (.x ()))
def Q4:=λr73V r73P x y z a b c d=>(Gay r73V r73P x y z a b c d).val
def Hay:=λr73V r73P x y z a b c d=>(Gay r73V r73P x y z a b c d).ob
def Waz:=λr73V r73P x y z a b c d=>Ba (Q4 r73V r73P x y z a b c d) (Hay r73V r73P x y z a b c d) [0,0,1,0,1,1] (λq=>[(2,.box [(.fr,.i x),(.fr,.i y),(.sh,.lst .plan z)]),(3,.box [(.fr,.i a),(.fr,.i b),(.sh,.lst .plan c)]),(5,.I q)]) d Vaz (λ_=>(0,[])) nE nE
theorem kaB{r73V:V73}{r73P:Q73}(G:Gd (Fay r73V r73P)){fr x y z a b c d}:daz fr (Waz r73V r73P x y z a b c d):=ma G [(4,[2,3,5,31]),(5,[2,3,5]),(6,[2,3,5,45]),(7,[4])] (Gay r73V r73P x y z a b c d)
def EaA:=λr73V r73P x y z a b c=>lpV (λs:Int=>da (Q4 r73V r73P x y z a b c s)) 0
def FaA:=λr73V r73P x y z a b c=>LpT (λs:Int=>da (Q4 r73V r73P x y z a b c s)) (λs=>Hay r73V r73P x y z a b c s) 0
def eaz:=λr73V r73P x y z a b c=>lpS (Waz r73V r73P x y z a b c 0) (EaA r73V r73P x y z a b c) (FaA r73V r73P x y z a b c)
theorem laB{r73V:V73}{r73P:Q73}(G:Gd (Fay r73V r73P)){fr x y z a b c}:daz fr (eaz r73V r73P x y z a b c):=Ca (λs:Int=>Waz r73V r73P x y z a b c s) 0 λ_=>kaB G
def faz(r73V:V73)(r73P:Q73)(x y:Int)(z:LP)(a b:Int)(c:LP):TA Bool Unit:=.s (eaz r73V r73P x y z a b c) nE (λ_=>.l (.n ())) nE nE
def GaA:=λr73V r73P x y z a b c=>(faz r73V r73P x y z a b c).val
def HaA:=λr73V r73P x y z a b c=>(faz r73V r73P x y z a b c).ob
def gaz:=λr73V r73P x y z a b c=>fa.mk (GaA r73V r73P x y z a b c) (HaA r73V r73P x y z a b c) [0,1,1] [(2,.box [(.fr,.i x),(.fr,.i y),(.sh,.lst .plan z)]),(3,.box [(.fr,.i a),(.fr,.i b),(.sh,.lst .plan c)])] Vaz (λ_=>[]) nE nE nE
theorem maB{r73V:V73}{r73P:Q73}(G:Gd (Fay r73V r73P)){fr x y z a b c}:daz fr (gaz r73V r73P x y z a b c):=ia G [([0,1,0,1,1],λe=>⟨eaz r73V r73P (gI e 2 0) (gI e 2 1) (gL .plan e 2 2) (gI e 3 0) (gI e 3 1) (gL .plan e 3 2)⟩)] ⟨λ_=>⟨rfl,laB G⟩,trivial⟩ [(3,[2,3,5])] (faz r73V r73P x y z a b c)
def haz(r73V:V73)(r73P:Q73)(x y:Plan):TN Bool:=.c (cond (cond (cmp .neq x.Kind y.Kind) true (cmp .neq x.Num y.Num)) true (cmp .neq (ba .plan x.Kids) (ba .plan y.Kids))) (.l (.r false))
 (.s (gaz r73V r73P x.Kind x.Num x.Kids y.Kind y.Num y.Kids) (λ_=>.l (.r true)) nE nE nE)
def iaz:=λr73V r73P x y=>(haz r73V r73P x y).val
def jaz:=λr73V r73P x y=>(haz r73V r73P x y).ob
def naB:=λr73V r73P x y=>fa.mk (iaz r73V r73P x y) (jaz r73V r73P x y) [] [(0,.agg false [.i x.Kind,.i x.Num,.lst .plan x.Kids]),(1,.agg false [.i y.Kind,.i y.Num,.lst .plan y.Kids])] Vaz nE nE nE nE
theorem oaB{r73V:V73}{r73P:Q73}(G:Gd (Fay r73V r73P)){fr x y}:daz fr (naB r73V r73P x y):=ia G [([0,1,1],λe=>⟨gaz r73V r73P (gI e 2 0) (gI e 2 1) (gL .plan e 2 2) (gI e 3 0) (gI e 3 1) (gL .plan e 3 2)⟩)] ⟨λ_=>⟨rfl,maB G⟩,trivial⟩ [(0,[2,3]),(1,[2,3,26]),(2,[4]),(8,[4])] (haz r73V r73P x y)
theorem paB{r73V:V73}{r73P:Q73}(G:Gd (Fay r73V r73P)):Con Tryz.prog 73 (caz (λx y=>ocR (iaz r73V r73P x y)) (λx y=>jaz r73V r73P x y)):=va (pts:=[(.st .plan),(.st .plan)]) (F:=F73) G λ_ _=>oaB G
def ek:Nat->V73×Q73
 |0=>(λ_ _=>default,λ_ _=>False)
 |n+1=>(λx y=>ocR (iaz (ek n).1 (ek n).2 x y),λx y=>jaz (ek n).1 (ek n).2 x y)
def Xaz:V73:=(ek Pb).1
def Yaz:Q73:=(ek Pb).2
def IaA:Spec:=caz Xaz Yaz
def Iay:SP:=[(24,wae)]
abbrev F74:Fnn:=⟨[.tmp 4],.one .fr .bool,none,[]⟩
abbrev Zaz:Bool->RV:=rvF F74
abbrev kaz:=@OkF Tryz.prog tt Tryz.f74 F74 Bool
def Jay(y z:List LR)(x:Int):TX Bool Int Unit:=.c (cmp .lss x (ba .lrow y)) (.w [inb x (ba .lrow y),inb x (ba .lrow z),PI (rd .lrow y x) (rd .lrow z x)] (.c (!(MI (rd .lrow y x) (rd .lrow z x))) (.l (.r false))
 (.l (.n (ar .add .i64 x 1)))))
 (.l (.x ()))
def yay:=λx y z=>(Jay x y z).val
def Kay:=λx y z=>(Jay x y z).ob
def aaA:=λx y z=>Ba (yay x y z) (Kay x y z) [0,0,1,0,1,1] (λq=>[(0,.S .lrow x),(1,.S .lrow y),(5,.I q)]) z Zaz (λ_=>(0,[])) nE nE
theorem qaB(G:Gd Iay){fr x y z}:kaz fr (aaA x y z):=ma G [(4,[0,1,5,14]),(5,[0,1,5]),(6,[0,1,5,26]),(7,[4])] (Jay x y z)
def JaA:=λx y=>lpV (λs:Int=>da (yay x y s)) 0
def KaA:=λx y=>LpT (λs:Int=>da (yay x y s)) (λs=>Kay x y s) 0
def laz:=λx y=>lpS (aaA x y 0) (JaA x y) (KaA x y)
theorem raB(G:Gd Iay){fr x y}:kaz fr (laz x y):=Ca (λs:Int=>aaA x y s) 0 λ_=>qaB G
def maz(x y:List LR):TA Bool Unit:=.s (laz x y) nE (λ_=>.l (.n ())) nE nE
def LaA:=λx y=>(maz x y).val
def MaA:=λx y=>(maz x y).ob
def naz:=λx y=>fa.mk (LaA x y) (MaA x y) [0,1,1] [(0,.S .lrow x),(1,.S .lrow y)] Zaz (λ_=>[]) nE nE nE
theorem saB(G:Gd Iay){fr x y}:kaz fr (naz x y):=ia G [([0,1,0,1,1],λe=>⟨laz (gL .lrow e 0 0) (gL .lrow e 1 0)⟩)] ⟨λ_=>⟨rfl,raB G⟩,trivial⟩ [(3,[0,1,5])] (maz x y)
def oaz(x y:List LR):TN Bool:=.c (cmp .neq (ba .lrow x) (ba .lrow y)) (.l (.r false))
 (.s (naz x y) (λ_=>.l (.r true)) nE nE nE)
def baA:=λx y=>(oaz x y).val
def caA:=λx y=>(oaz x y).ob
def taB:=λx y=>fa.mk (baA x y) (caA x y) [] [(0,.S .lrow x),(1,.S .lrow y)] Zaz nE nE nE nE
theorem uaB(G:Gd Iay){fr x y}:kaz fr (taB x y):=ia G [([0,1,1],λe=>⟨naz (gL .lrow e 0 0) (gL .lrow e 1 0)⟩)] ⟨λ_=>⟨rfl,saB G⟩,trivial⟩ [(0,[0,1]),(1,[0,1,10]),(2,[4]),(8,[4])] (oaz x y)
def paz(x:List LR)(y:List LR):Bool:=ocR (baA x y)
def qaz(x:List LR)(y:List LR):Prop:=caA x y
def daA:Spec:=⟨[(.lst .lrow),(.lst .lrow)],.one .fr .bool,false,λx=>(paz x.1 x.2.1,0),λx=>qaz x.1 x.2.1⟩
theorem vaB(G:Gd Iay):Con Tryz.prog 74 daA:=va (pts:=[(.lst .lrow),(.lst .lrow)]) (F:=F74) G λ_ _=>uaB G
def Lay:SP:=[]
abbrev F32:Fnn:=⟨[.tmp 4],.one .fr .bool,none,[]⟩
abbrev eaA:Bool->RV:=rvF F32
abbrev raz:=@OkF Tryz.prog tt Tryz.f32 F32 Bool
def May(y z:List Time)(x:Int):TX Bool Int Unit:=.c (cmp .lss x (ba .time y)) (.w [inb x (ba .time y),inb x (ba .time z)] (.c (!(cmp .eql (rd .time y x).A (rd .time z x).A&&(cmp .eql (rd .time y x).B (rd .time z x).B&&true))) (.l (.r false))
 (.l (.n (ar .add .i64 x 1)))))
 (.l (.x ()))
def zay:=λx y z=>(May x y z).val
def Nay:=λx y z=>(May x y z).ob
def faA:=λx y z=>Ba (zay x y z) (Nay x y z) [0,0,1,0,1,1] (λq=>[(0,.S .time x),(1,.S .time y),(5,.I q)]) z eaA (λ_=>(0,[])) nE nE
theorem waB(G:Gd Lay){fr x y z}:raz fr (faA x y z):=ma G [(4,[0,1,5,14]),(5,[0,1,5]),(6,[0,1,5,25]),(7,[4])] (May x y z)
def gaA:=λx y=>lpV (λs:Int=>da (zay x y s)) 0
def NaA:=λx y=>LpT (λs:Int=>da (zay x y s)) (λs=>Nay x y s) 0
def Oay:=λx y=>lpS (faA x y 0) (gaA x y) (NaA x y)
theorem xaB(G:Gd Lay){fr x y}:raz fr (Oay x y):=Ca (λs:Int=>faA x y s) 0 λ_=>waB G
def Pay(x y:List Time):TA Bool Unit:=.s (Oay x y) nE (λ_=>.l (.n ())) nE nE
def haA:=λx y=>(Pay x y).val
def iaA:=λx y=>(Pay x y).ob
def Aay:=λx y=>fa.mk (haA x y) (iaA x y) [0,1,1] [(0,.S .time x),(1,.S .time y)] eaA (λ_=>[]) nE nE nE
theorem yaB(G:Gd Lay){fr x y}:raz fr (Aay x y):=ia G [([0,1,0,1,1],λe=>⟨Oay (gL .time e 0 0) (gL .time e 1 0)⟩)] ⟨λ_=>⟨rfl,xaB G⟩,trivial⟩ [(3,[0,1,5])] (Pay x y)
def Bay(x y:List Time):TN Bool:=.c (cmp .neq (ba .time x) (ba .time y)) (.l (.r false))
 (.s (Aay x y) (λ_=>.l (.r true)) nE nE nE)
def Qay:=λx y=>(Bay x y).val
def Ray:=λx y=>(Bay x y).ob
def zaB:=λx y=>fa.mk (Qay x y) (Ray x y) [] [(0,.S .time x),(1,.S .time y)] eaA nE nE nE nE
theorem AaB(G:Gd Lay){fr x y}:raz fr (zaB x y):=ia G [([0,1,1],λe=>⟨Aay (gL .time e 0 0) (gL .time e 1 0)⟩)] ⟨λ_=>⟨rfl,yaB G⟩,trivial⟩ [(0,[0,1]),(1,[0,1,10]),(2,[4]),(8,[4])] (Bay x y)
def DA(x:List Time)(y:List Time):Bool:=ocR (Qay x y)
def DP(x:List Time)(y:List Time):Prop:=Ray x y
def jaA:Spec:=⟨[(.lst .time),(.lst .time)],.one .fr .bool,false,λx=>(DA x.1 x.2.1,0),λx=>DP x.1 x.2.1⟩
theorem BaB(G:Gd Lay):Con Tryz.prog 32 jaA:=va (pts:=[(.lst .time),(.lst .time)]) (F:=F32) G λ_ _=>AaB G
def OaA:SP:=[(73,IaA),(74,daA),(32,jaA),(24,wae)]
abbrev F31:Fnn:=⟨[.tmp 4],.one .fr .bool,none,[]⟩
abbrev CaB:Bool->RV:=rvF F31
abbrev DaB:=@OkF Tryz.prog tt Tryz.f31 F31 Bool
def saz(x y:Sess):TN Bool:=.k (Xaz (Plan.mk x.Plan.Kind x.Plan.Num x.Plan.Kids) (Plan.mk y.Plan.Kind y.Plan.Num y.Plan.Kids)) λz=>.k (paz x.Ins y.Ins) λa=>.k (DA x.Front y.Front) λb=>.w [Yaz (Plan.mk x.Plan.Kind x.Plan.Num x.Plan.Kids) (Plan.mk y.Plan.Kind y.Plan.Num y.Plan.Kids),(z&&true)=true->(qaz x.Ins y.Ins),((cond z a false)&&true)=true->(DP x.Front y.Front),((cond (cond z a false) b false)&&true)=true->(PI x.Told y.Told)] (.l (.r (cond (cond (cond z a false) b false) (MI x.Told y.Told) false)))
def kaA:=λx y=>(saz x y).val
def laA:=λx y=>(saz x y).ob
def EaB:=λx y=>fa.mk (kaA x y) (laA x y) [] [(0,.agg false [.i x.Plan.Kind,.i x.Plan.Num,.lst .plan x.Plan.Kids,.lst .lrow x.Ins,.lst .time x.Front,.lst .row x.Told]),(1,.agg false [.i y.Plan.Kind,.i y.Plan.Num,.lst .plan y.Plan.Kids,.lst .lrow y.Ins,.lst .time y.Front,.lst .row y.Told])] CaB nE nE nE nE
theorem FaB(G:Gd OaA){fr x y}:DaB fr (EaB x y):=ma G [(0,[2,3]),(1,[4])] (saz x y)
def Q0(x:Sess)(y:Sess):Bool:=ocR (kaA x y)
def Q1(x:Sess)(y:Sess):Prop:=laA x y
def maA:Spec:=⟨[(.st .sess),(.st .sess)],.one .fr .bool,false,λx=>(Q0 x.1 x.2.1,0),λx=>Q1 x.1 x.2.1⟩
theorem GaB(G:Gd OaA):Con Tryz.prog 31 maA:=va (pts:=[(.st .sess),(.st .sess)]) (F:=F31) G λ_ _=>FaB G
def AaH:SP:=[(21,HaD),(22,lR),(23,OaD),(31,maA),(24,wae),(32,jaA)]
abbrev F6:Fnn:=⟨[.tmp 2],.one .fr .bool,none,[]⟩
abbrev rv6:Bool->RV:=rvF F6
abbrev Ok6:=@OkF Tryz.prog tt Tryz.f6 F6 Bool
def uaH(b:LB):TN Bool:=.c (cmp .gtr (ba .byte b) 1048576) (.l (.r true))
 (.k (maD b) λy=>.w [naD b] (.k (wg (Sess.mk (Plan.mk y.1.Plan.Kind y.1.Plan.Num y.1.Plan.Kids) y.1.Ins y.1.Front y.1.Told) y.2.1) λz=>.w [lD (Sess.mk (Plan.mk y.1.Plan.Kind y.1.Plan.Num y.1.Plan.Kids) y.1.Ins y.1.Front y.1.Told) y.2.1] (.k (xaD (Sess.mk (Plan.mk y.1.Plan.Kind y.1.Plan.Num y.1.Plan.Kids) y.1.Ins y.1.Front y.1.Told) y.2.1) λx=>.w [yaD (Sess.mk (Plan.mk y.1.Plan.Kind y.1.Plan.Num y.1.Plan.Kids) y.1.Ins y.1.Front y.1.Told) y.2.1] (.k (Q0 (Sess.mk (Plan.mk x.1.Plan.Kind x.1.Plan.Num x.1.Plan.Kids) x.1.Ins x.1.Front x.1.Told) (Sess.mk (Plan.mk z.1.Plan.Kind z.1.Plan.Num z.1.Plan.Kids) z.1.Ins z.1.Front z.1.Told)) λa=>.k (MI x.2.1 z.2.1) λc=>.w [((!(!(x.2.2.1 == z.2.2.1)))&&true)=true->(Q1 (Sess.mk (Plan.mk x.1.Plan.Kind x.1.Plan.Num x.1.Plan.Kids) x.1.Ins x.1.Front x.1.Told) (Sess.mk (Plan.mk z.1.Plan.Kind z.1.Plan.Num z.1.Plan.Kids) z.1.Ins z.1.Front z.1.Told)),((!(cond (!(x.2.2.1 == z.2.2.1)) true (!a)))&&true)=true->(PI x.2.1 z.2.1)] (.c (cond (cond (cond (!(x.2.2.1 == z.2.2.1)) true (!a)) true (!c)) true (!x.2.2.1)) (.w [((x.2.2.1 == z.2.2.1)&&true)=true->(Q1 (Sess.mk (Plan.mk x.1.Plan.Kind x.1.Plan.Num x.1.Plan.Kids) x.1.Ins x.1.Front x.1.Told) (Sess.mk (Plan.mk z.1.Plan.Kind z.1.Plan.Num z.1.Plan.Kids) z.1.Ins z.1.Front z.1.Told)),((cond (x.2.2.1 == z.2.2.1) a false)&&true)=true->(PI x.2.1 z.2.1)] (.l (.r (cond (cond (x.2.2.1 == z.2.2.1) a false) c false))))
 (.w [yaD (Sess.mk (Plan.mk x.1.Plan.Kind x.1.Plan.Num x.1.Plan.Kids) x.1.Ins x.1.Front x.1.Told) y.1.Front] (.w [((!(cmp .eql (ba .time y.1.Front) 0))&&true)=true->(DP y.1.Front y.2.1)] (.l (.r ((xaD (Sess.mk (Plan.mk x.1.Plan.Kind x.1.Plan.Num x.1.Plan.Kids) x.1.Ins x.1.Front x.1.Told) y.1.Front).2.2.1 == (cond (cmp .eql (ba .time y.1.Front) 0) true (DA y.1.Front y.2.1))))))))))))
def vaH:=λx=>(uaH x).val
def waH:=λx=>(uaH x).ob
def DaH:=λx=>fa.mk (vaH x) (waH x) [] [(0,.S .byte x)] rv6 nE nE nE nE
theorem EaH(G:Gd AaH){fr x}:Ok6 fr (DaH x):=ma G [(0,[0]),(1,[0,16]),(2,[2]),(3,[3,4]),(4,[3,4,5,6,7]),(5,[3,4,5,6,7,8,9,10]),(6,[3,4,5,6,7,8,9,10,54]),(7,[2]),(8,[3,4,13]),(9,[2])] (uaH x)
def xaH(x:LB):Bool:=ocR (vaH x)
def yaH(x:LB):Prop:=waH x
def BaH:Spec:=⟨[(.lst .byte)],.one .fr .bool,false,λx=>(xaH x.1,0),λx=>yaH x.1⟩
theorem FaH(G:Gd AaH):Con Tryz.prog 6 BaH:=va (pts:=[(.lst .byte)]) (F:=F6) G λ_ _=>EaH G
end
end Go.Proofs.YtiiidenbemkihaaGreat

namespace Go.Proofs.YtiiidenbemkihaaGreat
namespace Ds
open Go
set_option maxRecDepth 100000
section
variable {P:Program}{tt:TT}{N:NP}{fr:Fr}{Cd:Code}{F:Fnn}{R A X Y Z:Type}
end
end Ds
end Go.Proofs.YtiiidenbemkihaaGreat

namespace Go.Proofs.YtiiidenbemkihaaGreat
open Go
section
variable {P:Program}{K n:Nat}
variable {T E:Nat} (M:oaf P T K E n) {w:World}{r:Nat}{S:za} (hr:w.heap[r]? = some (Sa S)) (hm:ic n S) {ks:List Int} (hk:ks.length=n)
include M hr hm hk
end
end Go.Proofs.YtiiidenbemkihaaGreat

namespace Go.Proofs.YtiiidenbemkihaaGreat
open Go Tg
section
variable {a:List Row} (hr:Jb a=true) {kind:Int} (hkind:1<=kind/\kind<=3)
include hr hkind
end
end Go.Proofs.YtiiidenbemkihaaGreat

namespace Go.Proofs.YtiiidenbemkihaaGreat
open Go Tg
def smM:Nat->Plan->Bool
 |0,_=>false
 |d+1,p=>decide (p.Kids.length<=2)&&p.Kids.all (smM d)
theorem jaC{d:Nat}{p:Plan}(h:smM (d+1) p=true):p.Kids.length<=2/\∀x∈p.Kids,smM d x=true:=by
 simp only[smM,Bool.and_eq_true,List.all_eq_true,decide_eq_true_eq]at h;exact h
theorem baB:∀ {d:Nat}{p:Plan},okM d p=true->smM d p=true
 |0,_,h=>by cases h
 |d+1,p,h=>by
  obtain⟨h1,h2⟩:=Mw h;simp only[smM,Bool.and_eq_true,List.all_eq_true,decide_eq_true_eq];exact⟨h1,λx hx=>baB (h2 x hx)⟩
theorem kaC:∀(d n:Nat),d<=n->∀p:Plan,smM d p=true->(ek n).2 p p/\(ek n).1 p p=true:=by
 intro d
 induction d with
 |zero=>intro n _ p h;cases h
 |succ d ih=>
  intro n hn p hp;obtain⟨m,rfl⟩ : ∃m,n=m+1:=⟨n - 1,by omega⟩;obtain⟨hlen,hk⟩:=jaC hp
  have k:ja (λs:Int=>da (Q4 (ek m).1 (ek m).2 p.Kind p.Num p.Kids p.Kind p.Num p.Kids s)) (λs=>Hay (ek m).1 (ek m).2 p.Kind p.Num p.Kids p.Kind p.Num p.Kids s) 0 (.x ()):=by
   refine ja.fold p.Kids (λi (_:Unit)=>(i:Int)) (λ_=>()) rfl (λl x r hx=>?_) ?_
   .obtain⟨hlen2,hrd,hin,hlss⟩:=Oa (t:=.plan) hx;obtain⟨i1,i2⟩:=ih m (by omega) x (hk x (by rw[hx];simp));simp only[Hay,Q4,Gay,Tr.val,Tr.ob,ga,hlss,hrd,Pc,i2,Bool.not_true,Ia (l:=l) (by omega)];exact⟨by simp[hin,i1],rfl⟩
   .have hend:cmp .lss (p.Kids.length:Int) (ba .plan p.Kids)=false:=Ma (t:=.plan);simp only[Hay,Q4,Gay,Tr.val,Tr.ob,ga,hend];exact⟨by simp,rfl⟩
  have a2:EaA (ek m).1 (ek m).2 p.Kind p.Num p.Kids p.Kind p.Num p.Kids=.x ():=k.v;have b2:FaA (ek m).1 (ek m).2 p.Kind p.Num p.Kids p.Kind p.Num p.Kids:=k.t;have hc:cond (cond (cmp .neq p.Kind p.Kind) true (cmp .neq p.Num p.Num)) true (cmp .neq (ba .plan p.Kids) (ba .plan p.Kids))=false:=by simp[Rd]
  simp only[ek,jaz,iaz,haz,gaz,HaA,GaA,faz,eaz,lpS,Tr.val,Tr.ob,hc,a2,ocR];exact⟨by simp[b2],trivial⟩
theorem laC{p:Plan}(h:smM 4 p=true):Yaz p p/\Xaz p p=true:=kaC 4 Pb (by decide) p h
end Go.Proofs.YtiiidenbemkihaaGreat

namespace Go.Proofs.YtiiidenbemkihaaGreat
open Go Tg
theorem LaE{s:Sess}(hs:Sm s){f:List Time}(hf:f.length<=1000):yaD s f/\xaD s f=onV s f:=by
 have h1:=hs.ins;have h2:=hs.each;have h3:=hs.front;have h4:=hs.told;obtain⟨o1,o2⟩:=kay hs;obtain⟨q1,q2⟩:=raj f (by omega);obtain⟨g1,g2⟩:=faj s.Plan s.Ins (by omega) (λa ha=>by have:=h2 a ha;omega);simp only[yaD,xaD,NaD,MaD,waD,qaD,aaE,ZaD,paD,oaD,vaD,eaE,daE,uaD,taD,lpS,Tr.val,Tr.ob,ga,Pc,o2,q2,g2,onV,NV];cases hok:pd s with
 |false=>exact⟨by simp[o1],rfl⟩
 |true=>
  obtain⟨x,hx⟩:=LV.1 hok;cases hfo:Wd f with
  |false=>exact⟨by simp[o1,q1],rfl⟩
  |true=>
   have k2:ja (λj:Int=>da (aaD f s.Plan.Kind s.Plan.Num s.Plan.Kids s.Ins s.Front s.Told (ba .time f) j)) (λj=>daD f s.Plan.Kind s.Plan.Num s.Plan.Kids s.Ins s.Front s.Told (ba .time f) j) 0 (if ub (λ_ t=>!Ib s.Front t) none f=true then .x () else .r (gv,([],(false,())))):=by
    refine ja.scan f _ (λl t r ht=>?_) ?_
    .obtain⟨hlen,hrd,hin,hlss⟩:=Oa (t:=.time) ht;obtain⟨y1,y2⟩:=Eaw s.Front t (by omega);simp only[daD,aaD,caD,Tr.val,Tr.ob,ga,hlss,hrd,y2,Ia (l:=l) (by omega)];refine⟨by simp[hin,y1],?_⟩;cases Ib s.Front t<;>rfl
    .have hend:cmp .lss (f.length:Int) (ba .time f)=false:=Ma (t:=.time);simp only[daD,aaD,caD,Tr.val,Tr.ob,ga,hend];exact⟨by simp,rfl⟩
   rw[rg]at k2;have a2:XaD f s.Plan.Kind s.Plan.Num s.Plan.Kids s.Ins s.Front s.Told (ba .time f)=_:=k2.v;have d2:YaD f s.Plan.Kind s.Plan.Num s.Plan.Kids s.Ins s.Front s.Told (ba .time f):=k2.t;have hfl:=cp hx.flow;have hxl:=hfl.short;obtain⟨c1,c2⟩:=nay hs hfl.ok;obtain⟨t1,t2⟩:=Naw (f:=f) (by omega);obtain⟨l1,l2⟩:=Faw x f (by omega) (by omega);have hal:=fv f x
   have k4:∀w:LR,ja (λq:LR×Int=>da (baD s.Plan.Kind s.Plan.Num s.Plan.Kids s.Ins s.Front s.Told s.Plan.Kind s.Plan.Num s.Plan.Kids s.Ins f (Za f x) (ba .row (Za f x)) q.1 q.2)) (λq=>faD s.Plan.Kind s.Plan.Num s.Plan.Kids s.Ins s.Front s.Told s.Plan.Kind s.Plan.Num s.Plan.Kids s.Ins f (Za f x) (ba .row (Za f x)) q.1 q.2) ([],0) (.x ((Za f x).filter λz=>Ib s.Front z.At)):=by
    intro _;refine ja.fold (Za f x) (λi b=>(b,(i:Int))) (λl=>l.filter λz=>Ib s.Front z.At) rfl (λl z r hz=>?_) ?_
    .obtain⟨hlen,hrd,hin,hlss⟩:=Oa (t:=.row) hz;obtain⟨b1,b2⟩:=Eaw s.Front z.At (by omega);have hlim:∀w,lim (ba .row (l.filter λz=>Ib s.Front z.At)) (ba .row [w]):=λw=>Ab (t:=.row) (show(l.filter λz=>Ib s.Front z.At).length<1099511627776 by have:(l.filter λz=>Ib s.Front z.At).length<=l.length:=List.length_filter_le _ _;omega)
     have hnext:(l++[z]).filter (λz=>Ib s.Front z.At)=if Ib s.Front z.At=true then(l.filter λz=>Ib s.Front z.At)++[z] else l.filter λz=>Ib s.Front z.At:=by
      rw[List.filter_append];cases h:Ib s.Front z.At<;>simp[h]
     have e:KaD s.Plan.Kind s.Plan.Num s.Plan.Kids s.Ins s.Front s.Told s.Plan.Kind s.Plan.Num s.Plan.Kids s.Ins f (Za f x) (l.filter λz=>Ib s.Front z.At) (ba .row (Za f x)) l.length/\JaD s.Plan.Kind s.Plan.Num s.Plan.Kids s.Ins s.Front s.Told s.Plan.Kind s.Plan.Num s.Plan.Kids s.Ins f (Za f x) (l.filter λz=>Ib s.Front z.At) (ba .row (Za f x)) l.length=.n ((l++[z]).filter λz=>Ib s.Front z.At):=by
      simp only[KaD,JaD,raD,Tr.val,Tr.ob,ga,hrd,b2];refine⟨by simp[hin,b1,hlim],?_⟩;rw[hnext];cases Ib s.Front z.At<;>rfl
     obtain⟨e1,e2⟩:=e;simp only[faD,baD,eaD,saD,Tr.val,Tr.ob,hlss,e2,Ia (l:=l) (by omega)];exact⟨by simp[e1],rfl⟩
    .have hend:cmp .lss ((Za f x).length:Int) (ba .row (Za f x))=false:=Ma (t:=.row);simp only[faD,baD,eaD,Tr.val,Tr.ob,hend];exact⟨by simp,rfl⟩
   have a4:baE s.Plan.Kind s.Plan.Num s.Plan.Kids s.Ins s.Front s.Told s.Plan.Kind s.Plan.Num s.Plan.Kids s.Ins f (Za f x) (ba .row (Za f x))=_:=(k4 []).v;have d4:caE s.Plan.Kind s.Plan.Num s.Plan.Kids s.Ins s.Front s.Told s.Plan.Kind s.Plan.Num s.Plan.Kids s.Ins f (Za f x) (ba .row (Za f x)):=(k4 []).t;simp only[a2,hx.flow,yc,c2,t2,l2,a4];cases hall:(f.all λt=>Ib s.Front t) with
   |false=>exact⟨by simp[o1,q1,d2],rfl⟩
   |true=>
    refine⟨by simp[o1,q1,d2,g1,c1,t1,l1,d4],?_⟩;simp[ocR,onS,QV,hx.all]
end Go.Proofs.YtiiidenbemkihaaGreat

namespace Go.Proofs.YtiiidenbemkihaaGreat
open Go Tg
theorem MaE{c:List Int}(hc:∀x∈c,0<=x/\x<=255):naD c/\∃s f,maD c=(s,f,())/\Sm s/\f.length<=64:=by
 obtain⟨o1,b,o2,hb⟩:=eay hc;obtain⟨s1,s2,s3,s4⟩:=oay hb;generalize hv:Zs (b,0)=sv at s2 s3 s4;obtain⟨s,q⟩:=sv;simp only[]at s2 s3 s4;obtain⟨l1,_,_,l4⟩:=aax hb (p:=q) (by omega) s4.front;simp only[naD,maD,GaD,FaD,laD,kaD,WaD,VaD,jaD,Tr.val,Tr.ob,ga,o2,hv,Vae,ocR];exact⟨by simp[o1,s1,l1],s,_,rfl,s4,l4⟩
end Go.Proofs.YtiiidenbemkihaaGreat

namespace Go.Proofs.YtiiidenbemkihaaGreat
open Go Tg
theorem oaC{x y:Time}(h1:x.A=y.A)(h2:x.B=y.B):x=y:=by
 obtain⟨a,b⟩:=x;obtain⟨c,d⟩:=y;simp only at h1 h2;subst h1;subst h2;rfl
theorem caB(x y:Time):(cmp .eql x.A y.A&&(cmp .eql x.B y.B&&true))=true↔x=y:=by
 rw[Bb,Bb];simp only[Bool.and_eq_true,decide_eq_true_eq,and_true];constructor
 .rintro⟨h1,h2⟩;exact oaC h1 h2
 .rintro rfl;exact⟨rfl,rfl⟩
theorem paC(a b:List Time)(hl:a.length<1000000000):DP a b/\(DA a b=true↔a=b):=by
 by_cases hlen:a.length=b.length
 .obtain⟨q,h1,h2⟩:=ja.two (step:=λs:Int=>da (zay a b s)) (ob:=λs=>Nay a b s) hlen (no:=.r false) (yes:=.x ())
   (λi x y hx hy=>by
     obtain⟨u1,u2⟩:=XI (t:=.time) hx;obtain⟨v1,v2⟩:=XI (t:=.time) hy;have hlt:=(List.getElem?_eq_some_iff.1 hx).1;have hlss:cmp .lss (i:Int) (ba .time a)=true:=by rw[bc];unfold ba;simp;omega
     have hs:ar .add .i64 (i:Int) 1=((i+1:Nat):Int):=by rw[cc (by omega)];omega
     simp only[Nay,zay,May,Tr.val,Tr.ob,ga,hlss,u1,v1,hs];refine⟨by simp[u2,v2],?_⟩;by_cases he:x=y
     .rw[(caB x y).2 he];exact .inl ⟨he,rfl⟩
     .rw[show(cmp .eql x.A y.A&&(cmp .eql x.B y.B&&true))=false by rw[<-Bool.not_eq_true,caB];exact he];exact .inr ⟨he,rfl⟩)
   (by
     have hend:cmp .lss (a.length:Int) (ba .time a)=false:=Ma (t:=.time);simp only[Nay,zay,May,Tr.val,Tr.ob,ga,hend];exact⟨by simp,rfl⟩)
  have b2:NaA a b:=h1.t
  have hn:cmp .neq (ba .time a) (ba .time b)=false:=by
   show cmp .neq (a.length:Int) (b.length:Int)=false;rw[Rd,hlen];simp
  rcases h2 with⟨rfl,h2⟩|⟨rfl,h2⟩
  .have a2:gaA a b=.x ():=h1.v;simp only[DP,DA,Ray,Qay,iaA,haA,hn,a2,ocR,Bay,Aay,Pay,Oay,lpS,Tr.val,Tr.ob];exact⟨by simp[b2],λ_=>h2,λ_=>trivial⟩
  .have a2:gaA a b=.r false:=h1.v;simp only[DP,DA,Ray,Qay,iaA,haA,hn,a2,ocR,Bay,Aay,Pay,Oay,lpS,Tr.val,Tr.ob];exact⟨by simp[b2],(λh=>by cases h),λh=>absurd h h2⟩
 .have hn:cmp .neq (ba .time a) (ba .time b)=true:=by
   show cmp .neq (a.length:Int) (b.length:Int)=true;rw[Rd];simp;omega
  simp only[DP,DA,Ray,Qay,hn,ocR,Bay,Aay,Tr.val,Tr.ob];exact⟨by simp,(λh=>by cases h),λh=>absurd (by rw[h]) hlen⟩
theorem qaC{f:List Time}(hl:f.length<=1000):DP f f/\DA f f=true:=by
 obtain⟨h1,h2⟩:=paC f f (by omega);exact⟨h1,h2.2 rfl⟩
theorem raC(xs:List (List Row))(h:∀x∈xs,x.length<=1000)(hl:xs.length<=1000):qaz xs xs/\paz xs xs=true:=by
 have k:ja (λs:Int=>da (yay xs xs s)) (λs=>Kay xs xs s) 0 (.x ()):=by
  refine ja.fold xs (λi (_:Unit)=>(i:Int)) (λ_=>()) rfl (λl x r hx=>?_) ?_
  .obtain⟨hlen2,hrd,hin,hlss⟩:=Oa (t:=.lrow) hx;obtain⟨r1,r2⟩:=pay (a:=x) (h x (by rw[hx];simp));simp only[Kay,yay,Jay,Tr.val,Tr.ob,ga,hlss,hrd,r2,Bool.not_true,Ia (l:=l) (by omega)];exact⟨by simp[hin,r1],rfl⟩
  .have hend:cmp .lss (xs.length:Int) (ba .lrow xs)=false:=Ma (t:=.lrow);simp only[Kay,yay,Jay,Tr.val,Tr.ob,ga,hend];exact⟨by simp,rfl⟩
 have a2:JaA xs xs=.x ():=k.v;have b2:KaA xs xs:=k.t;have hc:cmp .neq (ba .lrow xs) (ba .lrow xs)=false:=by simp[Rd]
 simp only[qaz,paz,caA,baA,oaz,naz,MaA,LaA,maz,laz,lpS,Tr.val,Tr.ob,hc,a2,ocR];exact⟨by simp[b2],trivial⟩
theorem daB{s:Sess}(hs:Sm s)(hp:smM 4 s.Plan=true):Q1 s s/\Q0 s s=true:=by
 obtain⟨a1,a2⟩:=laC hp;obtain⟨b1,b2⟩:=raC s.Ins hs.each hs.ins;obtain⟨c1,c2⟩:=qaC hs.front;obtain⟨d1,d2⟩:=pay hs.told;simp only[Q1,Q0,laA,kaA,saz,Tr.val,Tr.ob,ga,Pc,a2,b2,c2,d2,cond_true,ocR];exact⟨by simp[a1,b1,c1,d1],trivial⟩
theorem saC:Sm gv:=⟨Nat.zero_le _,λ_a ha=>(nomatch ha),Nat.zero_le _,Nat.zero_le _⟩
theorem eaB:Q1 gv gv/\Q0 gv gv=true:=daB saC rfl
theorem taC{s:Sess}(h:pd s=true):smM 4 s.Plan=true:=by
 obtain⟨x,hx⟩:=LV.1 h;exact baB (cp hx.flow).ok
end Go.Proofs.YtiiidenbemkihaaGreat

namespace Go.Proofs.YtiiidenbemkihaaGreat
open Go Tg
theorem NaE{s:Sess}{f:List Time}(h:NV s f=true):∃x,On s f x:=by
 unfold NV at h;simp only[Bool.and_eq_true]at h;obtain⟨x,hx⟩:=LV.1 h.1;exact⟨x,hx,cp hx.flow,h.2.1,h.2.2,hx.told,by unfold onS;rw[hx.all],by unfold QV;rw[hx.all]⟩
theorem PaE{s:Sess}(hs:Sm s){f:List Time}(hf:f.length<=1000):Sm (onS s f):=⟨hs.ins,hs.each,hf,by have:=fv f (wn s);have:=fax s;show(Za f (wn s)).length<=1000;omega⟩
theorem QaE(s:Sess)(f:List Time):(QV s f).length<=400:=by
 have h1:=fv f (wn s);have h2:=fax s;have h3:(QV s f).length<=(Za f (wn s)).length:=List.length_filter_le _ _;omega
theorem iaE:PI [] []/\MI [] []=true:=pay (Nat.zero_le _)
theorem zaH:∀ {f:List Time}{y:Option Time},ub Of y f=true->f.Pairwise (λs t=>s.A<t.A/\t.B<s.B)/\∀z,y=some z->∀x∈f,z.A<x.A/\x.B<z.B
 |[],y,_=>⟨.nil,λz _ x hx=>nomatch hx⟩
 |x::r,y,h=>by
  simp only[ub,Of,Bool.and_eq_true,Bool.not_eq_true',Bool.or_eq_false_iff]at h;obtain⟨i1,i2⟩:=zaH h.2
  have h0:∀z,y=some z->z.A<x.A/\x.B<z.B:=λz hz=>by
   have:=h.1.2;rw[hz]at this;simp only[Bool.or_eq_false_iff,decide_eq_false_iff_not]at this;omega
  refine⟨List.pairwise_cons.2 ⟨λt ht=>i2 x rfl t ht,i1⟩,λz hz t ht=>?_⟩;rcases List.mem_cons.1 ht with rfl|ht
  .exact h0 z hz
  .have:=h0 z hz;have:=i2 x rfl t ht;omega
theorem HaH{f:List Time}(h:Wd f=true){s t:Time}(hs:s∈f)(ht:t∈f)(hst:Vc s t=true):s=t:=by
 have hp:=(zaH h).1
 have key:∀ {l:List Time},l.Pairwise (λs t=>s.A<t.A/\t.B<s.B)->s∈l->t∈l->s=t:=by
  intro l hp hs ht
  induction hp with
  |nil=>cases hs
  |cons hr hp ih=>
   simp only[Vc,Bool.and_eq_true,decide_eq_true_eq]at hst;rcases List.mem_cons.1 hs with e1|hs1
   .rcases List.mem_cons.1 ht with e2|ht1
    .rw[e1,e2]
    .subst e1;have:=hr t ht1;omega
   .rcases List.mem_cons.1 ht with e2|ht1
    .subst e2;have:=hr s hs1;omega
    .exact ih hs1 ht1
 exact key hp hs ht
theorem CaH{f g:List Time}(hf:Wd f=true)(h1:(f.all λt=>Ib g t)=true)(h2:(g.all λt=>Ib f t)=true):∀t∈f,t∈g:=by
 intro t ht;have c1:=List.all_eq_true.1 h1 t ht;unfold Ib at c1;rw[List.any_eq_true]at c1;obtain⟨u,hu,c1⟩:=c1;have c2:=List.all_eq_true.1 h2 u hu;unfold Ib at c2;rw[List.any_eq_true]at c2;obtain⟨v,hv,c2⟩:=c2;have e:=HaH hf hv ht (Raw c2 c1);subst e
 have:u=v:=by
  simp only[Vc,Bool.and_eq_true,decide_eq_true_eq]at c1 c2;exact oaC (by omega) (by omega)
 rw[<-this];exact hu
theorem IaH(f:List Time):(f.all λt=>Ib f t)=true:=by
 refine List.all_eq_true.2 λt ht=>?_;unfold Ib;rw[List.any_eq_true];exact⟨t,ht,by simp[Vc]⟩
theorem JaH{f g:List Time}(hf:Wd f=true)(hg:Wd g=true)(h1:(f.all λt=>Ib g t)=true)(h2:(g.all λt=>Ib f t)=true):f=g:=NL (lt:=λs t:Time=>s.A<t.A/\t.B<s.B) (λx h=>by omega) (λh h'=>by omega) (zaH hf).1 (zaH hg).1 λx=>⟨CaH hf h1 h2 x,CaH hg h2 h1 x⟩
theorem KaH(c:List Int)(hc:∀x∈c,0<=x/\x<=255):yaH c/\xaH c=true:=by
 by_cases hbig:cmp .gtr (ba .byte c) 1048576=true
 .simp only[yaH,xaH,waH,vaH,hbig,ocR,uaH,Tr.val,Tr.ob,ga];exact⟨by simp,trivial⟩
 .have hbig:cmp .gtr (ba .byte c) 1048576=false:=by simpa using hbig
  obtain⟨d1,s,f,d2,hs,hf⟩:=MaE hc;obtain⟨e1,e2⟩:=Xaw hs (f:=f) (by omega);obtain⟨f1,f2⟩:=LaE hs (f:=f) (by omega);simp only[yaH,xaH,waH,vaH,uaH,Tr.val,Tr.ob,ga,hbig,d2,Vae,e2,f2,onV];cases h:NV s f with
  |false=>simp[d1,e1,f1,eaB.1,eaB.2,iaE.1,iaE.2,ocR]
  |true=>
   obtain⟨x,hx⟩:=NaE h;have hsm:=PaE hs (f:=f) (by omega);obtain⟨g1,g2⟩:=daB hsm (taC hx.sess);obtain⟨r1,r2⟩:=pay (a:=QV s f) (by have:=QaE s f;omega);obtain⟨b1,b2⟩:=LaE hsm (f:=s.Front) hs.front;obtain⟨t1,t2⟩:=paC s.Front f (by have:=hs.front;omega)
   have hback:NV (onS s f) s.Front=s.Front.all λt=>Ib f t:=by
    unfold NV;rw[hx.sess,hx.ok.front];rfl
   have hfin:(s.Front.all λt=>Ib f t)=cond (cmp .eql (ba .time s.Front) 0) true (DA s.Front f):=by
    cases hF:s.Front with
    |nil=>rfl
    |cons u l=>
     rw[<-hF]
     have he:cmp .eql (ba .time s.Front) 0=false:=by
      rw[Bb,hF];unfold ba;simp;omega
     rw[he,cond_false,Bool.eq_iff_iff,t2];exact⟨λhh=>JaH hx.ok.front hx.front hh hx.all,λhh=>by rw[hh];exact IaH f⟩
   have hv:(xaD (onS s f) s.Front).2.2.1=s.Front.all λt=>Ib f t:=by
    rw[b2,onV,hback];cases (s.Front.all λt=>Ib f t)<;>rfl
   simp only[cond_true,g2,r2,hv,<-hfin,ocR];simp[d1,e1,f1,g1,r1,b1,t1]
end Go.Proofs.YtiiidenbemkihaaGreat

namespace Go.Proofs.YtiiidenbemkihaaGreat
open Go
theorem GaE:Con Tryz.prog 21 HaD:=naE (.cons fay (.cons gay (.cons Eav (.nil na oa))))
theorem HaE:Con Tryz.prog 23 OaD:=xaE (.cons hay (.cons baw (.cons zaw (.cons yaw (.cons iay (.cons Daw (.cons Aaw (.nil na oa))))))))
theorem aaB:∀n,Con Tryz.prog 73 (caz (ek n).1 (ek n).2)
 |0=>Mi (fn:=Tryz.f73) (c:=Od Tryz.f73) (by kernel_rfl) (by kernel_rfl) (by kernel_rfl) λ_ h=>h
 |n+1=>paB (.cons (aaB n) (.nil na oa))
theorem caC:Con Tryz.prog 73 IaA:=(aaB Pb)
theorem daC:Con Tryz.prog 74 daA:=vaB (.cons jay (.nil na oa))
theorem eaC:Con Tryz.prog 32 jaA:=BaB (.nil na oa)
theorem faC:Con Tryz.prog 31 maA:=GaB (.cons caC (.cons daC (.cons eaC (.cons jay (.nil na oa)))))
theorem GaH:Con Tryz.prog 6 BaH:=FaH (.cons GaE (.cons Vav (.cons HaE (.cons faC (.cons jay (.cons eaC (.nil na oa)))))))
end Go.Proofs.YtiiidenbemkihaaGreat
