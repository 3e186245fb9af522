/-
  How the abstract state follows the machine's: what a new value, or more memory, leaves as it was. Each operation's run, as the abstract evaluator tells it: those that make no memory. Each operation's run, as the abstract evaluator tells it: addresses, loads, indices. Each operation's run, as the abstract evaluator tells it: indices, slices, lengths, conversions. Each operation's run, as the abstract evaluator tells it: those that make memory. Each operation's run, as the abstract evaluator tells it: all but the calls, in one theorem. Contracts of functions, and a call by a contract. One operation, whichever it is, as the machine runs it. One operation of the simple kind moves the abstract state as the evaluator tells it. One operation of the simple kind, guards and all. Rights that go from slot to slot. 'append': in place, or into a new block. No statement is proved here.
-/
import Derived.Test.YtiiidenbemkihaaGreatB3
import Derived.Laws.IdiomCopy
import Derived.Laws.AppendOwn
import Derived.Laws.MakeOwn
import Derived.Laws.StructEq
import Derived.Laws.Slices
import Derived.Tactics
import Derived.Test.YtiiidenbemkihaaGreatProg
import Derived.Shelf.SlSortFuncK.WholeK
import Derived.Shelf.GgSortFunc.Tiny
import Derived.Tactics2
import Derived.IntWalk

namespace Go.Proofs.YtiiidenbemkihaaGreat
open Go
section
variable {F F':Fz}{w w':World} (hg:Ta F w F' w') (hl:Live F w)
include hg hl
end
end Go.Proofs.YtiiidenbemkihaaGreat

namespace Go.Proofs.YtiiidenbemkihaaGreat
open Go
section
variable {P:Program}{F:Fz}{B:Nat}{w:World}{a:Act}{ge g:Get}{ow:Nat->Option Nat->Option Nat}
end
end Go.Proofs.YtiiidenbemkihaaGreat

namespace Go.Proofs.YtiiidenbemkihaaGreat
open Go
section
variable {P:Program}{w:World}
variable {F:Fz}{B:Nat}{a:Act}{ge g:Get}{ow:Nat->Option Nat->Option Nat}
end
end Go.Proofs.YtiiidenbemkihaaGreat

namespace Go.Proofs.YtiiidenbemkihaaGreat
open Go
section
variable {P:Program}{tt:TT} (htt:Xb P tt)
include htt
end
section
variable {P:Program}{w:World}{F:Fz}{B:Nat}
variable {a:Act}{ge g:Get}{ow:Nat->Option Nat->Option Nat}
end
end Go.Proofs.YtiiidenbemkihaaGreat

namespace Go.Proofs.YtiiidenbemkihaaGreat
open Go
section
variable {P:Program}{w:World}{F:Fz}{B:Nat}
variable {a:Act}{ge g:Get}{ow:Nat->Option Nat->Option Nat}
end
end Go.Proofs.YtiiidenbemkihaaGreat

namespace Go.Proofs.YtiiidenbemkihaaGreat
open Go
section
variable {P:Program}{w:World}{F:Fz}{B:Nat}{a:Act}{ge raw:Get}{ow:Nat->Option Nat->Option Nat}
end
end Go.Proofs.YtiiidenbemkihaaGreat

namespace Go.Proofs.YtiiidenbemkihaaGreat
open Go
section
variable {P:Program}{w:World}{F:Fz}{B:Nat}{a:Act}{ge g:Get}{ow:Nat->Option Nat->Option Nat}
end
end Go.Proofs.YtiiidenbemkihaaGreat

namespace Go.Proofs.YtiiidenbemkihaaGreat
open Go
section
variable {P:Program}{w:World}{F:Fz}{B:Nat}{a:Act}{ge raw:Get}{ow:Nat->Option Nat->Option Nat}
end
end Go.Proofs.YtiiidenbemkihaaGreat

namespace Go.Proofs.YtiiidenbemkihaaGreat
open Go
section
variable {w w1:World}{F:Fz}{B:Nat}{b:Nat} (hp:Pk w b w1) (hF:Le F w w1)
include hp hF
end
end Go.Proofs.YtiiidenbemkihaaGreat

namespace Go.Proofs.YtiiidenbemkihaaGreat
open Go
section
variable {P:Program}{tt:TT} (htt:Xb P tt) {sp:SP} (hsp:∀f s,spk sp f=some s->Con P f s)
include htt hsp
end
end Go.Proofs.YtiiidenbemkihaaGreat

namespace Go.Proofs.YtiiidenbemkihaaGreat
open Go
section
variable {B:Nat}{IoB:List Nat}{F0 F:Fz}{e:Env}{tm:Nat->Value}{w:World}{ow:Nat->Option Nat->Option Nat}
end
section
variable {P:Program}
end
end Go.Proofs.YtiiidenbemkihaaGreat

namespace Go.Proofs.YtiiidenbemkihaaGreat
open Go
section
variable {B:Nat}{IoB:List Nat}{F0 F:Fz}{e:Env}{tm:Nat->Value}{w:World}{ow:Nat->Option Nat->Option Nat}
end
section
variable {P:Program}{B:Nat}{IoB:List Nat}{F0 F:Fz}{e:Env}{tm:Nat->Value}{w:World}{ow:Nat->Option Nat->Option Nat}
end
end Go.Proofs.YtiiidenbemkihaaGreat

namespace Go.Proofs.YtiiidenbemkihaaGreat
open Go
section
variable {B:Nat}{IoB:List Nat}{F0 F:Fz}{e:Env}{tm:Nat->Value}{w:World}{ow:Nat->Option Nat->Option Nat}
end
section
variable {P:Program}{B:Nat}{IoB:List Nat}{F0 F:Fz}{e:Env}{w:World}{ow:Nat->Option Nat->Option Nat}{a:Act}
end
end Go.Proofs.YtiiidenbemkihaaGreat

namespace Go.Proofs.YtiiidenbemkihaaGreat
open Go
section
variable {P:Program}
variable {B:Nat}{IoB:List Nat}{F0 F:Fz}{e:Env}{w:World}{ow:Nat->Option Nat->Option Nat}{a:Act}
end
end Go.Proofs.YtiiidenbemkihaaGreat

namespace Go.Proofs.YtiiidenbemkihaaGreat
open Go
section
variable {P:Program}{tt:TT}{B:Nat}{IoB:List Nat}{F0 F:Fz}{e:Env}{w:World}{ow:Nat->Option Nat->Option Nat}{a:Act}
variable {sp:SP}
end
end Go.Proofs.YtiiidenbemkihaaGreat

namespace Go.Proofs.YtiiidenbemkihaaGreat
open Go
section
variable {E:Nat->Env}{W:Nat->List Nat}{L:Nat->Bool}
end
end Go.Proofs.YtiiidenbemkihaaGreat

namespace Go.Proofs.YtiiidenbemkihaaGreat
open Go
section
variable {P:Program}{tt:TT}{sp:SP}{B:Nat}{IoB:List Nat}{F0:Fz}{N:NP}{W0:World}
end
end Go.Proofs.YtiiidenbemkihaaGreat

namespace Go.Proofs.YtiiidenbemkihaaGreat
open Go
section
variable {B:Nat}{IoB:List Nat}{F0 F:Fz}{e:Env}{tm:Nat->Value}{w:World}{ow:Nat->Option Nat->Option Nat}
end
section
variable {P:Program}{tt:TT}{sp:SP}{B:Nat}{IoB:List Nat}{F0:Fz}{N:NP}{W0:World}
end
end Go.Proofs.YtiiidenbemkihaaGreat

namespace Go.Proofs.YtiiidenbemkihaaGreat
open Go
section
variable {P:Program}{tt:TT}{sp:SP}{N:NP}{fr:Fr}{c:Code}{e:Env}{n r:Env->Prop}{x:Nat->Env->Prop}
end
open Classical in
section
variable {P:Program}{N:NP}{fr:Fr}{c:Code}{n r:Env->Prop}{x:Nat->Env->Prop}
end
end Go.Proofs.YtiiidenbemkihaaGreat

namespace Go.Proofs.YtiiidenbemkihaaGreat
open Go
section
variable {P:Program}{tt:TT}{N:NP}{fr:Fr}{c:Code}{e:Env}{n r:Env->Prop}{x:Nat->Env->Prop}
end
section
variable {P:Program}{N:NP}{fr:Fr}{c:Code}{e:Env}{n r:Env->Prop}{x:Nat->Env->Prop}
end
end Go.Proofs.YtiiidenbemkihaaGreat

namespace Go.Proofs.YtiiidenbemkihaaGreat
open Go
section
variable {P:Program}{tt:TT}{B:Nat}{IoB:List Nat}{F0 F:Fz}{e:Env}{w:World}{ow:Nat->Option Nat->Option Nat}{a:Act}
end
end Go.Proofs.YtiiidenbemkihaaGreat

namespace Go.Proofs.YtiiidenbemkihaaGreat
open Go
section
variable {P:Program}{tt:TT}{N:NP}{fr:Fr}{c:Code}{e:Env}{n r:Env->Prop}{x:Nat->Env->Prop}
end
end Go.Proofs.YtiiidenbemkihaaGreat

namespace Go.Proofs.YtiiidenbemkihaaGreat
open Go
section
variable {R A X Y Z:Type}
end
section
variable (tt:TT) (sp:SP) (N:NP) (F:Fnn) (kp:List (Nat×List Nat)) (tb:List (Nat×Nat)) (af:List (Nat×Bool×Nat)) {R:Type} (subs:Ki R)
end
section
variable {P:Program}{tt:TT}{sp:SP}{N:NP}{F:Fnn}{kp:List (Nat×List Nat)}{tb:List (Nat×Nat)}{af:List (Nat×Bool×Nat)}{R:Type}{subs:Ki R}{fr:Fr}{C:Code}{n:Env->Prop}{r:RV->Prop}{x:Nat->Env->Prop}
end
end Go.Proofs.YtiiidenbemkihaaGreat

namespace Go.Proofs.YtiiidenbemkihaaGreat
open Go
section
variable {P:Program}
end
end Go.Proofs.YtiiidenbemkihaaGreat

namespace Go.Proofs.YtiiidenbemkihaaGreat
open Go
section
variable {w w':World}{F:Fz}{r:Nat}{B:Nat} (hp:Pk w r w') {o0:Obj} (ho:w.heap[r]? = some o0) (hc:isC o0=false)
include hp ho hc
end
section
variable {P:Program}{N:NP}{B:Nat}{IoB:List Nat}{W0:World}{F0:Fz}{obs:List (Nat×Obj)}{e:Env}{a:Act}{w:World}
end
section
variable {P:Program}{ops:Array Oper}{Q:Exit->Act->World->Prop}
end
end Go.Proofs.YtiiidenbemkihaaGreat

namespace Go.Proofs.YtiiidenbemkihaaGreat
open Go
section
variable {P:Program}{K n:Nat}
variable {T E:Nat} (M:JK P T K E n) {w:World}{r:Nat}{m:MP} (hr:w.heap[r]? = some (xa m)) (hm:Gb n m) {ks:List Int} (hk:ks.length=n)
include M hr
include hm hk
omit hm hk in
end
section
variable {P:Program}{w:World}{r it:Nat}{m:MP} (hr:w.heap[r]? = some (xa m)) {S:List Nat} (hit:w.heap[it]? = some (Cb r m S))
include hr hit
end
end Go.Proofs.YtiiidenbemkihaaGreat

namespace Go.Proofs.YtiiidenbemkihaaGreat
open Go
section
variable {P:Program}
end
end Go.Proofs.YtiiidenbemkihaaGreat

namespace Go.Proofs.YtiiidenbemkihaaGreat
open Go
section
variable {P:Program}{a:Act}{w:World}{o:Oper}
end
end Go.Proofs.YtiiidenbemkihaaGreat

namespace Go.Proofs.YtiiidenbemkihaaGreat
open Go
section
variable {P:Program}{N:NP}{B:Nat}{IoB:List Nat}{W0:World}{F0:Fz}{obs:List (Nat×Obj)}{e:Env}{a:Act}{w:World}{Q:Exit->Act->World->Prop}
end
end Go.Proofs.YtiiidenbemkihaaGreat

namespace Go.Proofs.YtiiidenbemkihaaGreat
open Go
section
variable {P:Program}{tt:TT}{sp:SP}{B:Nat}{IoB:List Nat}{F0:Fz}{N:NP}{W0:World}
end
end Go.Proofs.YtiiidenbemkihaaGreat

namespace Go.Proofs.YtiiidenbemkihaaGreat
open Go
section
variable {P:Program}{N:NP}{B:Nat}{IoB:List Nat}{W0:World}{F0:Fz}{obs:List (Nat×Obj)}{e:Env}{a:Act}{w:World}
end
end Go.Proofs.YtiiidenbemkihaaGreat

namespace Go.Proofs.YtiiidenbemkihaaGreat
open Go
section
variable {P:Program}{tt:TT}{N:NP}{sp:SP}{fr:Fr}{C:Code}{F:Fnn}{R:Type}
end
section
variable {P:Program}{tt:TT}{sp:SP}
end
end Go.Proofs.YtiiidenbemkihaaGreat

namespace Go.Proofs.YtiiidenbemkihaaGreat
open Go
section
variable {N:NP}{B:Nat}{IoB:List Nat}{W0:World}{F0:Fz}{obs:List (Nat×Obj)}{e:Env}{a:Act}{w:World}
end
end Go.Proofs.YtiiidenbemkihaaGreat

namespace Go.Proofs.YtiiidenbemkihaaGreat
open Go
section
variable {F:Fz}{B:Nat}{w w1:World}{b:Nat}{o:Option Nat->Option Nat}
end
end Go.Proofs.YtiiidenbemkihaaGreat

namespace Go.Proofs.YtiiidenbemkihaaGreat
open Go
section
variable {P:Program}{tt:TT}{sp:SP}{a:Act}{w:World}
end
end Go.Proofs.YtiiidenbemkihaaGreat

namespace Go.Proofs.YtiiidenbemkihaaGreat
open Go
section
variable {P:Program}{tt:TT}{sp:SP}{B:Nat}{IoB:List Nat}{F0:Fz}{N:NP}{W0:World}
end
end Go.Proofs.YtiiidenbemkihaaGreat

namespace Go.Proofs.YtiiidenbemkihaaGreat
open Go Go.Shelf Go.RowKit Go.Lib Go.Sort
section
variable {P:Program}{α:Type} [Inhabited α] {enc:α->List Value}{k:Nat}{w w0 W:World}{blk off:Nat}{d dk X:Array α}
variable {g:Nat}{lb:Array Value}{lt:α->α->Bool}{size:Nat}
end
end Go.Proofs.YtiiidenbemkihaaGreat

namespace Go.Proofs.YtiiidenbemkihaaGreat
open Go Go.Shelf Go.RowKit Go.Lib Go.Sort
variable {P:Program}{ρ:Ren}{α:Type} [Inhabited α]
end Go.Proofs.YtiiidenbemkihaaGreat

namespace Go.Proofs.YtiiidenbemkihaaGreat
open Go Go.Shelf Go.RowKit Go.Lib Go.Sort
variable {P:Program}{ρ:Ren}{α:Type} [Inhabited α]
end Go.Proofs.YtiiidenbemkihaaGreat

namespace Go.Proofs.YtiiidenbemkihaaGreat
open Go Go.Shelf Go.RowKit Go.Lib Go.Sort
variable {P:Program}{ρ:Ren}{α:Type} [Inhabited α]
end Go.Proofs.YtiiidenbemkihaaGreat

namespace Go.Proofs.YtiiidenbemkihaaGreat
open Go Go.Shelf Go.RowKit Go.Lib Go.Sort
variable {P:Program}{ρ:Ren}{α:Type} [Inhabited α]
end Go.Proofs.YtiiidenbemkihaaGreat

namespace Go.Proofs.YtiiidenbemkihaaGreat
open Go Go.Shelf Go.RowKit Go.Lib Go.Sort
variable {P:Program}{ρ:Ren}{α:Type} [Inhabited α]
end Go.Proofs.YtiiidenbemkihaaGreat

namespace Go.Proofs.YtiiidenbemkihaaGreat
open Go Go.Shelf Go.RowKit Go.Lib Go.Sort
variable {P:Program}{ρ:Ren}{α:Type} [Inhabited α]
end Go.Proofs.YtiiidenbemkihaaGreat

namespace Go.Proofs.YtiiidenbemkihaaGreat
open Go Go.Shelf Go.RowKit Go.Lib Go.Sort
variable {P:Program}{ρ:Ren}{α:Type} [Inhabited α]
end Go.Proofs.YtiiidenbemkihaaGreat

namespace Go.Proofs.YtiiidenbemkihaaGreat
open Go
noncomputable section
set_option maxRecDepth 100000
def DaA:SP:=[(54,mS),(51,om),(52,VU)]
abbrev F19:Fnn:=⟨[.tmp 4],.one .fr .bool,none,[]⟩
abbrev faB:Bool->RV:=rvF F19
abbrev gaB:=@OkF Tryz.prog tt Tryz.f19 F19 Bool
def Zay(y:List Time)(x:Time):TN Bool:=.k (zE y) λz=>.w [BE y,(z&&true)=true->(nm x),((cond z (Xh x) false)&&true)=true->(XH y x)] (.l (.r (cond (cond z (Xh x) false) (WH y x) false)))
def Saz:=λx y=>(Zay x y).val
def Taz:=λx y=>(Zay x y).ob
def haB:=λy x=>fa.mk (Saz y x) (Taz y x) [] [(0,.S .time y),(1,.agg true [.i x.A,.i x.B])] faB nE nE nE nE
theorem iaB(G:Gd DaA){fr x y}:gaB fr (haB x y):=ma G [(0,[0,3]),(1,[4])] (Zay x y)
def aaz(x:List Time)(y:Time):Bool:=ocR (Saz x y)
def baz(x:List Time)(y:Time):Prop:=Taz x y
def Uaz:Spec:=⟨[(.lst .time),(.st .time)],.one .fr .bool,false,λx=>(aaz x.1 x.2.1,0),λx=>baz x.1 x.2.1⟩
theorem jaB(G:Gd DaA):Con Tryz.prog 19 Uaz:=va (pts:=[(.lst .time),(.st .time)]) (F:=F19) G λ_ _=>iaB G
def EaD:SP:=[(42,C1),(43,wab),(56,dO)]
abbrev F21:Fnn:=⟨[.cell 2 30,.tmp 3],.tup [(false,(.st .sess)),(false,(.lst .time))],none,[]⟩
abbrev TaD:Sess×(List Time)×Unit->RV:=rvF F21
abbrev UaD:=@OkF Tryz.prog tt Tryz.f21 F21 (Sess×(List Time)×Unit)
def jaD(x:LB)(y z a:Int)(b:LP)(c:List LR)(d:List Time)(f:LR):TA (Sess×(List Time)×Unit) ((List Time)):=.w [Qy (x,y) (Sess.mk (Plan.mk z a b) c d f)] (.l (.n (Yd (x,y) (Sess.mk (Plan.mk z a b) c d f)).1))
def VaD:=λx y z a b c d f=>(jaD x y z a b c d f).val
def WaD:=λx y z a b c d f=>(jaD x y z a b c d f).ob
def kaD:=λd f x y z a b c=>fa.mk (VaD d f x y z a b c) (WaD d f x y z a b c) [0,1,1,1] [(2,.box [(.fr,.i 0),(.fr,.i 0),(.fr,.nl .plan),(.fr,.nl .lrow),(.fr,.nl .time),(.fr,.nl .row)]),(4,.R d f),(5,.box [(.fr,.i x),(.fr,.i y),(.sh,.lst .plan z),(.sh,.lst .lrow a),(.sh,.lst .time b),(.sh,.lst .row c)])] TaD (λq=>[(2,.box [(.fr,.i x),(.fr,.i y),(.sh,.lst .plan z),(.sh,.lst .lrow a),(.sh,.lst .time b),(.sh,.lst .row c)]),(3,.A .time q)]) nE nE nE
theorem kaE(G:Gd EaD){fr x y z a b c d f}:UaD fr (kaD x y z a b c d f):=any_ok G [2,3] 8 (jaD x y z a b c d f) rfl rfl rfl (by kernel_rfl) (by kernel_rfl) (by kernel_rfl)
def laD(z:LB):TN (Sess×(List Time)×Unit):=.k (BM z) λy=>.w [CM z] (.k (Zs (y.1,y.2)) λx=>.w [eS (y.1,y.2)] (.s (kaD y.1 x.2 x.1.Plan.Kind x.1.Plan.Num x.1.Plan.Kids x.1.Ins x.1.Front x.1.Told) (λa=>.l (.r ((Sess.mk (Plan.mk x.1.Plan.Kind x.1.Plan.Num x.1.Plan.Kids) x.1.Ins x.1.Front x.1.Told),(a,())))) nE nE nE))
def FaD:=λx=>(laD x).val
def GaD:=λx=>(laD x).ob
def laE:=λx=>fa.mk (FaD x) (GaD x) [] [(0,.S .byte x)] TaD nE nE nE nE
theorem maE(G:Gd EaD){fr x}:UaD fr (laE x):=ia G [([0,1,1,1],λe=>⟨kaD (gL .byte e 4 0) (gI e 4 1) (gI e 5 0) (gI e 5 1) (gL .plan e 5 2) (gL .lrow e 5 3) (gL .time e 5 4) (gL .row e 5 5)⟩)] ⟨λ_=>⟨rfl,kaE G⟩,trivial⟩ [(0,[0,2]),(1,[2,4]),(2,[2,4,5])] (laD x)
def maD(x:LB):Sess×(List Time)×Unit:=ocR (FaD x)
def naD(x:LB):Prop:=GaD x
def HaD:Spec:=⟨[(.lst .byte)],.tup [(false,(.st .sess)),(false,(.lst .time))],false,λx=>(maD x.1,0),λx=>naD x.1⟩
theorem naE(G:Gd EaD):Con Tryz.prog 21 HaD:=va (pts:=[(.lst .byte)]) (F:=F21) G λ_ _=>maE G
def XaC:SP:=[(27,fae),(54,mS),(52,VU),(29,PU),(63,rae),(64,sV),(65,bV)]
abbrev F23:Fnn:=⟨[.cell 4 30,.tmp 5,.tmp 6],.tup [(false,(.st .sess)),(false,(.lst .row)),(true,.bool)],none,[]⟩
abbrev ZaC:Sess×LR×Bool×Unit->RV:=rvF F23
abbrev YaC:=@OkF Tryz.prog tt Tryz.f23 F23 (Sess×LR×Bool×Unit)
def caD(y:List Time)(_ _:Int)(_:LP)(_:List LR)(z:List Time)(_:LR)(a x:Int):TX (Sess×LR×Bool×Unit) Int Unit:=.c (cmp .lss x a) (.w [inb x (ba .time y)] (.w [XH z (rd .time y x)] (.c (!(WH z (rd .time y x))) (.l (.r ((Sess.mk (Plan.mk 0 0 []) [] [] []),([],(false,())))))
 (.l (.n (ar .add .i64 x 1))))))
 (.l (.x ()))
def aaD:=λx y z a b c d f g=>(caD x y z a b c d f g).val
def daD:=λx y z a b c d f g=>(caD x y z a b c d f g).ob
def IaD:=λx y z a b c d f g=>Ba (aaD x y z a b c d f g) (daD x y z a b c d f g) [0,0,1,0,1,1] (λq=>[(1,.S .time x),(2,.box [(.fr,.i y),(.fr,.i z),(.sh,.lst .plan a),(.sh,.lst .lrow b),(.sh,.lst .time c),(.sh,.lst .row d)]),(4,.box [(.fr,.i 0),(.fr,.i 0),(.fr,.nl .plan),(.fr,.nl .lrow),(.fr,.nl .time),(.fr,.nl .row)]),(24,.S .time x),(25,.I f),(26,.I q)]) g ZaC (λ_=>(0,[(1,.S .time x),(2,.box [(.fr,.i y),(.fr,.i z),(.sh,.lst .plan a),(.sh,.lst .lrow b),(.sh,.lst .time c),(.sh,.lst .row d)]),(4,.box [(.fr,.i 0),(.fr,.i 0),(.fr,.nl .plan),(.fr,.nl .lrow),(.fr,.nl .time),(.fr,.nl .row)])])) nE nE
theorem oaE(G:Gd XaC){fr x y z a b c d f g}:YaC fr (IaD x y z a b c d f g):=ma G [(4,[1,2,4,24,25,26,27]),(5,[1,2,4,8,24,25,26]),(6,[1,2,4,24,25,26,34]),(7,[4,5,6]),(8,[1,2,4,24,25,26])] (caD x y z a b c d f g)
def XaD:=λx y z a b c d f=>lpV (λs:Int=>da (aaD x y z a b c d f s)) 0
def YaD:=λx y z a b c d f=>LpT (λs:Int=>da (aaD x y z a b c d f s)) (λs=>daD x y z a b c d f s) 0
def oaD:=λx y z a b c d f=>lpS (IaD x y z a b c d f 0) (XaD x y z a b c d f) (YaD x y z a b c d f)
theorem paE(G:Gd XaC){fr x y z a b c d f}:YaC fr (oaD x y z a b c d f):=Ca (λs:Int=>IaD x y z a b c d f s) 0 λ_=>oaE G
def paD(x:List Time)(y z:Int)(a:LP)(b:List LR)(c:List Time)(d:LR):TA (Sess×LR×Bool×Unit) Unit:=.s (oaD x y z a b c d (ba .time x)) nE (λ_=>.l (.n ())) nE nE
def ZaD:=λx y z a b c d=>(paD x y z a b c d).val
def aaE:=λx y z a b c d=>(paD x y z a b c d).ob
def qaD:=λx y z a b c d=>fa.mk (ZaD x y z a b c d) (aaE x y z a b c d) [0,1,1] [(1,.S .time x),(2,.box [(.fr,.i y),(.fr,.i z),(.sh,.lst .plan a),(.sh,.lst .lrow b),(.sh,.lst .time c),(.sh,.lst .row d)]),(4,.box [(.fr,.i 0),(.fr,.i 0),(.fr,.nl .plan),(.fr,.nl .lrow),(.fr,.nl .time),(.fr,.nl .row)])] ZaC (λ_=>[(1,.S .time x),(2,.box [(.fr,.i y),(.fr,.i z),(.sh,.lst .plan a),(.sh,.lst .lrow b),(.sh,.lst .time c),(.sh,.lst .row d)]),(4,.box [(.fr,.i 0),(.fr,.i 0),(.fr,.nl .plan),(.fr,.nl .lrow),(.fr,.nl .time),(.fr,.nl .row)])]) nE nE nE
theorem qaE(G:Gd XaC){fr x y z a b c d}:YaC fr (qaD x y z a b c d):=ia G [([0,1,0,1,1],λe=>⟨oaD (gL .time e 1 0) (gI e 2 0) (gI e 2 1) (gL .plan e 2 2) (gL .lrow e 2 3) (gL .time e 2 4) (gL .row e 2 5) (gI e 25 0)⟩)] ⟨λ_=>⟨rfl,paE G⟩,trivial⟩ [(3,[1,2,4,24,25,26])] (paD x y z a b c d)
def raD(_ _:Int)(_:LP)(_:List LR)(a:List Time)(_:LR)(_ _:Int)(_:LP)(_:List LR)(_:List Time)(x z:LR)(_ y:Int):TA (Sess×LR×Bool×Unit) LR:=.w [inb y (ba .row x)] (.w [XH a (rd .row x y).At] (.c (WH a (rd .row x y).At) (.w [lim (ba .row z) (ba .row [(rd .row x y)])] (.l (.n (z++[(rd .row x y)]))))
 (.l (.n z))))
def JaD:=λx y z a b c d f g h i j k l m=>(raD x y z a b c d f g h i j k l m).val
def KaD:=λx y z a b c d f g h i j k l m=>(raD x y z a b c d f g h i j k l m).ob
def saD:=λy z a b c d f g h i j x m k l=>fa.mk (JaD y z a b c d f g h i j x m k l) (KaD y z a b c d f g h i j x m k l) [0,1,1,0,0,1,0,1,1,1,1,1,1,1,1] [(2,.box [(.fr,.i y),(.fr,.i z),(.sh,.lst .plan a),(.sh,.lst .lrow b),(.sh,.lst .time c),(.sh,.lst .row d)]),(4,.box [(.fr,.i 0),(.fr,.i 0),(.fr,.nl .plan),(.fr,.nl .lrow),(.fr,.nl .time),(.fr,.nl .row)]),(11,.box [(.fr,.i f),(.fr,.i g),(.sh,.lst .plan h),(.sh,.lst .lrow i),((.acc false),.lst .time j),(.fr,.lst .row x)]),(12,.A .row m),(56,.v .fr (.lst .row x)),(57,.I k),(58,.I l)] ZaC (λq=>[(2,.box [(.fr,.i y),(.fr,.i z),(.sh,.lst .plan a),(.sh,.lst .lrow b),(.sh,.lst .time c),(.sh,.lst .row d)]),(4,.box [(.fr,.i 0),(.fr,.i 0),(.fr,.nl .plan),(.fr,.nl .lrow),(.fr,.nl .time),(.fr,.nl .row)]),(11,.box [(.fr,.i f),(.fr,.i g),(.sh,.lst .plan h),(.sh,.lst .lrow i),((.acc false),.lst .time j),(.fr,.lst .row x)]),(12,.A .row q),(56,.v .fr (.lst .row x)),(57,.I k),(58,.I l)]) nE nE nE
theorem raE(G:Gd XaC){fr x y z a b c d f g h i j k l m}:YaC fr (saD x y z a b c d f g h i j k l m):=ma G [(16,[2,4,11,12,14,56,57,58]),(17,[2,4,11,12,14,56,57,58,66]),(18,[2,4,11,12,56,57,58])] (raD x y z a b c d f g h i j k l m)
def eaD(a b:Int)(c:LP)(d:List LR)(f:List Time)(g:LR)(h i:Int)(j:LP)(k:List LR)(l:List Time)(m:LR)(y:Int)(z:LR)(x:Int):TX (Sess×LR×Bool×Unit) (LR×Int) LR:=.c (cmp .lss x y) (.s (saD a b c d f g h i j k l m z y x) (λn=>.l (.n (n,(ar .add .i64 x 1)))) nE nE nE)
 (.l (.x z))
def baD:=λx y z a b c d f g h i j k l m=>(eaD x y z a b c d f g h i j k l m).val
def faD:=λx y z a b c d f g h i j k l m=>(eaD x y z a b c d f g h i j k l m).ob
def LaD:=λd f g h i j y z a b c x k l m=>Ba (baD d f g h i j y z a b c x k l m) (faD d f g h i j y z a b c x k l m) [0,0,1,0,1,1,1,1,1,1,1,1] (λq=>[(2,.box [(.fr,.i d),(.fr,.i f),(.sh,.lst .plan g),(.sh,.lst .lrow h),(.sh,.lst .time i),(.sh,.lst .row j)]),(4,.box [(.fr,.i 0),(.fr,.i 0),(.fr,.nl .plan),(.fr,.nl .lrow),(.fr,.nl .time),(.fr,.nl .row)]),(11,.box [(.fr,.i y),(.fr,.i z),(.sh,.lst .plan a),(.sh,.lst .lrow b),((.acc false),.lst .time c),(.fr,.lst .row x)]),(12,.A .row q.1),(56,.v .fr (.lst .row x)),(57,.I k),(58,.I q.2)]) (l,m) ZaC (λq=>(2,[(4,.box [(.fr,.i 0),(.fr,.i 0),(.fr,.nl .plan),(.fr,.nl .lrow),(.fr,.nl .time),(.fr,.nl .row)]),(11,.box [(.fr,.i y),(.fr,.i z),(.sh,.lst .plan a),(.sh,.lst .lrow b),((.acc false),.lst .time c),(.fr,.lst .row x)]),(12,.A .row q)])) nE nE
theorem saE(G:Gd XaC){fr x y z a b c d f g h i j k l m}:YaC fr (LaD x y z a b c d f g h i j k l m):=ia G [([0,1,1,0,0,1,0,1,1,1,1,1,1,1,1],λe=>⟨saD (gI e 2 0) (gI e 2 1) (gL .plan e 2 2) (gL .lrow e 2 3) (gL .time e 2 4) (gL .row e 2 5) (gI e 11 0) (gI e 11 1) (gL .plan e 11 2) (gL .lrow e 11 3) (gL .time e 11 4) (gL .row e 11 5) (gL .row e 12 0) (gI e 57 0) (gI e 58 0)⟩)] ⟨λ_=>⟨rfl,raE G⟩,trivial⟩ [(15,[2,4,11,12,56,57,58,59]),(19,[2,4,11,12,56,57,58])] (eaD x y z a b c d f g h i j k l m)
def baE:=λx y z a b c d f g h i j k=>lpV (λs:LR×Int=>da (baD x y z a b c d f g h i j k s.1 s.2)) ([],0)
def caE:=λx y z a b c d f g h i j k=>LpT (λs:LR×Int=>da (baD x y z a b c d f g h i j k s.1 s.2)) (λs=>faD x y z a b c d f g h i j k s.1 s.2) ([],0)
def taD:=λx y z a b c d f g h i j k=>lpS (LaD x y z a b c d f g h i j k [] 0) (baE x y z a b c d f g h i j k) (caE x y z a b c d f g h i j k)
theorem taE(G:Gd XaC){fr x y z a b c d f g h i j k}:YaC fr (taD x y z a b c d f g h i j k):=Ca (λs:LR×Int=>LaD x y z a b c d f g h i j k s.1 s.2) ([],0) λ_=>saE G
def uaD(y z:Int)(a:LP)(b:List LR)(c:List Time)(d:LR)(f g:Int)(h:LP)(i:List LR)(j:List Time)(x:LR):TA (Sess×LR×Bool×Unit) LR:=.s (taD y z a b c d f g h i j x (ba .row x)) nE (λk=>.l (.n k)) nE nE
def daE:=λx y z a b c d f g h i j=>(uaD x y z a b c d f g h i j).val
def eaE:=λx y z a b c d f g h i j=>(uaD x y z a b c d f g h i j).ob
def vaD:=λd f g h i j x y z a b c=>fa.mk (daE d f g h i j x y z a b c) (eaE d f g h i j x y z a b c) [0,1,1,1,1,1,1,1,1] [(2,.box [(.fr,.i d),(.fr,.i f),(.sh,.lst .plan g),(.sh,.lst .lrow h),(.sh,.lst .time i),(.sh,.lst .row j)]),(4,.box [(.fr,.i 0),(.fr,.i 0),(.fr,.nl .plan),(.fr,.nl .lrow),(.fr,.nl .time),(.fr,.nl .row)]),(11,.box [(.fr,.i x),(.fr,.i y),(.sh,.lst .plan z),(.sh,.lst .lrow a),((.acc false),.lst .time b),(.fr,.lst .row c)]),(12,.A .row [])] ZaC (λq=>[(4,.box [(.fr,.i 0),(.fr,.i 0),(.fr,.nl .plan),(.fr,.nl .lrow),(.fr,.nl .time),(.fr,.nl .row)]),(11,.box [(.fr,.i x),(.fr,.i y),(.sh,.lst .plan z),(.sh,.lst .lrow a),((.acc false),.lst .time b),(.fr,.lst .row c)]),(12,.A .row q)]) nE nE nE
theorem uaE(G:Gd XaC){fr x y z a b c d f g h i j}:YaC fr (vaD x y z a b c d f g h i j):=ia G [([0,1,0,1,1,1,1,1,1,1,1],λe=>⟨taD (gI e 2 0) (gI e 2 1) (gL .plan e 2 2) (gL .lrow e 2 3) (gL .time e 2 4) (gL .row e 2 5) (gI e 11 0) (gI e 11 1) (gL .plan e 11 2) (gL .lrow e 11 3) (gL .time e 11 4) (gL .row e 11 5) (gI e 57 0)⟩)] ⟨λ_=>⟨rfl,taE G⟩,trivial⟩ [(14,[2,4,11,12,56,57,58])] (uaD x y z a b c d f g h i j)
def waD(x:Sess)(z:List Time):TN (Sess×LR×Bool×Unit):=.k (oI (Sess.mk (Plan.mk x.Plan.Kind x.Plan.Num x.Plan.Kids) x.Ins x.Front x.Told)) λa=>.w [pI (Sess.mk (Plan.mk x.Plan.Kind x.Plan.Num x.Plan.Kids) x.Ins x.Front x.Told),((!(!a))&&true)=true->(BE z)] (.c (cond (!a) true (!(zE z))) (.l (.r ((Sess.mk (Plan.mk 0 0 []) [] [] []),([],(false,())))))
 (.s (qaD z x.Plan.Kind x.Plan.Num x.Plan.Kids x.Ins x.Front x.Told) (λ_=>.k (MH (Plan.mk x.Plan.Kind x.Plan.Num x.Plan.Kids) x.Ins) λb=>.w [PH (Plan.mk x.Plan.Kind x.Plan.Num x.Plan.Kids) x.Ins] (.k (xV (Sess.mk (Plan.mk x.Plan.Kind x.Plan.Num x.Plan.Kids) x.Ins x.Front x.Told)) λy=>.w [yV (Sess.mk (Plan.mk x.Plan.Kind x.Plan.Num x.Plan.Kids) x.Ins x.Front x.Told)] (.k (zI z) λc=>.w [AI z] (.k (jI b.1 z) λd=>.w [lI b.1 z] (.s (vaD x.Plan.Kind x.Plan.Num x.Plan.Kids x.Ins x.Front x.Told y.Plan.Kind y.Plan.Num y.Plan.Kids y.Ins c d) (λf=>.l (.r ((Sess.mk (Plan.mk y.Plan.Kind y.Plan.Num y.Plan.Kids) y.Ins c d),(f,(true,()))))) nE nE nE))))) nE nE nE))
def MaD:=λx y=>(waD x y).val
def NaD:=λx y=>(waD x y).ob
def vaE:=λx y=>fa.mk (MaD x y) (NaD x y) [] [(0,.agg false [.i x.Plan.Kind,.i x.Plan.Num,.lst .plan x.Plan.Kids,.lst .lrow x.Ins,.lst .time x.Front,.lst .row x.Told]),(1,.S .time y)] ZaC nE nE nE nE
theorem waE(G:Gd XaC){fr x y}:YaC fr (vaE x y):=ia G [([0,1,1],λe=>⟨qaD (gL .time e 1 0) (gI e 2 0) (gI e 2 1) (gL .plan e 2 2) (gL .lrow e 2 3) (gL .time e 2 4) (gL .row e 2 5)⟩),([0,1,1,1,1,1,1,1,1],λe=>⟨vaD (gI e 2 0) (gI e 2 1) (gL .plan e 2 2) (gL .lrow e 2 3) (gL .time e 2 4) (gL .row e 2 5) (gI e 11 0) (gI e 11 1) (gL .plan e 11 2) (gL .lrow e 11 3) (gL .time e 11 4) (gL .row e 11 5)⟩)] ⟨λ_=>⟨rfl,qaE G⟩,λ_=>⟨rfl,uaE G⟩,trivial⟩ [(0,[1,2,4]),(1,[1,2,4,22]),(2,[4,5,6]),(9,[1,2,4,9]),(10,[1,2,4,9,11]),(11,[1,2,4,9,11]),(12,[2,4,11]),(13,[2,4,11,12]),(20,[4,5,6])] (waD x y)
def xaD(x:Sess)(y:List Time):Sess×LR×Bool×Unit:=ocR (MaD x y)
def yaD(x:Sess)(y:List Time):Prop:=NaD x y
def OaD:Spec:=⟨[(.st .sess),(.lst .time)],.tup [(false,(.st .sess)),(false,(.lst .row)),(true,.bool)],false,λx=>(xaD x.1 x.2.1,0),λx=>yaD x.1 x.2.1⟩
theorem xaE(G:Gd XaC):Con Tryz.prog 23 OaD:=va (pts:=[(.st .sess),(.lst .time)]) (F:=F23) G λ_ _=>waE G
def taF:SP:=[(21,HaD),(22,lR),(23,OaD),(24,wae),(19,Uaz),(25,mF)]
abbrev F4:Fnn:=⟨[.tmp 2],.one .fr .bool,none,[]⟩
abbrev rv4:Bool->RV:=rvF F4
abbrev Ok4:=@OkF Tryz.prog tt Tryz.f4 F4 Bool
def uaF(_ _:Int)(_:LP)(_:List LR)(a:List Time)(_:LR)(b:List Time)(y:LR)(x:Int):TX Bool Int Unit:=.c (cmp .lss x (ba .row y)) (.k (aaz a (rd .row y x).At) λz=>.w [inb x (ba .row y),baz a (rd .row y x).At,((!(!z))&&true)=true->inb x (ba .row y),((!(!z))&&true)=true->(baz b (rd .row y x).At)] (.c (cond (!z) true (aaz b (rd .row y x).At)) (.l (.r false))
 (.l (.n (ar .add .i64 x 1)))))
 (.l (.x ()))
def saF:=λx y z a b c d f g=>(uaF x y z a b c d f g).val
def vaF:=λx y z a b c d f g=>(uaF x y z a b c d f g).ob
def EaF:=λy z a b c d f x g=>Ba (saF y z a b c d f x g) (vaF y z a b c d f x g) [0,0,1,0,1,1,1,1,1,1] (λq=>[(3,.box [(.fr,.i y),(.fr,.i z),(.sh,.lst .plan a),(.sh,.lst .lrow b),(.sh,.lst .time c),(.sh,.lst .row d)]),(4,.S .time f),(9,.S .row x),(11,.I q)]) g rv4 (λ_=>(0,[(9,.S .row x)])) nE nE
theorem KaF(G:Gd taF){fr x y z a b c d f g}:Ok4 fr (EaF x y z a b c d f g):=ma G [(9,[3,4,9,11,58]),(10,[3,4,9,11]),(11,[3,4,9,11,78]),(12,[2])] (uaF x y z a b c d f g)
def FaF:=λx y z a b c d f=>lpV (λs:Int=>da (saF x y z a b c d f s)) 0
def GaF:=λx y z a b c d f=>LpT (λs:Int=>da (saF x y z a b c d f s)) (λs=>vaF x y z a b c d f s) 0
def xaF:=λx y z a b c d f=>lpS (EaF x y z a b c d f 0) (FaF x y z a b c d f) (GaF x y z a b c d f)
theorem LaF(G:Gd taF){fr x y z a b c d f}:Ok4 fr (xaF x y z a b c d f):=Ca (λs:Int=>EaF x y z a b c d f s) 0 λ_=>KaF G
def yaF(x y:Int)(z:LP)(a:List LR)(b:List Time)(c:LR)(d:List Time)(f:LR):TA Bool Unit:=.s (xaF x y z a b c d f) nE (λ_=>.l (.n ())) nE nE
def HaF:=λx y z a b c d f=>(yaF x y z a b c d f).val
def IaF:=λx y z a b c d f=>(yaF x y z a b c d f).ob
def zaF:=λy z a b c d f x=>fa.mk (HaF y z a b c d f x) (IaF y z a b c d f x) [0,1,1,1,1,1,1] [(3,.box [(.fr,.i y),(.fr,.i z),(.sh,.lst .plan a),(.sh,.lst .lrow b),(.sh,.lst .time c),(.sh,.lst .row d)]),(4,.S .time f),(9,.S .row x)] rv4 (λ_=>[(9,.S .row x)]) nE nE nE
theorem MaF(G:Gd taF){fr x y z a b c d f}:Ok4 fr (zaF x y z a b c d f):=ia G [([0,1,0,1,1,1,1,1,1],λe=>⟨xaF (gI e 3 0) (gI e 3 1) (gL .plan e 3 2) (gL .lrow e 3 3) (gL .time e 3 4) (gL .row e 3 5) (gL .time e 4 0) (gL .row e 9 0)⟩)] ⟨λ_=>⟨rfl,LaF G⟩,trivial⟩ [(8,[3,4,9,11])] (yaF x y z a b c d f)
def waF(a:LB):TN Bool:=.c (cmp .gtr (ba .byte a) 1048576) (.l (.r true))
 (.k (maD a) λx=>.w [naD a] (.k (wg (Sess.mk (Plan.mk x.1.Plan.Kind x.1.Plan.Num x.1.Plan.Kids) x.1.Ins x.1.Front x.1.Told) x.2.1) λz=>.w [lD (Sess.mk (Plan.mk x.1.Plan.Kind x.1.Plan.Num x.1.Plan.Kids) x.1.Ins x.1.Front x.1.Told) x.2.1] (.k (xaD (Sess.mk (Plan.mk x.1.Plan.Kind x.1.Plan.Num x.1.Plan.Kids) x.1.Ins x.1.Front x.1.Told) x.2.1) λy=>.w [yaD (Sess.mk (Plan.mk x.1.Plan.Kind x.1.Plan.Num x.1.Plan.Kids) x.1.Ins x.1.Front x.1.Told) x.2.1] (.k (MI y.2.1 z.2.1) λb=>.w [((!(!(y.2.2.1 == z.2.2.1)))&&true)=true->(PI y.2.1 z.2.1)] (.c (cond (cond (!(y.2.2.1 == z.2.2.1)) true (!b)) true (!y.2.2.1)) (.w [((y.2.2.1 == z.2.2.1)&&true)=true->(PI y.2.1 z.2.1)] (.l (.r (cond (y.2.2.1 == z.2.2.1) b false))))
 (.s (zaF x.1.Plan.Kind x.1.Plan.Num x.1.Plan.Kids x.1.Ins x.1.Front x.1.Told x.2.1 y.2.1) (λ_=>.w [zt y.2.1] (.l (.r (xt y.2.1)))) nE nE nE))))))
def AaF:=λx=>(waF x).val
def BaF:=λx=>(waF x).ob
def NaF:=λx=>fa.mk (AaF x) (BaF x) [] [(0,.S .byte x)] rv4 nE nE nE nE
theorem OaF(G:Gd taF){fr x}:Ok4 fr (NaF x):=ia G [([0,1,1,1,1,1,1],λe=>⟨zaF (gI e 3 0) (gI e 3 1) (gL .plan e 3 2) (gL .lrow e 3 3) (gL .time e 3 4) (gL .row e 3 5) (gL .time e 4 0) (gL .row e 9 0)⟩)] ⟨λ_=>⟨rfl,MaF G⟩,trivial⟩ [(0,[0]),(1,[0,14]),(2,[2]),(3,[3,4]),(4,[3,4,6,7]),(5,[3,4,6,7,9,10]),(6,[3,4,6,7,9,10,46]),(7,[2]),(13,[2])] (waF x)
def CaF(x:LB):Bool:=ocR (AaF x)
def DaF(x:LB):Prop:=BaF x
def JaF:Spec:=⟨[(.lst .byte)],.one .fr .bool,false,λx=>(CaF x.1,0),λx=>DaF x.1⟩
theorem PaF(G:Gd taF):Con Tryz.prog 4 JaF:=va (pts:=[(.lst .byte)]) (F:=F4) G λ_ _=>OaF G
end
end Go.Proofs.YtiiidenbemkihaaGreat

namespace Go.Proofs.YtiiidenbemkihaaGreat
namespace Ds
open Go
set_option maxRecDepth 100000
section
variable {P:Program}{tt:TT}{N:NP}{fr:Fr}{Cd:Code}{F:Fnn}{R A X Y Z:Type}
end
end Ds
end Go.Proofs.YtiiidenbemkihaaGreat

namespace Go.Proofs.YtiiidenbemkihaaGreat
open Go
section
variable {P:Program}{K n:Nat}
variable {T E:Nat} (M:oaf P T K E n) {w:World}{r:Nat}{S:za} (hr:w.heap[r]? = some (Sa S)) (hm:ic n S) {ks:List Int} (hk:ks.length=n)
include M hr hm hk
end
end Go.Proofs.YtiiidenbemkihaaGreat

namespace Go.Proofs.YtiiidenbemkihaaGreat
open Go Tg
section
variable {a:List Row} (hr:Jb a=true) {kind:Int} (hkind:1<=kind/\kind<=3)
include hr hkind
end
end Go.Proofs.YtiiidenbemkihaaGreat

namespace Go.Proofs.YtiiidenbemkihaaGreat
open Go Tg
theorem LaE{s:Sess}(hs:Sm s){f:List Time}(hf:f.length<=1000):yaD s f/\xaD s f=onV s f:=by
 have h1:=hs.ins;have h2:=hs.each;have h3:=hs.front;have h4:=hs.told;obtain⟨o1,o2⟩:=kay hs;obtain⟨q1,q2⟩:=raj f (by omega);obtain⟨g1,g2⟩:=faj s.Plan s.Ins (by omega) (λa ha=>by have:=h2 a ha;omega);simp only[yaD,xaD,NaD,MaD,waD,qaD,aaE,ZaD,paD,oaD,vaD,eaE,daE,uaD,taD,lpS,Tr.val,Tr.ob,ga,Pc,o2,q2,g2,onV,NV];cases hok:pd s with
 |false=>exact⟨by simp[o1],rfl⟩
 |true=>
  obtain⟨x,hx⟩:=LV.1 hok;cases hfo:Wd f with
  |false=>exact⟨by simp[o1,q1],rfl⟩
  |true=>
   have k2:ja (λj:Int=>da (aaD f s.Plan.Kind s.Plan.Num s.Plan.Kids s.Ins s.Front s.Told (ba .time f) j)) (λj=>daD f s.Plan.Kind s.Plan.Num s.Plan.Kids s.Ins s.Front s.Told (ba .time f) j) 0 (if ub (λ_ t=>!Ib s.Front t) none f=true then .x () else .r (gv,([],(false,())))):=by
    refine ja.scan f _ (λl t r ht=>?_) ?_
    .obtain⟨hlen,hrd,hin,hlss⟩:=Oa (t:=.time) ht;obtain⟨y1,y2⟩:=Eaw s.Front t (by omega);simp only[daD,aaD,caD,Tr.val,Tr.ob,ga,hlss,hrd,y2,Ia (l:=l) (by omega)];refine⟨by simp[hin,y1],?_⟩;cases Ib s.Front t<;>rfl
    .have hend:cmp .lss (f.length:Int) (ba .time f)=false:=Ma (t:=.time);simp only[daD,aaD,caD,Tr.val,Tr.ob,ga,hend];exact⟨by simp,rfl⟩
   rw[rg]at k2;have a2:XaD f s.Plan.Kind s.Plan.Num s.Plan.Kids s.Ins s.Front s.Told (ba .time f)=_:=k2.v;have d2:YaD f s.Plan.Kind s.Plan.Num s.Plan.Kids s.Ins s.Front s.Told (ba .time f):=k2.t;have hfl:=cp hx.flow;have hxl:=hfl.short;obtain⟨c1,c2⟩:=nay hs hfl.ok;obtain⟨t1,t2⟩:=Naw (f:=f) (by omega);obtain⟨l1,l2⟩:=Faw x f (by omega) (by omega);have hal:=fv f x
   have k4:∀w:LR,ja (λq:LR×Int=>da (baD s.Plan.Kind s.Plan.Num s.Plan.Kids s.Ins s.Front s.Told s.Plan.Kind s.Plan.Num s.Plan.Kids s.Ins f (Za f x) (ba .row (Za f x)) q.1 q.2)) (λq=>faD s.Plan.Kind s.Plan.Num s.Plan.Kids s.Ins s.Front s.Told s.Plan.Kind s.Plan.Num s.Plan.Kids s.Ins f (Za f x) (ba .row (Za f x)) q.1 q.2) ([],0) (.x ((Za f x).filter λz=>Ib s.Front z.At)):=by
    intro _;refine ja.fold (Za f x) (λi b=>(b,(i:Int))) (λl=>l.filter λz=>Ib s.Front z.At) rfl (λl z r hz=>?_) ?_
    .obtain⟨hlen,hrd,hin,hlss⟩:=Oa (t:=.row) hz;obtain⟨b1,b2⟩:=Eaw s.Front z.At (by omega);have hlim:∀w,lim (ba .row (l.filter λz=>Ib s.Front z.At)) (ba .row [w]):=λw=>Ab (t:=.row) (show(l.filter λz=>Ib s.Front z.At).length<1099511627776 by have:(l.filter λz=>Ib s.Front z.At).length<=l.length:=List.length_filter_le _ _;omega)
     have hnext:(l++[z]).filter (λz=>Ib s.Front z.At)=if Ib s.Front z.At=true then(l.filter λz=>Ib s.Front z.At)++[z] else l.filter λz=>Ib s.Front z.At:=by
      rw[List.filter_append];cases h:Ib s.Front z.At<;>simp[h]
     have e:KaD s.Plan.Kind s.Plan.Num s.Plan.Kids s.Ins s.Front s.Told s.Plan.Kind s.Plan.Num s.Plan.Kids s.Ins f (Za f x) (l.filter λz=>Ib s.Front z.At) (ba .row (Za f x)) l.length/\JaD s.Plan.Kind s.Plan.Num s.Plan.Kids s.Ins s.Front s.Told s.Plan.Kind s.Plan.Num s.Plan.Kids s.Ins f (Za f x) (l.filter λz=>Ib s.Front z.At) (ba .row (Za f x)) l.length=.n ((l++[z]).filter λz=>Ib s.Front z.At):=by
      simp only[KaD,JaD,raD,Tr.val,Tr.ob,ga,hrd,b2];refine⟨by simp[hin,b1,hlim],?_⟩;rw[hnext];cases Ib s.Front z.At<;>rfl
     obtain⟨e1,e2⟩:=e;simp only[faD,baD,eaD,saD,Tr.val,Tr.ob,hlss,e2,Ia (l:=l) (by omega)];exact⟨by simp[e1],rfl⟩
    .have hend:cmp .lss ((Za f x).length:Int) (ba .row (Za f x))=false:=Ma (t:=.row);simp only[faD,baD,eaD,Tr.val,Tr.ob,hend];exact⟨by simp,rfl⟩
   have a4:baE s.Plan.Kind s.Plan.Num s.Plan.Kids s.Ins s.Front s.Told s.Plan.Kind s.Plan.Num s.Plan.Kids s.Ins f (Za f x) (ba .row (Za f x))=_:=(k4 []).v;have d4:caE s.Plan.Kind s.Plan.Num s.Plan.Kids s.Ins s.Front s.Told s.Plan.Kind s.Plan.Num s.Plan.Kids s.Ins f (Za f x) (ba .row (Za f x)):=(k4 []).t;simp only[a2,hx.flow,yc,c2,t2,l2,a4];cases hall:(f.all λt=>Ib s.Front t) with
   |false=>exact⟨by simp[o1,q1,d2],rfl⟩
   |true=>
    refine⟨by simp[o1,q1,d2,g1,c1,t1,l1,d4],?_⟩;simp[ocR,onS,QV,hx.all]
end Go.Proofs.YtiiidenbemkihaaGreat

namespace Go.Proofs.YtiiidenbemkihaaGreat
open Go Tg
theorem MaE{c:List Int}(hc:∀x∈c,0<=x/\x<=255):naD c/\∃s f,maD c=(s,f,())/\Sm s/\f.length<=64:=by
 obtain⟨o1,b,o2,hb⟩:=eay hc;obtain⟨s1,s2,s3,s4⟩:=oay hb;generalize hv:Zs (b,0)=sv at s2 s3 s4;obtain⟨s,q⟩:=sv;simp only[]at s2 s3 s4;obtain⟨l1,_,_,l4⟩:=aax hb (p:=q) (by omega) s4.front;simp only[naD,maD,GaD,FaD,laD,kaD,WaD,VaD,jaD,Tr.val,Tr.ob,ga,o2,hv,Vae,ocR];exact⟨by simp[o1,s1,l1],s,_,rfl,s4,l4⟩
end Go.Proofs.YtiiidenbemkihaaGreat

namespace Go.Proofs.YtiiidenbemkihaaGreat
open Go Tg
theorem vaC{f:List Time}(hf:Wd f=true){t:Time}(ht:Fa t=true)(hl:f.length<1000000000):baz f t/\aaz f t=Ib f t:=by
 obtain⟨a1,a2⟩:=raj f hl;obtain⟨b1,b2⟩:=Eaw f t hl;have tp:nm t:=by simp[nm,zab,fS,Tr.ob]
 have tv:Xh t=Fa t:=Fw t;simp only[baz,aaz,Taz,Saz,Zay,Tr.val,Tr.ob,ga,a2,b2,tv,hf,ht,ocR];exact⟨by simp[a1,b1,tp],rfl⟩
end Go.Proofs.YtiiidenbemkihaaGreat

namespace Go.Proofs.YtiiidenbemkihaaGreat
open Go Tg
theorem NaE{s:Sess}{f:List Time}(h:NV s f=true):∃x,On s f x:=by
 unfold NV at h;simp only[Bool.and_eq_true]at h;obtain⟨x,hx⟩:=LV.1 h.1;exact⟨x,hx,cp hx.flow,h.2.1,h.2.2,hx.told,by unfold onS;rw[hx.all],by unfold QV;rw[hx.all]⟩
theorem SaD(f:List Time)(x:List Row):(Za f x).Sublist x:=List.filter_sublist
theorem OaE{s:Sess}{f:List Time}{x:List Row}(h:On s f x):(QV s f).Sublist x:=by rw[h.fresh];exact List.filter_sublist.trans (SaD f x)
theorem QaE(s:Sess)(f:List Time):(QV s f).length<=400:=by
 have h1:=fv f (wn s);have h2:=fax s;have h3:(QV s f).length<=(Za f (wn s)).length:=List.length_filter_le _ _;omega
theorem iaE:PI [] []/\MI [] []=true:=pay (Nat.zero_le _)
theorem RaF(c:List Int)(hc:∀x∈c,0<=x/\x<=255):DaF c/\CaF c=true:=by
 by_cases hbig:cmp .gtr (ba .byte c) 1048576=true
 .simp only[DaF,CaF,BaF,AaF,hbig,ocR,waF,Tr.val,Tr.ob,ga];exact⟨by simp,trivial⟩
 .have hbig:cmp .gtr (ba .byte c) 1048576=false:=by simpa using hbig
  obtain⟨d1,s,f,d2,hs,hf⟩:=MaE hc;obtain⟨e1,e2⟩:=Xaw hs (f:=f) (by omega);obtain⟨f1,f2⟩:=LaE hs (f:=f) (by omega);simp only[DaF,CaF,BaF,AaF,waF,Tr.val,Tr.ob,ga,hbig,d2,Vae,e2,f2,onV];cases h:NV s f with
  |false=>simp[d1,e1,f1,iaE.1,iaE.2,ocR]
  |true=>
   obtain⟨x,hx⟩:=NaE h;have hfl:=hs.front;have hrl:=QaE s f;obtain⟨r1,r2⟩:=pay (a:=QV s f) (by omega)
   have k2:ja (λj:Int=>da (saF s.Plan.Kind s.Plan.Num s.Plan.Kids s.Ins s.Front s.Told f (QV s f) j)) (λj=>vaF s.Plan.Kind s.Plan.Num s.Plan.Kids s.Ins s.Front s.Told f (QV s f) j) 0 (.x ()):=by
    refine ja.fold (QV s f) (λi (_:Unit)=>(i:Int)) (λ_=>()) rfl (λl z r hz=>?_) ?_
    .obtain⟨hlen,hrd,hin,hlss⟩:=Oa (t:=.row) hz;have hmem:z∈QV s f:=by rw[hz];simp
     have ht:Fa z.At=true:=Mf ((Yo hx.flow.batch).2.2 z ((OaE hx).subset hmem));rw[hx.fresh]at hmem;have hcs:Ib s.Front z.At=true:=(List.mem_filter.1 hmem).2
     have hcf:Ib f z.At=false:=by
      have:=(List.mem_filter.1 (List.mem_filter.1 hmem).1).2;simpa using this
     obtain⟨c1,c2⟩:=vaC hx.ok.front ht (by omega);obtain⟨c3,c4⟩:=vaC hx.front ht (by omega);simp only[vaF,saF,uaF,Tr.val,Tr.ob,ga,hlss,hrd,c2,c4,hcs,hcf,Ia (l:=l) (by omega)];exact⟨by simp[hin,c1,c3],rfl⟩
    .have hend:cmp .lss ((QV s f).length:Int) (ba .row (QV s f))=false:=Ma (t:=.row);simp only[vaF,saF,uaF,Tr.val,Tr.ob,ga,hend];exact⟨by simp,rfl⟩
   have a2:FaF s.Plan.Kind s.Plan.Num s.Plan.Kids s.Ins s.Front s.Told f (QV s f)=.x ():=k2.v;have b2:GaF s.Plan.Kind s.Plan.Num s.Plan.Kids s.Ins s.Front s.Told f (QV s f):=k2.t;obtain⟨o1,o2⟩:=sZ (QV s f) (by omega);rw[Vaw hx.flow.batch (OaE hx)]at o2;simp only[cond_true,r2,zaF,IaF,HaF,yaF,xaF,lpS,Tr.val,Tr.ob,a2,o2,ocR];simp[d1,e1,f1,r1,b2,o1]
end Go.Proofs.YtiiidenbemkihaaGreat

namespace Go.Proofs.YtiiidenbemkihaaGreat
open Go
theorem aaC:Con Tryz.prog 19 Uaz:=jaB (.cons baw (.cons HV (.cons zaw (.nil na oa))))
theorem GaE:Con Tryz.prog 21 HaD:=naE (.cons fay (.cons gay (.cons Eav (.nil na oa))))
theorem HaE:Con Tryz.prog 23 OaD:=xaE (.cons hay (.cons baw (.cons zaw (.cons yaw (.cons iay (.cons Daw (.cons Aaw (.nil na oa))))))))
theorem QaF:Con Tryz.prog 4 JaF:=PaF (.cons GaE (.cons Vav (.cons HaE (.cons jay (.cons aaC (.cons Oae (.nil na oa)))))))
end Go.Proofs.YtiiidenbemkihaaGreat
