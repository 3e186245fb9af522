/-
  How the abstract state follows the machine's: what a new value, or more memory, leaves as it was. Each operation's run, as the abstract evaluator tells it: those that make no memory. Each operation's run, as the abstract evaluator tells it: addresses, loads, indices. Each operation's run, as the abstract evaluator tells it: indices, slices, lengths, conversions. Each operation's run, as the abstract evaluator tells it: those that make memory. Each operation's run, as the abstract evaluator tells it: all but the calls, in one theorem. Contracts of functions, and a call by a contract. One operation, whichever it is, as the machine runs it. One operation of the simple kind moves the abstract state as the evaluator tells it. One operation of the simple kind, guards and all. Rights that go from slot to slot. 'append': in place, or into a new block. No statement is proved here.
-/
import Derived.Test.YtiiidenbemkihaaGreatB3
import Derived.Laws.IdiomCopy
import Derived.Laws.AppendOwn
import Derived.Laws.MakeOwn
import Derived.Laws.StructEq
import Derived.Laws.Slices
import Derived.Tactics
import Derived.Test.YtiiidenbemkihaaGreatProg
import Derived.Shelf.SlSortFuncK.WholeK
import Derived.Shelf.GgSortFunc.Tiny
import Derived.Tactics2
import Derived.IntWalk

namespace Go.Proofs.YtiiidenbemkihaaGreat
open Go
section
variable {F F':Fz}{w w':World} (hg:Ta F w F' w') (hl:Live F w)
include hg hl
end
end Go.Proofs.YtiiidenbemkihaaGreat

namespace Go.Proofs.YtiiidenbemkihaaGreat
open Go
section
variable {P:Program}{F:Fz}{B:Nat}{w:World}{a:Act}{ge g:Get}{ow:Nat->Option Nat->Option Nat}
end
end Go.Proofs.YtiiidenbemkihaaGreat

namespace Go.Proofs.YtiiidenbemkihaaGreat
open Go
section
variable {P:Program}{w:World}
variable {F:Fz}{B:Nat}{a:Act}{ge g:Get}{ow:Nat->Option Nat->Option Nat}
end
end Go.Proofs.YtiiidenbemkihaaGreat

namespace Go.Proofs.YtiiidenbemkihaaGreat
open Go
section
variable {P:Program}{tt:TT} (htt:Xb P tt)
include htt
end
section
variable {P:Program}{w:World}{F:Fz}{B:Nat}
variable {a:Act}{ge g:Get}{ow:Nat->Option Nat->Option Nat}
end
end Go.Proofs.YtiiidenbemkihaaGreat

namespace Go.Proofs.YtiiidenbemkihaaGreat
open Go
section
variable {P:Program}{w:World}{F:Fz}{B:Nat}
variable {a:Act}{ge g:Get}{ow:Nat->Option Nat->Option Nat}
end
end Go.Proofs.YtiiidenbemkihaaGreat

namespace Go.Proofs.YtiiidenbemkihaaGreat
open Go
section
variable {P:Program}{w:World}{F:Fz}{B:Nat}{a:Act}{ge raw:Get}{ow:Nat->Option Nat->Option Nat}
end
end Go.Proofs.YtiiidenbemkihaaGreat

namespace Go.Proofs.YtiiidenbemkihaaGreat
open Go
section
variable {P:Program}{w:World}{F:Fz}{B:Nat}{a:Act}{ge g:Get}{ow:Nat->Option Nat->Option Nat}
end
end Go.Proofs.YtiiidenbemkihaaGreat

namespace Go.Proofs.YtiiidenbemkihaaGreat
open Go
section
variable {P:Program}{w:World}{F:Fz}{B:Nat}{a:Act}{ge raw:Get}{ow:Nat->Option Nat->Option Nat}
end
end Go.Proofs.YtiiidenbemkihaaGreat

namespace Go.Proofs.YtiiidenbemkihaaGreat
open Go
section
variable {w w1:World}{F:Fz}{B:Nat}{b:Nat} (hp:Pk w b w1) (hF:Le F w w1)
include hp hF
end
end Go.Proofs.YtiiidenbemkihaaGreat

namespace Go.Proofs.YtiiidenbemkihaaGreat
open Go
section
variable {P:Program}{tt:TT} (htt:Xb P tt) {sp:SP} (hsp:∀f s,spk sp f=some s->Con P f s)
include htt hsp
end
end Go.Proofs.YtiiidenbemkihaaGreat

namespace Go.Proofs.YtiiidenbemkihaaGreat
open Go
section
variable {B:Nat}{IoB:List Nat}{F0 F:Fz}{e:Env}{tm:Nat->Value}{w:World}{ow:Nat->Option Nat->Option Nat}
end
section
variable {P:Program}
end
end Go.Proofs.YtiiidenbemkihaaGreat

namespace Go.Proofs.YtiiidenbemkihaaGreat
open Go
section
variable {B:Nat}{IoB:List Nat}{F0 F:Fz}{e:Env}{tm:Nat->Value}{w:World}{ow:Nat->Option Nat->Option Nat}
end
section
variable {P:Program}{B:Nat}{IoB:List Nat}{F0 F:Fz}{e:Env}{tm:Nat->Value}{w:World}{ow:Nat->Option Nat->Option Nat}
end
end Go.Proofs.YtiiidenbemkihaaGreat

namespace Go.Proofs.YtiiidenbemkihaaGreat
open Go
section
variable {B:Nat}{IoB:List Nat}{F0 F:Fz}{e:Env}{tm:Nat->Value}{w:World}{ow:Nat->Option Nat->Option Nat}
end
section
variable {P:Program}{B:Nat}{IoB:List Nat}{F0 F:Fz}{e:Env}{w:World}{ow:Nat->Option Nat->Option Nat}{a:Act}
end
end Go.Proofs.YtiiidenbemkihaaGreat

namespace Go.Proofs.YtiiidenbemkihaaGreat
open Go
section
variable {P:Program}
variable {B:Nat}{IoB:List Nat}{F0 F:Fz}{e:Env}{w:World}{ow:Nat->Option Nat->Option Nat}{a:Act}
end
end Go.Proofs.YtiiidenbemkihaaGreat

namespace Go.Proofs.YtiiidenbemkihaaGreat
open Go
section
variable {P:Program}{tt:TT}{B:Nat}{IoB:List Nat}{F0 F:Fz}{e:Env}{w:World}{ow:Nat->Option Nat->Option Nat}{a:Act}
variable {sp:SP}
end
end Go.Proofs.YtiiidenbemkihaaGreat

namespace Go.Proofs.YtiiidenbemkihaaGreat
open Go
section
variable {E:Nat->Env}{W:Nat->List Nat}{L:Nat->Bool}
end
end Go.Proofs.YtiiidenbemkihaaGreat

namespace Go.Proofs.YtiiidenbemkihaaGreat
open Go
section
variable {P:Program}{tt:TT}{sp:SP}{B:Nat}{IoB:List Nat}{F0:Fz}{N:NP}{W0:World}
end
end Go.Proofs.YtiiidenbemkihaaGreat

namespace Go.Proofs.YtiiidenbemkihaaGreat
open Go
section
variable {B:Nat}{IoB:List Nat}{F0 F:Fz}{e:Env}{tm:Nat->Value}{w:World}{ow:Nat->Option Nat->Option Nat}
end
section
variable {P:Program}{tt:TT}{sp:SP}{B:Nat}{IoB:List Nat}{F0:Fz}{N:NP}{W0:World}
end
end Go.Proofs.YtiiidenbemkihaaGreat

namespace Go.Proofs.YtiiidenbemkihaaGreat
open Go
section
variable {P:Program}{tt:TT}{sp:SP}{N:NP}{fr:Fr}{c:Code}{e:Env}{n r:Env->Prop}{x:Nat->Env->Prop}
end
open Classical in
section
variable {P:Program}{N:NP}{fr:Fr}{c:Code}{n r:Env->Prop}{x:Nat->Env->Prop}
end
end Go.Proofs.YtiiidenbemkihaaGreat

namespace Go.Proofs.YtiiidenbemkihaaGreat
open Go
section
variable {P:Program}{tt:TT}{N:NP}{fr:Fr}{c:Code}{e:Env}{n r:Env->Prop}{x:Nat->Env->Prop}
end
section
variable {P:Program}{N:NP}{fr:Fr}{c:Code}{e:Env}{n r:Env->Prop}{x:Nat->Env->Prop}
end
end Go.Proofs.YtiiidenbemkihaaGreat

namespace Go.Proofs.YtiiidenbemkihaaGreat
open Go
section
variable {P:Program}{tt:TT}{B:Nat}{IoB:List Nat}{F0 F:Fz}{e:Env}{w:World}{ow:Nat->Option Nat->Option Nat}{a:Act}
end
end Go.Proofs.YtiiidenbemkihaaGreat

namespace Go.Proofs.YtiiidenbemkihaaGreat
open Go
section
variable {P:Program}{tt:TT}{N:NP}{fr:Fr}{c:Code}{e:Env}{n r:Env->Prop}{x:Nat->Env->Prop}
end
end Go.Proofs.YtiiidenbemkihaaGreat

namespace Go.Proofs.YtiiidenbemkihaaGreat
open Go
section
variable {R A X Y Z:Type}
end
section
variable (tt:TT) (sp:SP) (N:NP) (F:Fnn) (kp:List (Nat×List Nat)) (tb:List (Nat×Nat)) (af:List (Nat×Bool×Nat)) {R:Type} (subs:Ki R)
end
section
variable {P:Program}{tt:TT}{sp:SP}{N:NP}{F:Fnn}{kp:List (Nat×List Nat)}{tb:List (Nat×Nat)}{af:List (Nat×Bool×Nat)}{R:Type}{subs:Ki R}{fr:Fr}{C:Code}{n:Env->Prop}{r:RV->Prop}{x:Nat->Env->Prop}
end
end Go.Proofs.YtiiidenbemkihaaGreat

namespace Go.Proofs.YtiiidenbemkihaaGreat
open Go
section
variable {P:Program}
end
end Go.Proofs.YtiiidenbemkihaaGreat

namespace Go.Proofs.YtiiidenbemkihaaGreat
open Go
section
variable {w w':World}{F:Fz}{r:Nat}{B:Nat} (hp:Pk w r w') {o0:Obj} (ho:w.heap[r]? = some o0) (hc:isC o0=false)
include hp ho hc
end
section
variable {P:Program}{N:NP}{B:Nat}{IoB:List Nat}{W0:World}{F0:Fz}{obs:List (Nat×Obj)}{e:Env}{a:Act}{w:World}
end
section
variable {P:Program}{ops:Array Oper}{Q:Exit->Act->World->Prop}
end
end Go.Proofs.YtiiidenbemkihaaGreat

namespace Go.Proofs.YtiiidenbemkihaaGreat
open Go
section
variable {P:Program}{K n:Nat}
variable {T E:Nat} (M:JK P T K E n) {w:World}{r:Nat}{m:MP} (hr:w.heap[r]? = some (xa m)) (hm:Gb n m) {ks:List Int} (hk:ks.length=n)
include M hr
include hm hk
omit hm hk in
end
section
variable {P:Program}{w:World}{r it:Nat}{m:MP} (hr:w.heap[r]? = some (xa m)) {S:List Nat} (hit:w.heap[it]? = some (Cb r m S))
include hr hit
end
end Go.Proofs.YtiiidenbemkihaaGreat

namespace Go.Proofs.YtiiidenbemkihaaGreat
open Go
section
variable {P:Program}
end
end Go.Proofs.YtiiidenbemkihaaGreat

namespace Go.Proofs.YtiiidenbemkihaaGreat
open Go
section
variable {P:Program}{a:Act}{w:World}{o:Oper}
end
end Go.Proofs.YtiiidenbemkihaaGreat

namespace Go.Proofs.YtiiidenbemkihaaGreat
open Go
section
variable {P:Program}{N:NP}{B:Nat}{IoB:List Nat}{W0:World}{F0:Fz}{obs:List (Nat×Obj)}{e:Env}{a:Act}{w:World}{Q:Exit->Act->World->Prop}
end
end Go.Proofs.YtiiidenbemkihaaGreat

namespace Go.Proofs.YtiiidenbemkihaaGreat
open Go
section
variable {P:Program}{tt:TT}{sp:SP}{B:Nat}{IoB:List Nat}{F0:Fz}{N:NP}{W0:World}
end
end Go.Proofs.YtiiidenbemkihaaGreat

namespace Go.Proofs.YtiiidenbemkihaaGreat
open Go
section
variable {P:Program}{N:NP}{B:Nat}{IoB:List Nat}{W0:World}{F0:Fz}{obs:List (Nat×Obj)}{e:Env}{a:Act}{w:World}
end
end Go.Proofs.YtiiidenbemkihaaGreat

namespace Go.Proofs.YtiiidenbemkihaaGreat
open Go
section
variable {P:Program}{tt:TT}{N:NP}{sp:SP}{fr:Fr}{C:Code}{F:Fnn}{R:Type}
end
section
variable {P:Program}{tt:TT}{sp:SP}
end
end Go.Proofs.YtiiidenbemkihaaGreat

namespace Go.Proofs.YtiiidenbemkihaaGreat
open Go
section
variable {N:NP}{B:Nat}{IoB:List Nat}{W0:World}{F0:Fz}{obs:List (Nat×Obj)}{e:Env}{a:Act}{w:World}
end
end Go.Proofs.YtiiidenbemkihaaGreat

namespace Go.Proofs.YtiiidenbemkihaaGreat
open Go
section
variable {F:Fz}{B:Nat}{w w1:World}{b:Nat}{o:Option Nat->Option Nat}
end
end Go.Proofs.YtiiidenbemkihaaGreat

namespace Go.Proofs.YtiiidenbemkihaaGreat
open Go
section
variable {P:Program}{tt:TT}{sp:SP}{a:Act}{w:World}
end
end Go.Proofs.YtiiidenbemkihaaGreat

namespace Go.Proofs.YtiiidenbemkihaaGreat
open Go
section
variable {P:Program}{tt:TT}{sp:SP}{B:Nat}{IoB:List Nat}{F0:Fz}{N:NP}{W0:World}
end
end Go.Proofs.YtiiidenbemkihaaGreat

namespace Go.Proofs.YtiiidenbemkihaaGreat
open Go Go.Shelf Go.RowKit Go.Lib Go.Sort
section
variable {P:Program}{α:Type} [Inhabited α] {enc:α->List Value}{k:Nat}{w w0 W:World}{blk off:Nat}{d dk X:Array α}
variable {g:Nat}{lb:Array Value}{lt:α->α->Bool}{size:Nat}
end
end Go.Proofs.YtiiidenbemkihaaGreat

namespace Go.Proofs.YtiiidenbemkihaaGreat
open Go Go.Shelf Go.RowKit Go.Lib Go.Sort
variable {P:Program}{ρ:Ren}{α:Type} [Inhabited α]
end Go.Proofs.YtiiidenbemkihaaGreat

namespace Go.Proofs.YtiiidenbemkihaaGreat
open Go Go.Shelf Go.RowKit Go.Lib Go.Sort
variable {P:Program}{ρ:Ren}{α:Type} [Inhabited α]
end Go.Proofs.YtiiidenbemkihaaGreat

namespace Go.Proofs.YtiiidenbemkihaaGreat
open Go Go.Shelf Go.RowKit Go.Lib Go.Sort
variable {P:Program}{ρ:Ren}{α:Type} [Inhabited α]
end Go.Proofs.YtiiidenbemkihaaGreat

namespace Go.Proofs.YtiiidenbemkihaaGreat
open Go Go.Shelf Go.RowKit Go.Lib Go.Sort
variable {P:Program}{ρ:Ren}{α:Type} [Inhabited α]
end Go.Proofs.YtiiidenbemkihaaGreat

namespace Go.Proofs.YtiiidenbemkihaaGreat
open Go Go.Shelf Go.RowKit Go.Lib Go.Sort
variable {P:Program}{ρ:Ren}{α:Type} [Inhabited α]
end Go.Proofs.YtiiidenbemkihaaGreat

namespace Go.Proofs.YtiiidenbemkihaaGreat
open Go Go.Shelf Go.RowKit Go.Lib Go.Sort
variable {P:Program}{ρ:Ren}{α:Type} [Inhabited α]
end Go.Proofs.YtiiidenbemkihaaGreat

namespace Go.Proofs.YtiiidenbemkihaaGreat
open Go Go.Shelf Go.RowKit Go.Lib Go.Sort
variable {P:Program}{ρ:Ren}{α:Type} [Inhabited α]
end Go.Proofs.YtiiidenbemkihaaGreat

namespace Go.Proofs.YtiiidenbemkihaaGreat
open Go
noncomputable section
set_option maxRecDepth 100000
abbrev V73:=Plan->Plan->Bool
abbrev Q73:=Plan->Plan->Prop
def caz(v:V73)(p:Q73):Spec:=⟨[(.st .plan),(.st .plan)],.one .fr .bool,false,λx=>(v x.1 x.2.1,0),λx=>p x.1 x.2.1⟩
def Fay(r73V:V73)(r73P:Q73):SP:=[(73,caz r73V r73P)]
abbrev F73:Fnn:=⟨[.tmp 4],.one .fr .bool,none,[]⟩
abbrev Vaz:Bool->RV:=rvF F73
abbrev daz:=@OkF Tryz.prog tt Tryz.f73 F73 Bool
def Gay(r73V:V73)(r73P:Q73)(_ _:Int)(y:LP)(_ _:Int)(z:LP)(x:Int):TX Bool Int Unit:=.c (cmp .lss x (ba .plan y)) (.w [inb x (ba .plan y),inb x (ba .plan z),r73P (Plan.mk (rd .plan y x).Kind (rd .plan y x).Num (rd .plan y x).Kids) (Plan.mk (rd .plan z x).Kind (rd .plan z x).Num (rd .plan z x).Kids)] (.c (!(r73V (Plan.mk (rd .plan y x).Kind (rd .plan y x).Num (rd .plan y x).Kids) (Plan.mk (rd .plan z x).Kind (rd .plan z x).Num (rd .plan z x).Kids))) (.l (.r false))
 (.l (.n (ar .add .i64 x 1)))))
 (.l (.x ()))
def Q4:=λr73V r73P x y z a b c d=>(Gay r73V r73P x y z a b c d).val
def Hay:=λr73V r73P x y z a b c d=>(Gay r73V r73P x y z a b c d).ob
def Waz:=λr73V r73P x y z a b c d=>Ba (Q4 r73V r73P x y z a b c d) (Hay r73V r73P x y z a b c d) [0,0,1,0,1,1] (λq=>[(2,.box [(.fr,.i x),(.fr,.i y),(.sh,.lst .plan z)]),(3,.box [(.fr,.i a),(.fr,.i b),(.sh,.lst .plan c)]),(5,.I q)]) d Vaz (λ_=>(0,[])) nE nE
theorem kaB{r73V:V73}{r73P:Q73}(G:Gd (Fay r73V r73P)){fr x y z a b c d}:daz fr (Waz r73V r73P x y z a b c d):=ma G [(4,[2,3,5,31]),(5,[2,3,5]),(6,[2,3,5,45]),(7,[4])] (Gay r73V r73P x y z a b c d)
def EaA:=λr73V r73P x y z a b c=>lpV (λs:Int=>da (Q4 r73V r73P x y z a b c s)) 0
def FaA:=λr73V r73P x y z a b c=>LpT (λs:Int=>da (Q4 r73V r73P x y z a b c s)) (λs=>Hay r73V r73P x y z a b c s) 0
def eaz:=λr73V r73P x y z a b c=>lpS (Waz r73V r73P x y z a b c 0) (EaA r73V r73P x y z a b c) (FaA r73V r73P x y z a b c)
theorem laB{r73V:V73}{r73P:Q73}(G:Gd (Fay r73V r73P)){fr x y z a b c}:daz fr (eaz r73V r73P x y z a b c):=Ca (λs:Int=>Waz r73V r73P x y z a b c s) 0 λ_=>kaB G
def faz(r73V:V73)(r73P:Q73)(x y:Int)(z:LP)(a b:Int)(c:LP):TA Bool Unit:=.s (eaz r73V r73P x y z a b c) nE (λ_=>.l (.n ())) nE nE
def GaA:=λr73V r73P x y z a b c=>(faz r73V r73P x y z a b c).val
def HaA:=λr73V r73P x y z a b c=>(faz r73V r73P x y z a b c).ob
def gaz:=λr73V r73P x y z a b c=>fa.mk (GaA r73V r73P x y z a b c) (HaA r73V r73P x y z a b c) [0,1,1] [(2,.box [(.fr,.i x),(.fr,.i y),(.sh,.lst .plan z)]),(3,.box [(.fr,.i a),(.fr,.i b),(.sh,.lst .plan c)])] Vaz (λ_=>[]) nE nE nE
theorem maB{r73V:V73}{r73P:Q73}(G:Gd (Fay r73V r73P)){fr x y z a b c}:daz fr (gaz r73V r73P x y z a b c):=ia G [([0,1,0,1,1],λe=>⟨eaz r73V r73P (gI e 2 0) (gI e 2 1) (gL .plan e 2 2) (gI e 3 0) (gI e 3 1) (gL .plan e 3 2)⟩)] ⟨λ_=>⟨rfl,laB G⟩,trivial⟩ [(3,[2,3,5])] (faz r73V r73P x y z a b c)
def haz(r73V:V73)(r73P:Q73)(x y:Plan):TN Bool:=.c (cond (cond (cmp .neq x.Kind y.Kind) true (cmp .neq x.Num y.Num)) true (cmp .neq (ba .plan x.Kids) (ba .plan y.Kids))) (.l (.r false))
 (.s (gaz r73V r73P x.Kind x.Num x.Kids y.Kind y.Num y.Kids) (λ_=>.l (.r true)) nE nE nE)
def iaz:=λr73V r73P x y=>(haz r73V r73P x y).val
def jaz:=λr73V r73P x y=>(haz r73V r73P x y).ob
def naB:=λr73V r73P x y=>fa.mk (iaz r73V r73P x y) (jaz r73V r73P x y) [] [(0,.agg false [.i x.Kind,.i x.Num,.lst .plan x.Kids]),(1,.agg false [.i y.Kind,.i y.Num,.lst .plan y.Kids])] Vaz nE nE nE nE
theorem oaB{r73V:V73}{r73P:Q73}(G:Gd (Fay r73V r73P)){fr x y}:daz fr (naB r73V r73P x y):=ia G [([0,1,1],λe=>⟨gaz r73V r73P (gI e 2 0) (gI e 2 1) (gL .plan e 2 2) (gI e 3 0) (gI e 3 1) (gL .plan e 3 2)⟩)] ⟨λ_=>⟨rfl,maB G⟩,trivial⟩ [(0,[2,3]),(1,[2,3,26]),(2,[4]),(8,[4])] (haz r73V r73P x y)
theorem paB{r73V:V73}{r73P:Q73}(G:Gd (Fay r73V r73P)):Con Tryz.prog 73 (caz (λx y=>ocR (iaz r73V r73P x y)) (λx y=>jaz r73V r73P x y)):=va (pts:=[(.st .plan),(.st .plan)]) (F:=F73) G λ_ _=>oaB G
def ek:Nat->V73×Q73
 |0=>(λ_ _=>default,λ_ _=>False)
 |n+1=>(λx y=>ocR (iaz (ek n).1 (ek n).2 x y),λx y=>jaz (ek n).1 (ek n).2 x y)
def Xaz:V73:=(ek Pb).1
def Yaz:Q73:=(ek Pb).2
def IaA:Spec:=caz Xaz Yaz
def Iay:SP:=[(24,wae)]
abbrev F74:Fnn:=⟨[.tmp 4],.one .fr .bool,none,[]⟩
abbrev Zaz:Bool->RV:=rvF F74
abbrev kaz:=@OkF Tryz.prog tt Tryz.f74 F74 Bool
def Jay(y z:List LR)(x:Int):TX Bool Int Unit:=.c (cmp .lss x (ba .lrow y)) (.w [inb x (ba .lrow y),inb x (ba .lrow z),PI (rd .lrow y x) (rd .lrow z x)] (.c (!(MI (rd .lrow y x) (rd .lrow z x))) (.l (.r false))
 (.l (.n (ar .add .i64 x 1)))))
 (.l (.x ()))
def yay:=λx y z=>(Jay x y z).val
def Kay:=λx y z=>(Jay x y z).ob
def aaA:=λx y z=>Ba (yay x y z) (Kay x y z) [0,0,1,0,1,1] (λq=>[(0,.S .lrow x),(1,.S .lrow y),(5,.I q)]) z Zaz (λ_=>(0,[])) nE nE
theorem qaB(G:Gd Iay){fr x y z}:kaz fr (aaA x y z):=ma G [(4,[0,1,5,14]),(5,[0,1,5]),(6,[0,1,5,26]),(7,[4])] (Jay x y z)
def JaA:=λx y=>lpV (λs:Int=>da (yay x y s)) 0
def KaA:=λx y=>LpT (λs:Int=>da (yay x y s)) (λs=>Kay x y s) 0
def laz:=λx y=>lpS (aaA x y 0) (JaA x y) (KaA x y)
theorem raB(G:Gd Iay){fr x y}:kaz fr (laz x y):=Ca (λs:Int=>aaA x y s) 0 λ_=>qaB G
def maz(x y:List LR):TA Bool Unit:=.s (laz x y) nE (λ_=>.l (.n ())) nE nE
def LaA:=λx y=>(maz x y).val
def MaA:=λx y=>(maz x y).ob
def naz:=λx y=>fa.mk (LaA x y) (MaA x y) [0,1,1] [(0,.S .lrow x),(1,.S .lrow y)] Zaz (λ_=>[]) nE nE nE
theorem saB(G:Gd Iay){fr x y}:kaz fr (naz x y):=ia G [([0,1,0,1,1],λe=>⟨laz (gL .lrow e 0 0) (gL .lrow e 1 0)⟩)] ⟨λ_=>⟨rfl,raB G⟩,trivial⟩ [(3,[0,1,5])] (maz x y)
def oaz(x y:List LR):TN Bool:=.c (cmp .neq (ba .lrow x) (ba .lrow y)) (.l (.r false))
 (.s (naz x y) (λ_=>.l (.r true)) nE nE nE)
def baA:=λx y=>(oaz x y).val
def caA:=λx y=>(oaz x y).ob
def taB:=λx y=>fa.mk (baA x y) (caA x y) [] [(0,.S .lrow x),(1,.S .lrow y)] Zaz nE nE nE nE
theorem uaB(G:Gd Iay){fr x y}:kaz fr (taB x y):=ia G [([0,1,1],λe=>⟨naz (gL .lrow e 0 0) (gL .lrow e 1 0)⟩)] ⟨λ_=>⟨rfl,saB G⟩,trivial⟩ [(0,[0,1]),(1,[0,1,10]),(2,[4]),(8,[4])] (oaz x y)
def paz(x:List LR)(y:List LR):Bool:=ocR (baA x y)
def qaz(x:List LR)(y:List LR):Prop:=caA x y
def daA:Spec:=⟨[(.lst .lrow),(.lst .lrow)],.one .fr .bool,false,λx=>(paz x.1 x.2.1,0),λx=>qaz x.1 x.2.1⟩
theorem vaB(G:Gd Iay):Con Tryz.prog 74 daA:=va (pts:=[(.lst .lrow),(.lst .lrow)]) (F:=F74) G λ_ _=>uaB G
def Lay:SP:=[]
abbrev F32:Fnn:=⟨[.tmp 4],.one .fr .bool,none,[]⟩
abbrev eaA:Bool->RV:=rvF F32
abbrev raz:=@OkF Tryz.prog tt Tryz.f32 F32 Bool
def May(y z:List Time)(x:Int):TX Bool Int Unit:=.c (cmp .lss x (ba .time y)) (.w [inb x (ba .time y),inb x (ba .time z)] (.c (!(cmp .eql (rd .time y x).A (rd .time z x).A&&(cmp .eql (rd .time y x).B (rd .time z x).B&&true))) (.l (.r false))
 (.l (.n (ar .add .i64 x 1)))))
 (.l (.x ()))
def zay:=λx y z=>(May x y z).val
def Nay:=λx y z=>(May x y z).ob
def faA:=λx y z=>Ba (zay x y z) (Nay x y z) [0,0,1,0,1,1] (λq=>[(0,.S .time x),(1,.S .time y),(5,.I q)]) z eaA (λ_=>(0,[])) nE nE
theorem waB(G:Gd Lay){fr x y z}:raz fr (faA x y z):=ma G [(4,[0,1,5,14]),(5,[0,1,5]),(6,[0,1,5,25]),(7,[4])] (May x y z)
def gaA:=λx y=>lpV (λs:Int=>da (zay x y s)) 0
def NaA:=λx y=>LpT (λs:Int=>da (zay x y s)) (λs=>Nay x y s) 0
def Oay:=λx y=>lpS (faA x y 0) (gaA x y) (NaA x y)
theorem xaB(G:Gd Lay){fr x y}:raz fr (Oay x y):=Ca (λs:Int=>faA x y s) 0 λ_=>waB G
def Pay(x y:List Time):TA Bool Unit:=.s (Oay x y) nE (λ_=>.l (.n ())) nE nE
def haA:=λx y=>(Pay x y).val
def iaA:=λx y=>(Pay x y).ob
def Aay:=λx y=>fa.mk (haA x y) (iaA x y) [0,1,1] [(0,.S .time x),(1,.S .time y)] eaA (λ_=>[]) nE nE nE
theorem yaB(G:Gd Lay){fr x y}:raz fr (Aay x y):=ia G [([0,1,0,1,1],λe=>⟨Oay (gL .time e 0 0) (gL .time e 1 0)⟩)] ⟨λ_=>⟨rfl,xaB G⟩,trivial⟩ [(3,[0,1,5])] (Pay x y)
def Bay(x y:List Time):TN Bool:=.c (cmp .neq (ba .time x) (ba .time y)) (.l (.r false))
 (.s (Aay x y) (λ_=>.l (.r true)) nE nE nE)
def Qay:=λx y=>(Bay x y).val
def Ray:=λx y=>(Bay x y).ob
def zaB:=λx y=>fa.mk (Qay x y) (Ray x y) [] [(0,.S .time x),(1,.S .time y)] eaA nE nE nE nE
theorem AaB(G:Gd Lay){fr x y}:raz fr (zaB x y):=ia G [([0,1,1],λe=>⟨Aay (gL .time e 0 0) (gL .time e 1 0)⟩)] ⟨λ_=>⟨rfl,yaB G⟩,trivial⟩ [(0,[0,1]),(1,[0,1,10]),(2,[4]),(8,[4])] (Bay x y)
def DA(x:List Time)(y:List Time):Bool:=ocR (Qay x y)
def DP(x:List Time)(y:List Time):Prop:=Ray x y
def jaA:Spec:=⟨[(.lst .time),(.lst .time)],.one .fr .bool,false,λx=>(DA x.1 x.2.1,0),λx=>DP x.1 x.2.1⟩
theorem BaB(G:Gd Lay):Con Tryz.prog 32 jaA:=va (pts:=[(.lst .time),(.lst .time)]) (F:=F32) G λ_ _=>AaB G
def OaA:SP:=[(73,IaA),(74,daA),(32,jaA),(24,wae)]
abbrev F31:Fnn:=⟨[.tmp 4],.one .fr .bool,none,[]⟩
abbrev CaB:Bool->RV:=rvF F31
abbrev DaB:=@OkF Tryz.prog tt Tryz.f31 F31 Bool
def saz(x y:Sess):TN Bool:=.k (Xaz (Plan.mk x.Plan.Kind x.Plan.Num x.Plan.Kids) (Plan.mk y.Plan.Kind y.Plan.Num y.Plan.Kids)) λz=>.k (paz x.Ins y.Ins) λa=>.k (DA x.Front y.Front) λb=>.w [Yaz (Plan.mk x.Plan.Kind x.Plan.Num x.Plan.Kids) (Plan.mk y.Plan.Kind y.Plan.Num y.Plan.Kids),(z&&true)=true->(qaz x.Ins y.Ins),((cond z a false)&&true)=true->(DP x.Front y.Front),((cond (cond z a false) b false)&&true)=true->(PI x.Told y.Told)] (.l (.r (cond (cond (cond z a false) b false) (MI x.Told y.Told) false)))
def kaA:=λx y=>(saz x y).val
def laA:=λx y=>(saz x y).ob
def EaB:=λx y=>fa.mk (kaA x y) (laA x y) [] [(0,.agg false [.i x.Plan.Kind,.i x.Plan.Num,.lst .plan x.Plan.Kids,.lst .lrow x.Ins,.lst .time x.Front,.lst .row x.Told]),(1,.agg false [.i y.Plan.Kind,.i y.Plan.Num,.lst .plan y.Plan.Kids,.lst .lrow y.Ins,.lst .time y.Front,.lst .row y.Told])] CaB nE nE nE nE
theorem FaB(G:Gd OaA){fr x y}:DaB fr (EaB x y):=ma G [(0,[2,3]),(1,[4])] (saz x y)
def Q0(x:Sess)(y:Sess):Bool:=ocR (kaA x y)
def Q1(x:Sess)(y:Sess):Prop:=laA x y
def maA:Spec:=⟨[(.st .sess),(.st .sess)],.one .fr .bool,false,λx=>(Q0 x.1 x.2.1,0),λx=>Q1 x.1 x.2.1⟩
theorem GaB(G:Gd OaA):Con Tryz.prog 31 maA:=va (pts:=[(.st .sess),(.st .sess)]) (F:=F31) G λ_ _=>FaB G
def taz:SP:=[(42,C1),(43,wab),(44,Pf),(75,zR),(76,DR)]
abbrev F33:Fnn:=⟨[.cell 2 30,.tmp 3,.tmp 4],.tup [(false,(.st .sess)),(true,(.int .i64)),(false,(.lst .row))],none,[]⟩
abbrev naA:Sess×Int×LR×Unit->RV:=rvF F33
abbrev oaA:=@OkF Tryz.prog tt Tryz.f33 F33 (Sess×Int×LR×Unit)
def uaz(x:LB)(a _ _:Int)(_:LP)(_:List LR)(_:List Time)(_:LR)(b:Int):TA (Sess×Int×LR×Unit) (Int×Int):=.k (la (x,a) 24) λy=>.w [Ob (x,a) 24] (.c (cmp .eql y.1 0) (.k (la (x,y.2) 2) λz=>.w [Ob (x,y.2) 2,inb z.1 (ba .int [(-1),2])] (.l (.n (z.2,(rd .int [(-1),2] z.1)))))
 (.l (.n (y.2,b))))
def paA:=λx y z a b c d f g=>(uaz x y z a b c d f g).val
def qaA:=λx y z a b c d f g=>(uaz x y z a b c d f g).ob
def vaz:=λx f y z a b c d g=>fa.mk (paA x f y z a b c d g) (qaA x f y z a b c d g) [0,1,1,1,1] [(2,.box [(.fr,.i 0),(.fr,.i 0),(.fr,.nl .plan),(.fr,.nl .lrow),(.fr,.nl .time),(.fr,.nl .row)]),(5,.R x f),(6,.box [(.fr,.i y),(.fr,.i z),(.sh,.lst .plan a),(.sh,.lst .lrow b),(.sh,.lst .time c),(.sh,.lst .row d)]),(7,.I g)] naA (λq=>[(2,.box [(.fr,.i 0),(.fr,.i 0),(.fr,.nl .plan),(.fr,.nl .lrow),(.fr,.nl .time),(.fr,.nl .row)]),(5,.R x q.1),(6,.box [(.fr,.i y),(.fr,.i z),(.sh,.lst .plan a),(.sh,.lst .lrow b),(.sh,.lst .time c),(.sh,.lst .row d)]),(7,.I q.2)]) nE nE nE
theorem HaB(G:Gd taz){fr x y z a b c d f g}:oaA fr (vaz x y z a b c d f g):=ma G [(4,[2,5,6,7,17]),(5,[2,5,6,7])] (uaz x y z a b c d f g)
def waz(x:LB)(a _ _:Int)(_:LP)(_:List LR)(b:List Time)(_:LR)(_:Int)(y:LR):TA (Sess×Int×LR×Unit) LR:=.k (la (x,a) 6) λz=>.w [Ob (x,a) 6] (.c (cmp .gtr z.1 0) (.w [PD (x,z.2) y b] (.l (.n (de (x,z.2) y b).1)))
 (.l (.n y)))
def raA:=λx y z a b c d f g h=>(waz x y z a b c d f g h).val
def saA:=λx y z a b c d f g h=>(waz x y z a b c d f g h).ob
def xaz:=λf g x y z a b c d h=>fa.mk (raA f g x y z a b c d h) (saA f g x y z a b c d h) [0,1,1,1,1,1,1] [(2,.box [(.fr,.i 0),(.fr,.i 0),(.fr,.nl .plan),(.fr,.nl .lrow),(.fr,.nl .time),(.fr,.nl .row)]),(5,.R f g),(6,.box [(.fr,.i x),(.fr,.i y),(.sh,.lst .plan z),(.sh,.lst .lrow a),(.sh,.lst .time b),(.sh,.lst .row c)]),(7,.I d),(8,.S .row h)] naA (λq=>[(2,.box [(.fr,.i 0),(.fr,.i 0),(.fr,.nl .plan),(.fr,.nl .lrow),(.fr,.nl .time),(.fr,.nl .row)]),(6,.box [(.fr,.i x),(.fr,.i y),(.sh,.lst .plan z),(.sh,.lst .lrow a),(.sh,.lst .time b),(.sh,.lst .row c)]),(7,.I d),(8,.S .row q)]) nE nE nE
theorem IaB(G:Gd taz){fr x y z a b c d f g h}:oaA fr (xaz x y z a b c d f g h):=ma G [(7,[2,5,6,7,8,27]),(8,[2,6,7,8])] (waz x y z a b c d f g h)
def yaz(a:LB):TN (Sess×Int×LR×Unit):=.k (BM a) λy=>.w [CM a] (.k (Zs (y.1,y.2)) λx=>.w [eS (y.1,y.2)] (.k (la (y.1,x.2) 2) λb=>.w [Ob (y.1,x.2) 2] (.s (vaz y.1 b.2 x.1.Plan.Kind x.1.Plan.Num x.1.Plan.Kids x.1.Ins x.1.Front x.1.Told b.1) (λz=>.k (Qb (y.1,z.1) 4) λc=>.w [AD (y.1,z.1) 4] (.s (xaz y.1 c.2 x.1.Plan.Kind x.1.Plan.Num x.1.Plan.Kids x.1.Ins x.1.Front x.1.Told z.2 c.1) (λd=>.l (.r ((Sess.mk (Plan.mk x.1.Plan.Kind x.1.Plan.Num x.1.Plan.Kids) x.1.Ins x.1.Front x.1.Told),(z.2,(d,()))))) nE nE nE)) nE nE nE)))
def taA:=λx=>(yaz x).val
def uaA:=λx=>(yaz x).ob
def JaB:=λx=>fa.mk (taA x) (uaA x) [] [(0,.S .byte x)] naA nE nE nE nE
theorem KaB(G:Gd taz){fr x}:oaA fr (JaB x):=ia G [([0,1,1,1,1],λe=>⟨vaz (gL .byte e 5 0) (gI e 5 1) (gI e 6 0) (gI e 6 1) (gL .plan e 6 2) (gL .lrow e 6 3) (gL .time e 6 4) (gL .row e 6 5) (gI e 7 0)⟩),([0,1,1,1,1,1,1],λe=>⟨xaz (gL .byte e 5 0) (gI e 5 1) (gI e 6 0) (gI e 6 1) (gL .plan e 6 2) (gL .lrow e 6 3) (gL .time e 6 4) (gL .row e 6 5) (gI e 7 0) (gL .row e 8 0)⟩)] ⟨λ_=>⟨rfl,HaB G⟩,λ_=>⟨rfl,IaB G⟩,trivial⟩ [(0,[0,2]),(1,[2,5]),(2,[2,5,6]),(3,[2,5,6,7]),(6,[2,5,6,7,8]),(9,[2,3,4])] (yaz x)
def zaz(x:LB):Sess×Int×LR×Unit:=ocR (taA x)
def Aaz(x:LB):Prop:=uaA x
def vaA:Spec:=⟨[(.lst .byte)],.tup [(false,(.st .sess)),(true,(.int .i64)),(false,(.lst .row))],false,λx=>(zaz x.1,0),λx=>Aaz x.1⟩
theorem LaB(G:Gd taz):Con Tryz.prog 33 vaA:=va (pts:=[(.lst .byte)]) (F:=F33) G λ_ _=>KaB G
def Q3:SP:=[(27,fae),(25,mF),(52,VU),(63,rae),(72,rT),(71,Cm)]
abbrev F35:Fnn:=⟨[.cell 6 30,.tmp 7],.tup [(false,(.st .sess)),(true,.bool)],none,[]⟩
abbrev Say:Sess×Bool×Unit->RV:=rvF F35
abbrev Cay:=@OkF Tryz.prog tt Tryz.f35 F35 (Sess×Bool×Unit)
def Tay(_:Int)(y:LR)(_ _:Int)(_:LP)(_:List LR)(z:List Time)(_:LR)(a x:Int):TX (Sess×Bool×Unit) Int Unit:=.c (cmp .lss x a) (.w [inb x (ba .row y)] (.w [XH z (rd .row y x).At] (.c (!(WH z (rd .row y x).At)) (.l (.r ((Sess.mk (Plan.mk 0 0 []) [] [] []),(false,()))))
 (.l (.n (ar .add .i64 x 1))))))
 (.l (.x ()))
def Day:=λx y z a b c d f g h=>(Tay x y z a b c d f g h).val
def Uay:=λx y z a b c d f g h=>(Tay x y z a b c d f g h).ob
def waA:=λy x z a b c d f g h=>Ba (Day y x z a b c d f g h) (Uay y x z a b c d f g h) [0,0,1,0,1,1] (λq=>[(1,.I y),(2,.S .row x),(3,.box [(.fr,.i z),(.fr,.i a),(.sh,.lst .plan b),(.sh,.lst .lrow c),(.sh,.lst .time d),(.sh,.lst .row f)]),(6,.box [(.fr,.i 0),(.fr,.i 0),(.fr,.nl .plan),(.fr,.nl .lrow),(.fr,.nl .time),(.fr,.nl .row)]),(30,.S .row x),(31,.I g),(32,.I q)]) h Say (λ_=>(0,[(1,.I y),(2,.S .row x),(3,.box [(.fr,.i z),(.fr,.i a),(.sh,.lst .plan b),(.sh,.lst .lrow c),(.sh,.lst .time d),(.sh,.lst .row f)]),(6,.box [(.fr,.i 0),(.fr,.i 0),(.fr,.nl .plan),(.fr,.nl .lrow),(.fr,.nl .time),(.fr,.nl .row)])])) nE nE
theorem MaB(G:GdB Q3 63 xV yV){fr x y z a b c d f g h}:Cay fr (waA x y z a b c d f g h):=ma G.g [(4,[1,2,3,6,30,31,32,33]),(5,[1,2,3,6,9,30,31,32]),(6,[1,2,3,6,30,31,32,41]),(7,[6,7]),(8,[1,2,3,6,30,31,32])] (Tay x y z a b c d f g h)
def PaA:=λx y z a b c d f g=>lpV (λs:Int=>da (Day x y z a b c d f g s)) 0
def QaA:=λx y z a b c d f g=>LpT (λs:Int=>da (Day x y z a b c d f g s)) (λs=>Uay x y z a b c d f g s) 0
def Baz:=λx y z a b c d f g=>lpS (waA x y z a b c d f g 0) (PaA x y z a b c d f g) (QaA x y z a b c d f g)
theorem NaB(G:GdB Q3 63 xV yV){fr x y z a b c d f g}:Cay fr (Baz x y z a b c d f g):=Ca (λs:Int=>waA x y z a b c d f g s) 0 λ_=>MaB G
def Caz(y:Int)(x:LR)(z a:Int)(b:LP)(c:List LR)(d:List Time)(f:LR):TA (Sess×Bool×Unit) Unit:=.s (Baz y x z a b c d f (ba .row x)) nE (λ_=>.l (.n ())) nE nE
def RaA:=λx y z a b c d f=>(Caz x y z a b c d f).val
def SaA:=λx y z a b c d f=>(Caz x y z a b c d f).ob
def Daz:=λx y z a b c d f=>fa.mk (RaA x y z a b c d f) (SaA x y z a b c d f) [0,1,1] [(1,.I x),(2,.S .row y),(3,.box [(.fr,.i z),(.fr,.i a),(.sh,.lst .plan b),(.sh,.lst .lrow c),(.sh,.lst .time d),(.sh,.lst .row f)]),(6,.box [(.fr,.i 0),(.fr,.i 0),(.fr,.nl .plan),(.fr,.nl .lrow),(.fr,.nl .time),(.fr,.nl .row)])] Say (λ_=>[(1,.I x),(2,.S .row y),(3,.box [(.fr,.i z),(.fr,.i a),(.sh,.lst .plan b),(.sh,.lst .lrow c),(.sh,.lst .time d),(.sh,.lst .row f)]),(6,.box [(.fr,.i 0),(.fr,.i 0),(.fr,.nl .plan),(.fr,.nl .lrow),(.fr,.nl .time),(.fr,.nl .row)])]) nE nE nE
theorem OaB(G:GdB Q3 63 xV yV){fr x y z a b c d f}:Cay fr (Daz x y z a b c d f):=ia G.g [([0,1,0,1,1],λe=>⟨Baz (gI e 1 0) (gL .row e 2 0) (gI e 3 0) (gI e 3 1) (gL .plan e 3 2) (gL .lrow e 3 3) (gL .time e 3 4) (gL .row e 3 5) (gI e 31 0)⟩)] ⟨λ_=>⟨rfl,NaB G⟩,trivial⟩ [(3,[1,2,3,6,30,31,32])] (Caz x y z a b c d f)
def Eaz(_:Int)(_:LR)(x y:Int)(z:LP)(a:List LR)(b:List Time)(c:LR):TA (Sess×Bool×Unit) (Int×Int×LP×(List LR)×(List Time)×LR):=.w [yV (Sess.mk (Plan.mk x y z) a b c)] (.l (.n ((xV (Sess.mk (Plan.mk x y z) a b c)).Plan.Kind,(xV (Sess.mk (Plan.mk x y z) a b c)).Plan.Num,(xV (Sess.mk (Plan.mk x y z) a b c)).Plan.Kids,(xV (Sess.mk (Plan.mk x y z) a b c)).Ins,(xV (Sess.mk (Plan.mk x y z) a b c)).Front,(xV (Sess.mk (Plan.mk x y z) a b c)).Told)))
def TaA:=λx y z a b c d f=>(Eaz x y z a b c d f).val
def UaA:=λx y z a b c d f=>(Eaz x y z a b c d f).ob
def Faz:=λx y z a b c d f=>fa.mk (TaA x y z a b c d f) (UaA x y z a b c d f) [0,1,1,1] [(1,.I x),(2,.S .row y),(3,.box [(.fr,.i z),(.fr,.i a),(.sh,.lst .plan b),(.sh,.lst .lrow c),(.sh,.lst .time d),(.sh,.lst .row f)]),(6,.box [(.fr,.i 0),(.fr,.i 0),(.fr,.nl .plan),(.fr,.nl .lrow),(.fr,.nl .time),(.fr,.nl .row)])] Say (λq=>[(1,.I x),(2,.S .row y),(3,.box [(.fr,.i z),(.fr,.i a),(.sh,.lst .plan b),(.sh,.lst .lrow c),(.sh,.lst .time d),(.sh,.lst .row f)]),(6,.box [(.fr,.i 0),(.fr,.i 0),(.fr,.nl .plan),(.fr,.nl .lrow),(.fr,.nl .time),(.fr,.nl .row)]),(10,.box [(.fr,.i q.1),(.fr,.i q.2.1),(.sh,.lst .plan q.2.2.1),((.acc false),.lst .lrow q.2.2.2.1),(.sh,.lst .time q.2.2.2.2.1),(.sh,.lst .row q.2.2.2.2.2)])]) nE nE nE
theorem PaB(G:GdB Q3 63 xV yV){fr f g x z a b c d}:Cay fr (Faz f g x z a b c d):=Cah G.g G.b 30 3 44 45 10 [(1,.same),(2,.same),(3,.same),(6,.same),(10,.same)] (Eaz f g x z a b c d) (y:=Sess.mk (Plan.mk x z a) b c d)
def Gaz(x _ _:Int)(_:LP)(y:List LR)(_:List Time)(_ z:LR):TA (Sess×Bool×Unit) ((List LR)):=.w [inb x (ba .lrow y)] (.l (.n (List.set y (Int.toNat x) z)))
def VaA:=λx y z a b c d f=>(Gaz x y z a b c d f).val
def WaA:=λx y z a b c d f=>(Gaz x y z a b c d f).ob
def Haz:=λc x y z d a b f=>fa.mk (VaA c x y z d a b f) (WaA c x y z d a b f) [0,1,1,1,1,1,1] [(1,.I c),(6,.box [(.fr,.i 0),(.fr,.i 0),(.fr,.nl .plan),(.fr,.nl .lrow),(.fr,.nl .time),(.fr,.nl .row)]),(10,.box [(.fr,.i x),(.fr,.i y),(.sh,.lst .plan z),((.acc false),.lst .lrow d),(.sh,.lst .time a),(.sh,.lst .row b)]),(11,.S .row f)] Say (λq=>[(6,.box [(.fr,.i 0),(.fr,.i 0),(.fr,.nl .plan),(.fr,.nl .lrow),(.fr,.nl .time),(.fr,.nl .row)]),(10,.box [(.fr,.i x),(.fr,.i y),(.sh,.lst .plan z),((.acc false),.lst .lrow q),(.sh,.lst .time a),(.sh,.lst .row b)])]) nE nE nE
theorem QaB(G:GdB Q3 63 xV yV){fr h x a b c d f g}:Cay fr (Haz h x a b c d f g):=Eah G.g 30 26 28 10 1 11 60 61 62 63 64 [(0,3),(3,1),(4,1),(5,1)] 1 [(6,.same),(10,.same)] (Gaz h x a b c d f g) (y:=Sess.mk (Plan.mk x a b) c d f) (kr:=.sh) (z:=g)
def Iaz(x:Sess)(z:Int)(a:LR):TN (Sess×Bool×Unit):=.k (oI (Sess.mk (Plan.mk x.Plan.Kind x.Plan.Num x.Plan.Kids) x.Ins x.Front x.Told)) λd=>.w [pI (Sess.mk (Plan.mk x.Plan.Kind x.Plan.Num x.Plan.Kids) x.Ins x.Front x.Told),((!(cond (cond (!d) true (cmp .lss z 0)) true (cmp .geq z 2)))&&true)=true->(zt a)] (.c (cond (cond (cond (!d) true (cmp .lss z 0)) true (cmp .geq z 2)) true (!(xt a))) (.l (.r ((Sess.mk (Plan.mk 0 0 []) [] [] []),(false,()))))
 (.s (Daz z a x.Plan.Kind x.Plan.Num x.Plan.Kids x.Ins x.Front x.Told) (λ_=>.s (Faz z a x.Plan.Kind x.Plan.Num x.Plan.Kids x.Ins x.Front x.Told) (λy=>.k (DF (rd .lrow x.Ins z) a) λb=>.w [inb z (ba .lrow x.Ins),EF (rd .lrow x.Ins z) a,Zh b] (.c (!(Qe b).2.1) (.l (.r ((Sess.mk (Plan.mk 0 0 []) [] [] []),(false,()))))
 (.s (Haz z y.1 y.2.1 y.2.2.1 y.2.2.2.1 y.2.2.2.2.1 y.2.2.2.2.2 (Qe b).1) (λc=>.w [pI (Sess.mk (Plan.mk y.1 y.2.1 y.2.2.1) c y.2.2.2.2.1 y.2.2.2.2.2)] (.c (!(oI (Sess.mk (Plan.mk y.1 y.2.1 y.2.2.1) c y.2.2.2.2.1 y.2.2.2.2.2))) (.l (.r ((Sess.mk (Plan.mk 0 0 []) [] [] []),(false,()))))
 (.l (.r ((Sess.mk (Plan.mk y.1 y.2.1 y.2.2.1) c y.2.2.2.2.1 y.2.2.2.2.2),(true,())))))) nE nE nE))) nE nE nE) nE nE nE))
def xaA:=λx y z=>(Iaz x y z).val
def yaA:=λx y z=>(Iaz x y z).ob
def RaB:=λx y z=>fa.mk (xaA x y z) (yaA x y z) [] [(0,.agg false [.i x.Plan.Kind,.i x.Plan.Num,.lst .plan x.Plan.Kids,.lst .lrow x.Ins,.lst .time x.Front,.lst .row x.Told]),(1,.I y),(2,.S .row z)] Say nE nE nE nE
theorem SaB(G:GdB Q3 63 xV yV){fr x y z}:Cay fr (RaB x y z):=ia G.g [([0,1,1],λe=>⟨Daz (gI e 1 0) (gL .row e 2 0) (gI e 3 0) (gI e 3 1) (gL .plan e 3 2) (gL .lrow e 3 3) (gL .time e 3 4) (gL .row e 3 5)⟩),([0,1,1,1],λe=>⟨Faz (gI e 1 0) (gL .row e 2 0) (gI e 3 0) (gI e 3 1) (gL .plan e 3 2) (gL .lrow e 3 3) (gL .time e 3 4) (gL .row e 3 5)⟩),([0,1,1,1,1,1,1],λe=>⟨Haz (gI e 1 0) (gI e 10 0) (gI e 10 1) (gL .plan e 10 2) (gL .lrow e 10 3) (gL .time e 10 4) (gL .row e 10 5) (gL .row e 11 0)⟩)] ⟨λ_=>⟨rfl,OaB G⟩,λ_=>⟨rfl,PaB G⟩,λ_=>⟨rfl,QaB G⟩,trivial⟩ [(0,[1,2,3,6]),(1,[1,2,3,6,28]),(2,[6,7]),(10,[1,6,10,11,12]),(11,[1,6,10,11,58]),(12,[6,7]),(14,[6,10,67]),(15,[6,7]),(16,[6,7])] (Iaz x y z)
def Jaz(x:Sess)(y:Int)(z:LR):Sess×Bool×Unit:=ocR (xaA x y z)
def Kaz(x:Sess)(y:Int)(z:LR):Prop:=yaA x y z
def zaA:Spec:=⟨[(.st .sess),(.int .i64),(.lst .row)],.tup [(false,(.st .sess)),(true,.bool)],false,λx=>(Jaz x.1 x.2.1 x.2.2.1,0),λx=>Kaz x.1 x.2.1 x.2.2.1⟩
theorem TaB(G:GdB Q3 63 xV yV):Con Tryz.prog 35 zaA:=va (pts:=[(.st .sess),(.int .i64),(.lst .row)]) (F:=F35) G.g λ_ _=>SaB G
end
end Go.Proofs.YtiiidenbemkihaaGreat

namespace Go.Proofs.YtiiidenbemkihaaGreat
open Go
noncomputable section
set_option maxRecDepth 100000
def maI:SP:=[(33,vaA),(34,IR),(35,zaA),(31,maA)]
abbrev F7:Fnn:=⟨[.tmp 4],.one .fr .bool,none,[]⟩
abbrev rv7:Bool->RV:=rvF F7
abbrev Ok7:=@OkF Tryz.prog tt Tryz.f7 F7 Bool
def naI(z a:Int)(b:LP)(c:List LR)(d:List Time)(f:LR)(g:Int)(x:LR)(_ _:Int)(_:LP)(_:List LR)(_:List Time)(_:LR)(y:Int):TA Bool (Int×Int×LP×(List LR)×(List Time)×LR×Bool):=.w [le3 0 y (ba .row x),Kaz (Sess.mk (Plan.mk z a b) c d f) g (List.drop (Int.toNat 0) (List.take (Int.toNat y) x))] (.l (.n ((Jaz (Sess.mk (Plan.mk z a b) c d f) g (List.drop (Int.toNat 0) (List.take (Int.toNat y) x))).1.Plan.Kind,(Jaz (Sess.mk (Plan.mk z a b) c d f) g (List.drop (Int.toNat 0) (List.take (Int.toNat y) x))).1.Plan.Num,(Jaz (Sess.mk (Plan.mk z a b) c d f) g (List.drop (Int.toNat 0) (List.take (Int.toNat y) x))).1.Plan.Kids,(Jaz (Sess.mk (Plan.mk z a b) c d f) g (List.drop (Int.toNat 0) (List.take (Int.toNat y) x))).1.Ins,(Jaz (Sess.mk (Plan.mk z a b) c d f) g (List.drop (Int.toNat 0) (List.take (Int.toNat y) x))).1.Front,(Jaz (Sess.mk (Plan.mk z a b) c d f) g (List.drop (Int.toNat 0) (List.take (Int.toNat y) x))).1.Told,(Jaz (Sess.mk (Plan.mk z a b) c d f) g (List.drop (Int.toNat 0) (List.take (Int.toNat y) x))).2.1)))
def vaI:=λx y z a b c d f g h i j k l m=>(naI x y z a b c d f g h i j k l m).val
def waI:=λx y z a b c d f g h i j k l m=>(naI x y z a b c d f g h i j k l m).ob
def oaI:=λh i j k l m x y z a b c d f g=>fa.mk (vaI h i j k l m x y z a b c d f g) (waI h i j k l m x y z a b c d f g) [0,1,1,1,1,1,1,1] [(5,.box [(.fr,.i h),(.fr,.i i),(.sh,.lst .plan j),(.sh,.lst .lrow k),(.sh,.lst .time l),(.sh,.lst .row m)]),(6,.I x),(7,.S .row y),(10,.box [(.fr,.i z),(.fr,.i a),(.sh,.lst .plan b),(.sh,.lst .lrow c),(.sh,.lst .time d),(.sh,.lst .row f)]),(12,.I g)] rv7 (λq=>[(6,.I x),(7,.S .row y),(10,.box [(.fr,.i z),(.fr,.i a),(.sh,.lst .plan b),(.sh,.lst .lrow c),(.sh,.lst .time d),(.sh,.lst .row f)]),(12,.I g),(13,.box [(.fr,.i q.1),(.fr,.i q.2.1),(.sh,.lst .plan q.2.2.1),(.sh,.lst .lrow q.2.2.2.1),(.sh,.lst .time q.2.2.2.2.1),(.sh,.lst .row q.2.2.2.2.2.1)]),(14,.O q.2.2.2.2.2.2)]) nE nE nE
theorem DaI(G:Gd maI){fr x y z a b c d f g h i j k l m}:Ok7 fr (oaI x y z a b c d f g h i j k l m):=Co G [6,7,10,12,13,14] [5,6,7,10,12,13,14,72,73,74,75,76,77,78,79,80] (naI x y z a b c d f g h i j k l m)
def paI(z:Int)(x:LR)(_ _:Int)(_:LP)(_:List LR)(_:List Time)(_:LR)(y a b:Int)(c:LP)(d:List LR)(f:List Time)(g:LR)(_:Bool):TA Bool (Int×Int×LP×(List LR)×(List Time)×LR×Bool):=.w [le3 y (ba .row x) (ba .row x),Kaz (Sess.mk (Plan.mk a b c) d f g) z (List.drop (Int.toNat y) x)] (.l (.n ((Jaz (Sess.mk (Plan.mk a b c) d f g) z (List.drop (Int.toNat y) x)).1.Plan.Kind,(Jaz (Sess.mk (Plan.mk a b c) d f g) z (List.drop (Int.toNat y) x)).1.Plan.Num,(Jaz (Sess.mk (Plan.mk a b c) d f g) z (List.drop (Int.toNat y) x)).1.Plan.Kids,(Jaz (Sess.mk (Plan.mk a b c) d f g) z (List.drop (Int.toNat y) x)).1.Ins,(Jaz (Sess.mk (Plan.mk a b c) d f g) z (List.drop (Int.toNat y) x)).1.Front,(Jaz (Sess.mk (Plan.mk a b c) d f g) z (List.drop (Int.toNat y) x)).1.Told,(Jaz (Sess.mk (Plan.mk a b c) d f g) z (List.drop (Int.toNat y) x)).2.1)))
def xaI:=λx y z a b c d f g h i j k l m n=>(paI x y z a b c d f g h i j k l m n).val
def yaI:=λx y z a b c d f g h i j k l m n=>(paI x y z a b c d f g h i j k l m n).ob
def qaI:=λf g x y z a b c h i j k l m n d=>fa.mk (xaI f g x y z a b c h i j k l m n d) (yaI f g x y z a b c h i j k l m n d) [0,1,1,1,1,1,1,1,1] [(6,.I f),(7,.S .row g),(10,.box [(.fr,.i x),(.fr,.i y),(.sh,.lst .plan z),(.sh,.lst .lrow a),(.sh,.lst .time b),(.sh,.lst .row c)]),(12,.I h),(13,.box [(.fr,.i i),(.fr,.i j),(.sh,.lst .plan k),(.sh,.lst .lrow l),(.sh,.lst .time m),(.sh,.lst .row n)]),(14,.O d)] rv7 (λq=>[(10,.box [(.fr,.i x),(.fr,.i y),(.sh,.lst .plan z),(.sh,.lst .lrow a),(.sh,.lst .time b),(.sh,.lst .row c)]),(14,.O d),(15,.box [(.fr,.i q.1),(.fr,.i q.2.1),(.sh,.lst .plan q.2.2.1),(.sh,.lst .lrow q.2.2.2.1),(.sh,.lst .time q.2.2.2.2.1),(.sh,.lst .row q.2.2.2.2.2.1)]),(16,.O q.2.2.2.2.2.2)]) nE nE nE
theorem EaI(G:Gd maI){fr x y z a b c d f g h i j k l m n}:Ok7 fr (qaI x y z a b c d f g h i j k l m n):=Co G [10,14,15,16] [6,7,10,12,13,14,15,16,81,82,83,84,85,86,87,88,89] (paI x y z a b c d f g h i j k l m n)
def laI(c d:LB):TN Bool:=.c (cond (cmp .gtr (ba .byte c) 1048576) true (cmp .gtr (ba .byte d) 1048576)) (.l (.r true))
 (.k (zaz c) λy=>.w [Aaz c] (.k (yg (Sess.mk (Plan.mk y.1.Plan.Kind y.1.Plan.Num y.1.Plan.Kids) y.1.Ins y.1.Front y.1.Told) y.2.1 y.2.2.1) λz=>.w [aE (Sess.mk (Plan.mk y.1.Plan.Kind y.1.Plan.Num y.1.Plan.Kids) y.1.Ins y.1.Front y.1.Told) y.2.1 y.2.2.1] (.k (Jaz (Sess.mk (Plan.mk y.1.Plan.Kind y.1.Plan.Num y.1.Plan.Kids) y.1.Ins y.1.Front y.1.Told) y.2.1 y.2.2.1) λx=>.w [Kaz (Sess.mk (Plan.mk y.1.Plan.Kind y.1.Plan.Num y.1.Plan.Kids) y.1.Ins y.1.Front y.1.Told) y.2.1 y.2.2.1] (.k (Q0 (Sess.mk (Plan.mk x.1.Plan.Kind x.1.Plan.Num x.1.Plan.Kids) x.1.Ins x.1.Front x.1.Told) (Sess.mk (Plan.mk z.1.Plan.Kind z.1.Plan.Num z.1.Plan.Kids) z.1.Ins z.1.Front z.1.Told)) λf=>.w [((!(!(x.2.1 == z.2.1)))&&true)=true->(Q1 (Sess.mk (Plan.mk x.1.Plan.Kind x.1.Plan.Num x.1.Plan.Kids) x.1.Ins x.1.Front x.1.Told) (Sess.mk (Plan.mk z.1.Plan.Kind z.1.Plan.Num z.1.Plan.Kids) z.1.Ins z.1.Front z.1.Told))] (.c (cond (cond (!(x.2.1 == z.2.1)) true (!f)) true (!x.2.1)) (.w [((x.2.1 == z.2.1)&&true)=true->(Q1 (Sess.mk (Plan.mk x.1.Plan.Kind x.1.Plan.Num x.1.Plan.Kids) x.1.Ins x.1.Front x.1.Told) (Sess.mk (Plan.mk z.1.Plan.Kind z.1.Plan.Num z.1.Plan.Kids) z.1.Ins z.1.Front z.1.Told))] (.l (.r (cond (x.2.1 == z.2.1) f false))))
 (.w [((ar .add .i64 (ba .row y.2.2.1) 1):Int)≠0] (.s (oaI y.1.Plan.Kind y.1.Plan.Num y.1.Plan.Kids y.1.Ins y.1.Front y.1.Told y.2.1 y.2.2.1 x.1.Plan.Kind x.1.Plan.Num x.1.Plan.Kids x.1.Ins x.1.Front x.1.Told (ar .rem .i64 (ba .byte d) (ar .add .i64 (ba .row y.2.2.1) 1))) (λb=>.s (qaI y.2.1 y.2.2.1 x.1.Plan.Kind x.1.Plan.Num x.1.Plan.Kids x.1.Ins x.1.Front x.1.Told (ar .rem .i64 (ba .byte d) (ar .add .i64 (ba .row y.2.2.1) 1)) b.1 b.2.1 b.2.2.1 b.2.2.2.1 b.2.2.2.2.1 b.2.2.2.2.2.1 b.2.2.2.2.2.2) (λa=>.w [((!(cond (!b.2.2.2.2.2.2) true (!a.2.2.2.2.2.2)))&&true)=true->(Q1 (Sess.mk (Plan.mk a.1 a.2.1 a.2.2.1) a.2.2.2.1 a.2.2.2.2.1 a.2.2.2.2.2.1) (Sess.mk (Plan.mk x.1.Plan.Kind x.1.Plan.Num x.1.Plan.Kids) x.1.Ins x.1.Front x.1.Told))] (.l (.r (cond (cond (!b.2.2.2.2.2.2) true (!a.2.2.2.2.2.2)) true (Q0 (Sess.mk (Plan.mk a.1 a.2.1 a.2.2.1) a.2.2.2.1 a.2.2.2.2.1 a.2.2.2.2.2.1) (Sess.mk (Plan.mk x.1.Plan.Kind x.1.Plan.Num x.1.Plan.Kids) x.1.Ins x.1.Front x.1.Told)))))) nE nE nE) nE nE nE)))))))
def raI:=λx y=>(laI x y).val
def saI:=λx y=>(laI x y).ob
def FaI:=λx y=>fa.mk (raI x y) (saI x y) [] [(0,.S .byte x),(1,.S .byte y)] rv7 nE nE nE nE
theorem GaI(G:Gd maI){fr x y}:Ok7 fr (FaI x y):=ia G [([0,1,1,1,1,1,1,1],λe=>⟨oaI (gI e 5 0) (gI e 5 1) (gL .plan e 5 2) (gL .lrow e 5 3) (gL .time e 5 4) (gL .row e 5 5) (gI e 6 0) (gL .row e 7 0) (gI e 10 0) (gI e 10 1) (gL .plan e 10 2) (gL .lrow e 10 3) (gL .time e 10 4) (gL .row e 10 5) (gI e 12 0)⟩),([0,1,1,1,1,1,1,1,1],λe=>⟨qaI (gI e 6 0) (gL .row e 7 0) (gI e 10 0) (gI e 10 1) (gL .plan e 10 2) (gL .lrow e 10 3) (gL .time e 10 4) (gL .row e 10 5) (gI e 12 0) (gI e 13 0) (gI e 13 1) (gL .plan e 13 2) (gL .lrow e 13 3) (gL .time e 13 4) (gL .row e 13 5) (gB e 14 0)⟩)] ⟨λ_=>⟨rfl,DaI G⟩,λ_=>⟨rfl,EaI G⟩,trivial⟩ [(0,[0,1]),(1,[0,1,24]),(2,[4]),(3,[1,5,6,7]),(4,[1,5,6,7,8,9]),(5,[1,5,6,7,8,9,10,11]),(6,[1,5,6,7,8,9,10,11,57]),(7,[4]),(8,[5,6,7,10,12]),(11,[4])] (laI x y)
def taI(x:LB)(y:LB):Bool:=ocR (raI x y)
def uaI(x:LB)(y:LB):Prop:=saI x y
def zaI:Spec:=⟨[(.lst .byte),(.lst .byte)],.one .fr .bool,false,λx=>(taI x.1 x.2.1,0),λx=>uaI x.1 x.2.1⟩
theorem HaI(G:Gd maI):Con Tryz.prog 7 zaI:=va (pts:=[(.lst .byte),(.lst .byte)]) (F:=F7) G λ_ _=>GaI G
end
end Go.Proofs.YtiiidenbemkihaaGreat

namespace Go.Proofs.YtiiidenbemkihaaGreat
namespace Ds
open Go
set_option maxRecDepth 100000
section
variable {P:Program}{tt:TT}{N:NP}{fr:Fr}{Cd:Code}{F:Fnn}{R A X Y Z:Type}
end
noncomputable def CI:Code:=Od Tryz.f63
theorem conI(G:Gd Uu):Aw Tryz.prog 63 xV yV:=by
 refine⟨⟨Tryz.f63,by kernel_rfl,by kernel_rfl,by kernel_rfl⟩,λy hy W0 F0 us hl hus=>?_⟩;have hargs:ze F0 W0 [.st .sess] (y,()) [.agg us.toArray] none:=⟨_,[],rfl,⟨us,rfl,hus⟩,rfl,rfl⟩;refine calls_of_wp (fn:=Tryz.f63) (c:=CI) (by kernel_rfl) (by kernel_rfl) ?_;have hs:=sX (nt:=(Tryz.f63).ntmps) [] hl hargs (Nat.le_of_ble_eq_true (by kernel_rfl));obtain⟨⟨q1,q2,q3,_⟩,h3,_⟩:=(show(II y).ob from hy)
 obtain⟨l,hl2⟩ : ∃l,pae y.Plan.Kind y.Plan.Num y.Plan.Kids y.Ins y.Front y.Told (oV (Plan.mk y.Plan.Kind y.Plan.Num y.Plan.Kids)).Kind (oV (Plan.mk y.Plan.Kind y.Plan.Num y.Plan.Kids)).Num (oV (Plan.mk y.Plan.Kind y.Plan.Num y.Plan.Kids)).Kids (zI y.Front) (Am y.Told)=.n l:=by
  obtain⟨h4,_⟩:=h3
  have h5:=Eaf (G:=λr=>∃l,r=Oc.x l) h4 (λs r hr=>by
   obtain⟨s1,s2⟩:=s
   revert hr
   simp only[un,Vu,Tr.val];cases cmp .lss s2 (ba .lrow y.Ins) with
   |true=>intro hr;cases hr
   |false=>intro hr;cases hr;exact⟨_,rfl⟩)
  obtain⟨l,h5⟩:=h5;refine⟨l,?_⟩;have h6:nae (oV (Plan.mk y.Plan.Kind y.Plan.Num y.Plan.Kids)).Kind (oV (Plan.mk y.Plan.Kind y.Plan.Num y.Plan.Kids)).Num (oV (Plan.mk y.Plan.Kind y.Plan.Num y.Plan.Kids)).Kids (zI y.Front) (Am y.Told) y.Ins (ba .lrow y.Ins)=.x l:=h5;simp only[pae,FI,DI,lpS,Tr.val,h6]
 have hv:xV y=⟨⟨(oV (Plan.mk y.Plan.Kind y.Plan.Num y.Plan.Kids)).Kind,(oV (Plan.mk y.Plan.Kind y.Plan.Num y.Plan.Kids)).Num,(oV (Plan.mk y.Plan.Kind y.Plan.Num y.Plan.Kids)).Kids⟩,l,zI y.Front,Am y.Told⟩:=by
  simp only[xV,vV,II,GI,Tr.val,hl2,ocR]
 have hms:=MS.of hs rfl;refine ra (c1:=nav CI [0]) (c2:=nav CI [1]) (by kernel_rfl) ?_;refine MS.regC G (keep:=[1,2]) (e':=[(1,boxS y),(2,zo)]) (ps:=[]) (by kernel_rfl) trivial hms (λa w hs=>?_);show(nav CI [1]).wp _ _ a w;refine ra (c1:=nav CI [1,0]) (c2:=nav CI [1,1]) (by kernel_rfl) ?_
 refine MS.regC G (keep:=[1,2,3]) (e':=[(1,boxS y),(2,zo),(3,.box [(.fr,.i (oV (Plan.mk y.Plan.Kind y.Plan.Num y.Plan.Kids)).Kind),(.fr,.i (oV (Plan.mk y.Plan.Kind y.Plan.Num y.Plan.Kids)).Num),(.sh,.lst .plan (oV (Plan.mk y.Plan.Kind y.Plan.Num y.Plan.Kids)).Kids),(.sh,.nl .lrow),(.sh,.lst .time (zI y.Front)),(.sh,.lst .row (Am y.Told))])])
  (ps:=[pV (Plan.mk y.Plan.Kind y.Plan.Num y.Plan.Kids),AI y.Front,Bm y.Told]) (by kernel_rfl) ⟨q1,q2,q3,trivial⟩ hs (λa w hs=>?_)
 show(nav CI [1,1]).wp _ _ a w;refine ra (c1:=nav CI [1,1,0]) (c2:=nav CI [1,1,1]) (by kernel_rfl) ?_;refine go (fr:=⟨W0.heap.size,[],W0,F0⟩) (lav G) h3 hl2 (by kernel_rfl) hs.to (λa w hs=>?_);show(nav CI [1,1,1]).wp _ _ a w
 refine Bah G.htt (t:=30) (d:=(lk tt 30).get (by kernel_rfl)) (X:=3) (R:=2) (d0:=31) (fn:=Tryz.f63) (c:=nav CI [1,1,1]) (c1:=nav CI [1,1,1,0]) (c2:=nav CI [1,1,1,1]) (o0:=opN (opsOf (nav CI [1,1,1,0])) 0) (o1:=opN (opsOf (nav CI [1,1,1,0])) 1)
  (by kernel_rfl) (by kernel_rfl) (by kernel_rfl) (by kernel_rfl) (by decide) (by decide) (by decide) (by kernel_rfl) (by kernel_rfl) (by kernel_rfl) (by kernel_rfl) (by kernel_rfl) (by kernel_rfl) (by kernel_rfl) (by kernel_rfl) (by kernel_rfl) (by kernel_rfl) (by kernel_rfl) (by kernel_rfl)
  (y:=xV y) (by rw[hv];exact hs) (by rw[hs.tmps.size];exact Nat.lt_of_succ_le (Nat.le_of_ble_eq_true (by kernel_rfl))) (λa w hd ⟨vs,F',ob,r1,r2,r3,r4,r5⟩=>⟨hd,_,r1,vs,F',ob,rfl,r2,r3,r4,r5⟩)
end Ds
end Go.Proofs.YtiiidenbemkihaaGreat

namespace Go.Proofs.YtiiidenbemkihaaGreat
open Go
theorem AaI(xs:List Row):chR (Pa xs)=tc (chR xs):=by
 unfold Pa
 have:∀m:MP,(∀p∈m,∃x∈xs,p.1=rK x)->chR (m.map mkR)=m:=by
  intro m
  induction m with
  |nil=>exact λ_=>rfl
  |cons p m ih=>
   intro h;obtain⟨x,_,e⟩:=h p (by simp);show(rK (mkR p),(mkR p).Diff)::chR (m.map mkR)=_;rw[ih λq hq=>h q (by simp[hq])];obtain⟨k,d⟩:=p;have e:k=rK x:=e;subst e;rfl
 exact this _ λp hp=>Mah hp
end Go.Proofs.YtiiidenbemkihaaGreat

namespace Go.Proofs.YtiiidenbemkihaaGreat
open Go
theorem BaI{a:List Row}(h:∀x∈a,InR x.Diff):∀q∈chR a,InR q.2:=λq hq=>by
 obtain⟨x,hx,rfl⟩:=List.mem_map.1 hq;exact h x hx
theorem CaI{a:List Row}(h:∀x∈a,InR x.Diff)(k:List Int):Eqm (sumT (chR (Pa a)) k) (sumT (chR a) k):=by
 rw[AaI,RL,RL];exact Sah (Lo a) (BaI h) _
end Go.Proofs.YtiiidenbemkihaaGreat

namespace Go.Proofs.YtiiidenbemkihaaGreat
open Go
section
variable {P:Program}{K n:Nat}
variable {T E:Nat} (M:oaf P T K E n) {w:World}{r:Nat}{S:za} (hr:w.heap[r]? = some (Sa S)) (hm:ic n S) {ks:List Int} (hk:ks.length=n)
include M hr hm hk
end
end Go.Proofs.YtiiidenbemkihaaGreat

namespace Go.Proofs.YtiiidenbemkihaaGreat
open Go Tg
section
variable {a:List Row} (hr:Jb a=true) {kind:Int} (hkind:1<=kind/\kind<=3)
include hr hkind
end
end Go.Proofs.YtiiidenbemkihaaGreat

namespace Go.Proofs.YtiiidenbemkihaaGreat
open Go Tg
def smM:Nat->Plan->Bool
 |0,_=>false
 |d+1,p=>decide (p.Kids.length<=2)&&p.Kids.all (smM d)
theorem jaC{d:Nat}{p:Plan}(h:smM (d+1) p=true):p.Kids.length<=2/\∀x∈p.Kids,smM d x=true:=by
 simp only[smM,Bool.and_eq_true,List.all_eq_true,decide_eq_true_eq]at h;exact h
theorem baB:∀ {d:Nat}{p:Plan},okM d p=true->smM d p=true
 |0,_,h=>by cases h
 |d+1,p,h=>by
  obtain⟨h1,h2⟩:=Mw h;simp only[smM,Bool.and_eq_true,List.all_eq_true,decide_eq_true_eq];exact⟨h1,λx hx=>baB (h2 x hx)⟩
theorem kaC:∀(d n:Nat),d<=n->∀p:Plan,smM d p=true->(ek n).2 p p/\(ek n).1 p p=true:=by
 intro d
 induction d with
 |zero=>intro n _ p h;cases h
 |succ d ih=>
  intro n hn p hp;obtain⟨m,rfl⟩ : ∃m,n=m+1:=⟨n - 1,by omega⟩;obtain⟨hlen,hk⟩:=jaC hp
  have k:ja (λs:Int=>da (Q4 (ek m).1 (ek m).2 p.Kind p.Num p.Kids p.Kind p.Num p.Kids s)) (λs=>Hay (ek m).1 (ek m).2 p.Kind p.Num p.Kids p.Kind p.Num p.Kids s) 0 (.x ()):=by
   refine ja.fold p.Kids (λi (_:Unit)=>(i:Int)) (λ_=>()) rfl (λl x r hx=>?_) ?_
   .obtain⟨hlen2,hrd,hin,hlss⟩:=Oa (t:=.plan) hx;obtain⟨i1,i2⟩:=ih m (by omega) x (hk x (by rw[hx];simp));simp only[Hay,Q4,Gay,Tr.val,Tr.ob,ga,hlss,hrd,Pc,i2,Bool.not_true,Ia (l:=l) (by omega)];exact⟨by simp[hin,i1],rfl⟩
   .have hend:cmp .lss (p.Kids.length:Int) (ba .plan p.Kids)=false:=Ma (t:=.plan);simp only[Hay,Q4,Gay,Tr.val,Tr.ob,ga,hend];exact⟨by simp,rfl⟩
  have a2:EaA (ek m).1 (ek m).2 p.Kind p.Num p.Kids p.Kind p.Num p.Kids=.x ():=k.v;have b2:FaA (ek m).1 (ek m).2 p.Kind p.Num p.Kids p.Kind p.Num p.Kids:=k.t;have hc:cond (cond (cmp .neq p.Kind p.Kind) true (cmp .neq p.Num p.Num)) true (cmp .neq (ba .plan p.Kids) (ba .plan p.Kids))=false:=by simp[Rd]
  simp only[ek,jaz,iaz,haz,gaz,HaA,GaA,faz,eaz,lpS,Tr.val,Tr.ob,hc,a2,ocR];exact⟨by simp[b2],trivial⟩
theorem laC{p:Plan}(h:smM 4 p=true):Yaz p p/\Xaz p p=true:=kaC 4 Pb (by decide) p h
theorem maC{s:Sess}(hs:Sm s)(i:Int){rows:List Row}(hr:rows.length<=1000):Kaz s i rows/\Jaz s i rows=MV (inS s i rows):=by
 have h1:=hs.ins;have h2:=hs.each;have h3:=hs.front;have h4:=hs.told;obtain⟨o1,o2⟩:=kay hs;obtain⟨b1,b2⟩:=sZ rows (by omega)
 have k2:ja (λj:Int=>da (Day i rows s.Plan.Kind s.Plan.Num s.Plan.Kids s.Ins s.Front s.Told (ba .row rows) j)) (λj=>Uay i rows s.Plan.Kind s.Plan.Num s.Plan.Kids s.Ins s.Front s.Told (ba .row rows) j) 0 (if ub (λ_ x=>!Ib s.Front x.At) none rows=true then .x () else .r (gv,(false,()))):=by
  refine ja.scan rows _ (λl x r hx=>?_) ?_
  .obtain⟨hlen,hrd,hin,hlss⟩:=Oa (t:=.row) hx;obtain⟨y1,y2⟩:=Eaw s.Front x.At (by omega);simp only[Uay,Day,Tay,Tr.val,Tr.ob,ga,hlss,hrd,y2,Ia (l:=l) (by omega)];refine⟨by simp[hin,y1],?_⟩;cases Ib s.Front x.At<;>rfl
  .have hend:cmp .lss (rows.length:Int) (ba .row rows)=false:=Ma (t:=.row);simp only[Uay,Day,Tay,Tr.val,Tr.ob,ga,hend];exact⟨by simp,rfl⟩
 rw[rg]at k2;have a2:PaA i rows s.Plan.Kind s.Plan.Num s.Plan.Kids s.Ins s.Front s.Told (ba .row rows)=_:=k2.v;have d2:QaA i rows s.Plan.Kind s.Plan.Num s.Plan.Kids s.Ins s.Front s.Told (ba .row rows):=k2.t
 have hci:cond (cond (!true) true (cmp .lss i 0)) true (cmp .geq i 2)=!decide (0<=i/\i<2):=by
  rw[bc,Ng,Bool.eq_iff_iff];by_cases hA:i<0<;>simp[hA]<;>omega
 simp only[Kaz,Jaz,yaA,xaA,Iaz,Daz,SaA,RaA,Caz,Baz,Faz,UaA,TaA,Eaz,Haz,WaA,VaA,Gaz,lpS,Tr.val,Tr.ob,ga,Vae,o2,b2,a2,inS];cases hok:pd s with
 |false=>exact⟨by simp[o1],rfl⟩
 |true=>
  rw[hci];by_cases hi:0<=i/\i<2
  .have hdi:decide (0<=i/\i<2)=true:=by simp[hi]
   have k:=Oaw (rows:=rows) hok hi;rw[hdi];cases hb:Ga rows with
   |false=>exact⟨by simp[o1,b1],rfl⟩
   |true=>
    have hrr:=oe hb;obtain⟨c1,c2⟩:=nay hs k.plan;have hra:=oe (k.each _ k.at');obtain⟨bi,bl⟩:=Paw hra hrr;obtain⟨t1,t2⟩:=Eai (a:=rd .lrow s.Ins i) (b:=rows) (by have:=(gb hra).1;omega) (by omega);obtain⟨v1,v2⟩:=Wo (xs:=rd .lrow s.Ins i++rows) (by rw[List.length_append];have:=(gb hra).1;omega) bi;obtain⟨w1,w2⟩:=kay (hs.setIn i (b:=Pa (rd .lrow s.Ins i++rows)) (by omega));have w1':pI (Sess.mk (Plan.mk s.Plan.Kind s.Plan.Num s.Plan.Kids) (List.set s.Ins (Int.toNat i) (Pa (rd .lrow s.Ins i++rows))) s.Front s.Told):=w1;have w2':oI (Sess.mk (Plan.mk s.Plan.Kind s.Plan.Num s.Plan.Kids) (List.set s.Ins (Int.toNat i) (Pa (rd .lrow s.Ins i++rows))) s.Front s.Told)=pd (setIn s i (Pa (rd .lrow s.Ins i++rows))):=w2;simp only[c2,t2,v2];cases (rows.all λx=>Ib s.Front x.At) with
    |false=>exact⟨by simp[o1,b1,d2],rfl⟩
    |true=>
     cases hg:Ga (Pa (rd .lrow s.Ins i++rows)) with
     |false=>exact⟨by simp[o1,b1,d2,c1,k.inb,t1,v1],by simp[ocR,MV,gv]⟩
     |true=>
      simp only[if_true,w2'];cases hw:pd (setIn s i (Pa (rd .lrow s.Ins i++rows))) with
      |false=>exact⟨by simp[o1,b1,d2,c1,k.inb,t1,v1,w1'],by simp[ocR,MV,gv]⟩
      |true=>exact⟨by simp[o1,b1,d2,c1,k.inb,t1,v1,w1'],by simp[ocR,MV,setIn,Pc]⟩
  .have hdi:decide (0<=i/\i<2)=false:=by simpa using hi
   rw[hdi];exact⟨by simp[o1],rfl⟩
end Go.Proofs.YtiiidenbemkihaaGreat

namespace Go.Proofs.YtiiidenbemkihaaGreat
open Go Tg
theorem naC{c:List Int}(hc:∀x∈c,0<=x/\x<=255):Aaz c/\∃s i rows,zaz c=(s,i,rows,())/\Sm s/\rows.length<=8/\Ga rows=true:=by
 obtain⟨o1,b,o2,hb⟩:=eay hc;obtain⟨s1,s2,s3,s4⟩:=oay hb;generalize hv:Zs (b,0)=sv at s2 s3 s4;obtain⟨s,q⟩:=sv;simp only[]at s2 s3 s4;obtain⟨x1,x2,_,_⟩:=Hb hb (p:=q) (n:=2) (by omega) (by omega);obtain⟨y1,y2,_,_⟩:=Hb hb (p:=q+1) (n:=24) (by omega) (by omega);obtain⟨z1,z2,z3,z4⟩:=Hb hb (p:=q+1+1) (n:=2) (by omega) (by omega);have hin:∀u v:Int,inb (la (b,q+1+1) 2).1 (ba .int [u,v]):=λu v=>⟨z3,z4⟩;have hfr:=s4.front
 have k1:∀k m l n,qaA b (q+1) k m l s.Ins s.Front s.Told n/\∃q' n',paA b (q+1) k m l s.Ins s.Front s.Told n=.n (q',n')/\q+2<=q'/\q'<=q+3:=λk m l n=>by
  simp only[qaA,paA,uaz,Tr.val,Tr.ob,ga,y2,z2];cases cmp .eql (la (b,q+1) 24).1 0 with
  |true=>exact⟨by simp[y1,z1,hin],_,_,rfl,by omega,by omega⟩
  |false=>exact⟨by simp[y1],_,_,rfl,by omega,by omega⟩
 have k2:∀r k m l n a,0<=r/\r<=1000->a.length<=8->Ga a=true->saA b r k m l s.Ins s.Front s.Told n a/\∃a',raA b r k m l s.Ins s.Front s.Told n a=.n a'/\a'.length<=8/\Ga a'=true:=λr k m l n a hr ha hba=>by
  obtain⟨u1,u2,_,_⟩:=Hb hb (p:=r) (n:=6) (by omega) (by omega);obtain⟨w1,w2,w3,w4,w5⟩:=dax hb (p:=r+1) (by omega) ha (bax hba) (f:=s.Front) hfr;simp only[saA,raA,waz,Tr.val,Tr.ob,ga,u2];cases cmp .gtr (la (b,r) 6).1 0 with
  |true=>exact⟨by simp[u1,w1],_,rfl,w4,w5⟩
  |false=>exact⟨by simp[u1],_,rfl,ha,hba⟩
 obtain⟨c1,q',n',c2,c3,c4⟩:=k1 s.Plan.Kind s.Plan.Num s.Plan.Kids (la (b,q) 2).1;obtain⟨b1,b2,b3,b4,b5⟩:=cax hb (p:=q') (m:=4) (by omega) (by omega);obtain⟨d1,a',d2,d3,d4⟩:=k2 (Qb (b,q') 4).2 s.Plan.Kind s.Plan.Num s.Plan.Kids n' (Qb (b,q') 4).1 (by omega) b4 b5;simp only[Aaz,zaz,uaA,taA,yaz,vaz,xaz,Tr.val,Tr.ob,ga,o2,hv,x2,c2,d2,ocR];refine⟨by simp[o1,s1,x1,c1,b1,d1],s,n',a',?_,s4,d3,d4⟩;rw[Vae]
end Go.Proofs.YtiiidenbemkihaaGreat

namespace Go.Proofs.YtiiidenbemkihaaGreat
open Go Tg
theorem oaC{x y:Time}(h1:x.A=y.A)(h2:x.B=y.B):x=y:=by
 obtain⟨a,b⟩:=x;obtain⟨c,d⟩:=y;simp only at h1 h2;subst h1;subst h2;rfl
theorem caB(x y:Time):(cmp .eql x.A y.A&&(cmp .eql x.B y.B&&true))=true↔x=y:=by
 rw[Bb,Bb];simp only[Bool.and_eq_true,decide_eq_true_eq,and_true];constructor
 .rintro⟨h1,h2⟩;exact oaC h1 h2
 .rintro rfl;exact⟨rfl,rfl⟩
theorem paC(a b:List Time)(hl:a.length<1000000000):DP a b/\(DA a b=true↔a=b):=by
 by_cases hlen:a.length=b.length
 .obtain⟨q,h1,h2⟩:=ja.two (step:=λs:Int=>da (zay a b s)) (ob:=λs=>Nay a b s) hlen (no:=.r false) (yes:=.x ())
   (λi x y hx hy=>by
     obtain⟨u1,u2⟩:=XI (t:=.time) hx;obtain⟨v1,v2⟩:=XI (t:=.time) hy;have hlt:=(List.getElem?_eq_some_iff.1 hx).1;have hlss:cmp .lss (i:Int) (ba .time a)=true:=by rw[bc];unfold ba;simp;omega
     have hs:ar .add .i64 (i:Int) 1=((i+1:Nat):Int):=by rw[cc (by omega)];omega
     simp only[Nay,zay,May,Tr.val,Tr.ob,ga,hlss,u1,v1,hs];refine⟨by simp[u2,v2],?_⟩;by_cases he:x=y
     .rw[(caB x y).2 he];exact .inl ⟨he,rfl⟩
     .rw[show(cmp .eql x.A y.A&&(cmp .eql x.B y.B&&true))=false by rw[<-Bool.not_eq_true,caB];exact he];exact .inr ⟨he,rfl⟩)
   (by
     have hend:cmp .lss (a.length:Int) (ba .time a)=false:=Ma (t:=.time);simp only[Nay,zay,May,Tr.val,Tr.ob,ga,hend];exact⟨by simp,rfl⟩)
  have b2:NaA a b:=h1.t
  have hn:cmp .neq (ba .time a) (ba .time b)=false:=by
   show cmp .neq (a.length:Int) (b.length:Int)=false;rw[Rd,hlen];simp
  rcases h2 with⟨rfl,h2⟩|⟨rfl,h2⟩
  .have a2:gaA a b=.x ():=h1.v;simp only[DP,DA,Ray,Qay,iaA,haA,hn,a2,ocR,Bay,Aay,Pay,Oay,lpS,Tr.val,Tr.ob];exact⟨by simp[b2],λ_=>h2,λ_=>trivial⟩
  .have a2:gaA a b=.r false:=h1.v;simp only[DP,DA,Ray,Qay,iaA,haA,hn,a2,ocR,Bay,Aay,Pay,Oay,lpS,Tr.val,Tr.ob];exact⟨by simp[b2],(λh=>by cases h),λh=>absurd h h2⟩
 .have hn:cmp .neq (ba .time a) (ba .time b)=true:=by
   show cmp .neq (a.length:Int) (b.length:Int)=true;rw[Rd];simp;omega
  simp only[DP,DA,Ray,Qay,hn,ocR,Bay,Aay,Tr.val,Tr.ob];exact⟨by simp,(λh=>by cases h),λh=>absurd (by rw[h]) hlen⟩
theorem qaC{f:List Time}(hl:f.length<=1000):DP f f/\DA f f=true:=by
 obtain⟨h1,h2⟩:=paC f f (by omega);exact⟨h1,h2.2 rfl⟩
theorem raC(xs:List (List Row))(h:∀x∈xs,x.length<=1000)(hl:xs.length<=1000):qaz xs xs/\paz xs xs=true:=by
 have k:ja (λs:Int=>da (yay xs xs s)) (λs=>Kay xs xs s) 0 (.x ()):=by
  refine ja.fold xs (λi (_:Unit)=>(i:Int)) (λ_=>()) rfl (λl x r hx=>?_) ?_
  .obtain⟨hlen2,hrd,hin,hlss⟩:=Oa (t:=.lrow) hx;obtain⟨r1,r2⟩:=pay (a:=x) (h x (by rw[hx];simp));simp only[Kay,yay,Jay,Tr.val,Tr.ob,ga,hlss,hrd,r2,Bool.not_true,Ia (l:=l) (by omega)];exact⟨by simp[hin,r1],rfl⟩
  .have hend:cmp .lss (xs.length:Int) (ba .lrow xs)=false:=Ma (t:=.lrow);simp only[Kay,yay,Jay,Tr.val,Tr.ob,ga,hend];exact⟨by simp,rfl⟩
 have a2:JaA xs xs=.x ():=k.v;have b2:KaA xs xs:=k.t;have hc:cmp .neq (ba .lrow xs) (ba .lrow xs)=false:=by simp[Rd]
 simp only[qaz,paz,caA,baA,oaz,naz,MaA,LaA,maz,laz,lpS,Tr.val,Tr.ob,hc,a2,ocR];exact⟨by simp[b2],trivial⟩
theorem daB{s:Sess}(hs:Sm s)(hp:smM 4 s.Plan=true):Q1 s s/\Q0 s s=true:=by
 obtain⟨a1,a2⟩:=laC hp;obtain⟨b1,b2⟩:=raC s.Ins hs.each hs.ins;obtain⟨c1,c2⟩:=qaC hs.front;obtain⟨d1,d2⟩:=pay hs.told;simp only[Q1,Q0,laA,kaA,saz,Tr.val,Tr.ob,ga,Pc,a2,b2,c2,d2,cond_true,ocR];exact⟨by simp[a1,b1,c1,d1],trivial⟩
theorem saC:Sm gv:=⟨Nat.zero_le _,λ_a ha=>(nomatch ha),Nat.zero_le _,Nat.zero_le _⟩
theorem eaB:Q1 gv gv/\Q0 gv gv=true:=daB saC rfl
theorem taC{s:Sess}(h:pd s=true):smM 4 s.Plan=true:=by
 obtain⟨x,hx⟩:=LV.1 h;exact baB (cp hx.flow).ok
theorem JaI{l:List (List Row)}{i:Int}{g:List Row}(h:0<=i/\i<l.length):rd .lrow (l.set i.toNat g) i=g:=by
 unfold rd;rw[List.getD_eq_getElem?_getD,List.getElem?_set_self (by omega)];rfl
theorem uaC{s s':Sess}{i:Int}{rows:List Row}(hs:Sm s)(h:inS s i rows=some s'):Sm s':=by
 obtain⟨_,_,_,_,h5,_,h7⟩:=gax h;rw[h7];exact hs.setIn i (by have:=hax h5;omega)
end Go.Proofs.YtiiidenbemkihaaGreat

namespace Go.Proofs.YtiiidenbemkihaaGreat
open Go Tg
theorem KaI:Sess.mk (Plan.mk gv.Plan.Kind gv.Plan.Num gv.Plan.Kids) gv.Ins gv.Front gv.Told=gv:=rfl
theorem LaI{a u v:List Row}(h:∀x∈a++u,InR x.Diff):Pa (Pa (a++u)++v)=Pa (a++(u++v)):=by
 refine Qah λk=>?_;rw[<-List.append_assoc,Wah,Wah (a++u)];exact(CaI h k).add (Eqm.refl _)
theorem MaI(c e:List Int)(hc:∀x∈c,0<=x/\x<=255)(_he:∀x∈e,0<=x/\x<=255):uaI c e/\taI c e=true:=by
 by_cases hbig:cond (cmp .gtr (ba .byte c) 1048576) true (cmp .gtr (ba .byte e) 1048576)=true
 .simp only[uaI,taI,saI,raI,hbig,ocR,laI,Tr.val,Tr.ob];exact⟨by simp,trivial⟩
 .have hbig:cond (cmp .gtr (ba .byte c) 1048576) true (cmp .gtr (ba .byte e) 1048576)=false:=by simpa using hbig
  obtain⟨d1,s,i,rows,d2,hs,hl,hb⟩:=naC hc;obtain⟨e1,e2⟩:=Qaw hs i (rows:=rows) (by omega);obtain⟨f1,f2⟩:=maC hs i (rows:=rows) (by omega);have hadd:ar .add .i64 (ba .row rows) 1=((rows.length+1:Nat):Int):=by rw[cc (by unfold ba;omega)];unfold ba;omega
  have hne:((rows.length+1:Nat):Int)≠0:=by omega
  have hne2:¬ ((rows.length:Int)+1=0):=by omega
  obtain⟨n,hn⟩ : ∃n,n=e.length % (rows.length+1):=⟨_,rfl⟩
  have hrem:ar .rem .i64 (ba .byte e) ((rows.length+1:Nat):Int)=(n:Int):=by
   rw[Cw,hn];unfold ba;rw[<-Int.ofNat_tmod]
  have hnl:n<=rows.length:=by have:=Nat.mod_lt e.length (show 0<rows.length+1 by omega);omega
  simp only[uaI,taI,saI,raI,laI,oaI,waI,vaI,naI,qaI,yaI,xaI,paI,Tr.val,Tr.ob,ga,hbig,d2,Vae,e2,f2,hadd,hrem];cases h:inS s i rows with
  |none=>simp[MV,d1,e1,f1,eaB.1,eaB.2,ocR]
  |some s'=>
   obtain⟨h1,h2,h3,h4,h5,h6,h7⟩:=gax h;obtain⟨g1,g2⟩:=daB (uaC hs h) (taC h6);have k:=Oaw (rows:=rows) h1 h2;have ht1:List.drop (Int.toNat 0) (List.take (Int.toNat (n:Int)) rows)=rows.take n:=rfl;have ht2:List.drop (Int.toNat (n:Int)) rows=rows.drop n:=rfl;obtain⟨y1,y2⟩:=maC hs i (rows:=rows.take n) (by rw[List.length_take];omega);have hle1:le3 0 (n:Int) (ba .row rows):=by unfold le3 ba;omega
   have hle2:le3 (n:Int) (ba .row rows) (ba .row rows):=by unfold le3 ba;omega
   have hdl:(rows.drop n).length<=1000:=by rw[List.length_drop];omega
   simp only[MV,g2,ht1,ht2,y2];cases hy:inS s i (rows.take n) with
   |none=>
    obtain⟨z1,z2⟩:=maC saC i hdl;simp[d1,e1,f1,g1,y1,z1,hle1,hle2,hne2,KaI,ocR]
   |some y=>
    obtain⟨i1,i2,i3,i4,i5,i6,i7⟩:=gax hy;obtain⟨z1,z2⟩:=maC (uaC hs hy) i hdl;simp only[z2];cases hz:inS y i (rows.drop n) with
    |none=>simp[d1,e1,f1,g1,y1,z1,hle1,hle2,hne2,Vae,z2,hz,MV,ocR]
    |some z=>
     obtain⟨j1,j2,j3,j4,j5,j6,j7⟩:=gax hz
     have hz':z=s':=by
      have hi:∀x∈rd .lrow s.Ins i++rows.take n,InR x.Diff:=λx hx=>by
       rcases List.mem_append.1 hx with hx|hx
       .exact bax (k.each _ k.at') x hx
       .exact bax h3 x (List.mem_of_mem_take hx)
      have hlen:=k.len;rw[j7,h7,i7];show setIn (setIn s i (Pa (rd .lrow s.Ins i++rows.take n))) i (Pa (rd .lrow (s.Ins.set i.toNat (Pa (rd .lrow s.Ins i++rows.take n))) i++rows.drop n))=_;rw[JaI (by rw[hlen];omega),LaI hi,List.take_append_drop];unfold setIn;simp only[List.set_set]
     subst hz';simp only[ocR];simp[d1,e1,f1,g1,g2,y1,z1,hle1,hle2,hne2,Vae,z2,hz,MV]
end Go.Proofs.YtiiidenbemkihaaGreat

namespace Go.Proofs.YtiiidenbemkihaaGreat
open Go
theorem baC:Aw Tryz.prog 63 xV yV:=Ds.conI (.cons Caw (.cons Daw (.cons Pae (.nil na oa))))
theorem aaB:∀n,Con Tryz.prog 73 (caz (ek n).1 (ek n).2)
 |0=>Mi (fn:=Tryz.f73) (c:=Od Tryz.f73) (by kernel_rfl) (by kernel_rfl) (by kernel_rfl) λ_ h=>h
 |n+1=>paB (.cons (aaB n) (.nil na oa))
theorem caC:Con Tryz.prog 73 IaA:=(aaB Pb)
theorem daC:Con Tryz.prog 74 daA:=vaB (.cons jay (.nil na oa))
theorem eaC:Con Tryz.prog 32 jaA:=BaB (.nil na oa)
theorem faC:Con Tryz.prog 31 maA:=GaB (.cons caC (.cons daC (.cons eaC (.cons jay (.nil na oa)))))
theorem gaC:Con Tryz.prog 33 vaA:=LaB (.cons fay (.cons gay (.cons gh (.cons Xav (.cons Yav (.nil na oa))))))
theorem haC:Con Tryz.prog 35 zaA:=TaB ⟨.cons hay (.cons Oae (.cons zaw (.cons iay (.cons kaw (.cons VI (.nil na oa)))))),baC⟩
theorem IaI:Con Tryz.prog 7 zaI:=HaI (.cons gaC (.cons Zav (.cons haC (.cons faC (.nil na oa)))))
end Go.Proofs.YtiiidenbemkihaaGreat
