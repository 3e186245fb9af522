/-
  How the abstract state follows the machine's: what a new value, or more memory, leaves as it was. Each operation's run, as the abstract evaluator tells it: those that make no memory. Each operation's run, as the abstract evaluator tells it: addresses, loads, indices. Each operation's run, as the abstract evaluator tells it: indices, slices, lengths, conversions. Each operation's run, as the abstract evaluator tells it: those that make memory. Each operation's run, as the abstract evaluator tells it: all but the calls, in one theorem. Contracts of functions, and a call by a contract. One operation, whichever it is, as the machine runs it. One operation of the simple kind moves the abstract state as the evaluator tells it. One operation of the simple kind, guards and all. Rights that go from slot to slot. 'append': in place, or into a new block. No statement is proved here.
-/
import Derived.Test.YtiiidenbemkihaaGreatB3
import Derived.Laws.IdiomCopy
import Derived.Laws.AppendOwn
import Derived.Laws.MakeOwn
import Derived.Laws.StructEq
import Derived.Laws.Slices
import Derived.Tactics
import Derived.Test.YtiiidenbemkihaaGreatProg
import Derived.Shelf.SlSortFuncK.WholeK
import Derived.Shelf.GgSortFunc.Tiny
import Derived.Tactics2
import Derived.IntWalk

namespace Go.Proofs.YtiiidenbemkihaaGreat
open Go
section
variable {F F':Fz}{w w':World} (hg:Ta F w F' w') (hl:Live F w)
include hg hl
end
end Go.Proofs.YtiiidenbemkihaaGreat

namespace Go.Proofs.YtiiidenbemkihaaGreat
open Go
section
variable {P:Program}{F:Fz}{B:Nat}{w:World}{a:Act}{ge g:Get}{ow:Nat->Option Nat->Option Nat}
end
end Go.Proofs.YtiiidenbemkihaaGreat

namespace Go.Proofs.YtiiidenbemkihaaGreat
open Go
section
variable {P:Program}{w:World}
variable {F:Fz}{B:Nat}{a:Act}{ge g:Get}{ow:Nat->Option Nat->Option Nat}
end
end Go.Proofs.YtiiidenbemkihaaGreat

namespace Go.Proofs.YtiiidenbemkihaaGreat
open Go
section
variable {P:Program}{tt:TT} (htt:Xb P tt)
include htt
end
section
variable {P:Program}{w:World}{F:Fz}{B:Nat}
variable {a:Act}{ge g:Get}{ow:Nat->Option Nat->Option Nat}
end
end Go.Proofs.YtiiidenbemkihaaGreat

namespace Go.Proofs.YtiiidenbemkihaaGreat
open Go
section
variable {P:Program}{w:World}{F:Fz}{B:Nat}
variable {a:Act}{ge g:Get}{ow:Nat->Option Nat->Option Nat}
end
end Go.Proofs.YtiiidenbemkihaaGreat

namespace Go.Proofs.YtiiidenbemkihaaGreat
open Go
section
variable {P:Program}{w:World}{F:Fz}{B:Nat}{a:Act}{ge raw:Get}{ow:Nat->Option Nat->Option Nat}
end
end Go.Proofs.YtiiidenbemkihaaGreat

namespace Go.Proofs.YtiiidenbemkihaaGreat
open Go
section
variable {P:Program}{w:World}{F:Fz}{B:Nat}{a:Act}{ge g:Get}{ow:Nat->Option Nat->Option Nat}
end
end Go.Proofs.YtiiidenbemkihaaGreat

namespace Go.Proofs.YtiiidenbemkihaaGreat
open Go
section
variable {P:Program}{w:World}{F:Fz}{B:Nat}{a:Act}{ge raw:Get}{ow:Nat->Option Nat->Option Nat}
end
end Go.Proofs.YtiiidenbemkihaaGreat

namespace Go.Proofs.YtiiidenbemkihaaGreat
open Go
section
variable {w w1:World}{F:Fz}{B:Nat}{b:Nat} (hp:Pk w b w1) (hF:Le F w w1)
include hp hF
end
end Go.Proofs.YtiiidenbemkihaaGreat

namespace Go.Proofs.YtiiidenbemkihaaGreat
open Go
section
variable {P:Program}{tt:TT} (htt:Xb P tt) {sp:SP} (hsp:∀f s,spk sp f=some s->Con P f s)
include htt hsp
end
end Go.Proofs.YtiiidenbemkihaaGreat

namespace Go.Proofs.YtiiidenbemkihaaGreat
open Go
section
variable {B:Nat}{IoB:List Nat}{F0 F:Fz}{e:Env}{tm:Nat->Value}{w:World}{ow:Nat->Option Nat->Option Nat}
end
section
variable {P:Program}
end
end Go.Proofs.YtiiidenbemkihaaGreat

namespace Go.Proofs.YtiiidenbemkihaaGreat
open Go
section
variable {B:Nat}{IoB:List Nat}{F0 F:Fz}{e:Env}{tm:Nat->Value}{w:World}{ow:Nat->Option Nat->Option Nat}
end
section
variable {P:Program}{B:Nat}{IoB:List Nat}{F0 F:Fz}{e:Env}{tm:Nat->Value}{w:World}{ow:Nat->Option Nat->Option Nat}
end
end Go.Proofs.YtiiidenbemkihaaGreat

namespace Go.Proofs.YtiiidenbemkihaaGreat
open Go
section
variable {B:Nat}{IoB:List Nat}{F0 F:Fz}{e:Env}{tm:Nat->Value}{w:World}{ow:Nat->Option Nat->Option Nat}
end
section
variable {P:Program}{B:Nat}{IoB:List Nat}{F0 F:Fz}{e:Env}{w:World}{ow:Nat->Option Nat->Option Nat}{a:Act}
end
end Go.Proofs.YtiiidenbemkihaaGreat

namespace Go.Proofs.YtiiidenbemkihaaGreat
open Go
section
variable {P:Program}
variable {B:Nat}{IoB:List Nat}{F0 F:Fz}{e:Env}{w:World}{ow:Nat->Option Nat->Option Nat}{a:Act}
end
end Go.Proofs.YtiiidenbemkihaaGreat

namespace Go.Proofs.YtiiidenbemkihaaGreat
open Go
section
variable {P:Program}{tt:TT}{B:Nat}{IoB:List Nat}{F0 F:Fz}{e:Env}{w:World}{ow:Nat->Option Nat->Option Nat}{a:Act}
variable {sp:SP}
end
end Go.Proofs.YtiiidenbemkihaaGreat

namespace Go.Proofs.YtiiidenbemkihaaGreat
open Go
section
variable {E:Nat->Env}{W:Nat->List Nat}{L:Nat->Bool}
end
end Go.Proofs.YtiiidenbemkihaaGreat

namespace Go.Proofs.YtiiidenbemkihaaGreat
open Go
section
variable {P:Program}{tt:TT}{sp:SP}{B:Nat}{IoB:List Nat}{F0:Fz}{N:NP}{W0:World}
end
end Go.Proofs.YtiiidenbemkihaaGreat

namespace Go.Proofs.YtiiidenbemkihaaGreat
open Go
section
variable {B:Nat}{IoB:List Nat}{F0 F:Fz}{e:Env}{tm:Nat->Value}{w:World}{ow:Nat->Option Nat->Option Nat}
end
section
variable {P:Program}{tt:TT}{sp:SP}{B:Nat}{IoB:List Nat}{F0:Fz}{N:NP}{W0:World}
end
end Go.Proofs.YtiiidenbemkihaaGreat

namespace Go.Proofs.YtiiidenbemkihaaGreat
open Go
section
variable {P:Program}{tt:TT}{sp:SP}{N:NP}{fr:Fr}{c:Code}{e:Env}{n r:Env->Prop}{x:Nat->Env->Prop}
end
open Classical in
section
variable {P:Program}{N:NP}{fr:Fr}{c:Code}{n r:Env->Prop}{x:Nat->Env->Prop}
end
end Go.Proofs.YtiiidenbemkihaaGreat

namespace Go.Proofs.YtiiidenbemkihaaGreat
open Go
section
variable {P:Program}{tt:TT}{N:NP}{fr:Fr}{c:Code}{e:Env}{n r:Env->Prop}{x:Nat->Env->Prop}
end
section
variable {P:Program}{N:NP}{fr:Fr}{c:Code}{e:Env}{n r:Env->Prop}{x:Nat->Env->Prop}
end
end Go.Proofs.YtiiidenbemkihaaGreat

namespace Go.Proofs.YtiiidenbemkihaaGreat
open Go
section
variable {P:Program}{tt:TT}{B:Nat}{IoB:List Nat}{F0 F:Fz}{e:Env}{w:World}{ow:Nat->Option Nat->Option Nat}{a:Act}
end
end Go.Proofs.YtiiidenbemkihaaGreat

namespace Go.Proofs.YtiiidenbemkihaaGreat
open Go
section
variable {P:Program}{tt:TT}{N:NP}{fr:Fr}{c:Code}{e:Env}{n r:Env->Prop}{x:Nat->Env->Prop}
end
end Go.Proofs.YtiiidenbemkihaaGreat

namespace Go.Proofs.YtiiidenbemkihaaGreat
open Go
section
variable {R A X Y Z:Type}
end
section
variable (tt:TT) (sp:SP) (N:NP) (F:Fnn) (kp:List (Nat×List Nat)) (tb:List (Nat×Nat)) (af:List (Nat×Bool×Nat)) {R:Type} (subs:Ki R)
end
section
variable {P:Program}{tt:TT}{sp:SP}{N:NP}{F:Fnn}{kp:List (Nat×List Nat)}{tb:List (Nat×Nat)}{af:List (Nat×Bool×Nat)}{R:Type}{subs:Ki R}{fr:Fr}{C:Code}{n:Env->Prop}{r:RV->Prop}{x:Nat->Env->Prop}
end
end Go.Proofs.YtiiidenbemkihaaGreat

namespace Go.Proofs.YtiiidenbemkihaaGreat
open Go
section
variable {P:Program}
end
end Go.Proofs.YtiiidenbemkihaaGreat

namespace Go.Proofs.YtiiidenbemkihaaGreat
open Go
section
variable {w w':World}{F:Fz}{r:Nat}{B:Nat} (hp:Pk w r w') {o0:Obj} (ho:w.heap[r]? = some o0) (hc:isC o0=false)
include hp ho hc
end
section
variable {P:Program}{N:NP}{B:Nat}{IoB:List Nat}{W0:World}{F0:Fz}{obs:List (Nat×Obj)}{e:Env}{a:Act}{w:World}
end
section
variable {P:Program}{ops:Array Oper}{Q:Exit->Act->World->Prop}
end
end Go.Proofs.YtiiidenbemkihaaGreat

namespace Go.Proofs.YtiiidenbemkihaaGreat
open Go
section
variable {P:Program}{K n:Nat}
variable {T E:Nat} (M:JK P T K E n) {w:World}{r:Nat}{m:MP} (hr:w.heap[r]? = some (xa m)) (hm:Gb n m) {ks:List Int} (hk:ks.length=n)
include M hr
include hm hk
omit hm hk in
end
section
variable {P:Program}{w:World}{r it:Nat}{m:MP} (hr:w.heap[r]? = some (xa m)) {S:List Nat} (hit:w.heap[it]? = some (Cb r m S))
include hr hit
end
end Go.Proofs.YtiiidenbemkihaaGreat

namespace Go.Proofs.YtiiidenbemkihaaGreat
open Go
section
variable {P:Program}
end
end Go.Proofs.YtiiidenbemkihaaGreat

namespace Go.Proofs.YtiiidenbemkihaaGreat
open Go
section
variable {P:Program}{a:Act}{w:World}{o:Oper}
end
end Go.Proofs.YtiiidenbemkihaaGreat

namespace Go.Proofs.YtiiidenbemkihaaGreat
open Go
section
variable {P:Program}{N:NP}{B:Nat}{IoB:List Nat}{W0:World}{F0:Fz}{obs:List (Nat×Obj)}{e:Env}{a:Act}{w:World}{Q:Exit->Act->World->Prop}
end
end Go.Proofs.YtiiidenbemkihaaGreat

namespace Go.Proofs.YtiiidenbemkihaaGreat
open Go
section
variable {P:Program}{tt:TT}{sp:SP}{B:Nat}{IoB:List Nat}{F0:Fz}{N:NP}{W0:World}
end
end Go.Proofs.YtiiidenbemkihaaGreat

namespace Go.Proofs.YtiiidenbemkihaaGreat
open Go
section
variable {P:Program}{N:NP}{B:Nat}{IoB:List Nat}{W0:World}{F0:Fz}{obs:List (Nat×Obj)}{e:Env}{a:Act}{w:World}
end
end Go.Proofs.YtiiidenbemkihaaGreat

namespace Go.Proofs.YtiiidenbemkihaaGreat
open Go
section
variable {P:Program}{tt:TT}{N:NP}{sp:SP}{fr:Fr}{C:Code}{F:Fnn}{R:Type}
end
section
variable {P:Program}{tt:TT}{sp:SP}
end
end Go.Proofs.YtiiidenbemkihaaGreat

namespace Go.Proofs.YtiiidenbemkihaaGreat
open Go
section
variable {N:NP}{B:Nat}{IoB:List Nat}{W0:World}{F0:Fz}{obs:List (Nat×Obj)}{e:Env}{a:Act}{w:World}
end
end Go.Proofs.YtiiidenbemkihaaGreat

namespace Go.Proofs.YtiiidenbemkihaaGreat
open Go
section
variable {F:Fz}{B:Nat}{w w1:World}{b:Nat}{o:Option Nat->Option Nat}
end
end Go.Proofs.YtiiidenbemkihaaGreat

namespace Go.Proofs.YtiiidenbemkihaaGreat
open Go
section
variable {P:Program}{tt:TT}{sp:SP}{a:Act}{w:World}
end
end Go.Proofs.YtiiidenbemkihaaGreat

namespace Go.Proofs.YtiiidenbemkihaaGreat
open Go
section
variable {P:Program}{tt:TT}{sp:SP}{B:Nat}{IoB:List Nat}{F0:Fz}{N:NP}{W0:World}
end
end Go.Proofs.YtiiidenbemkihaaGreat

namespace Go.Proofs.YtiiidenbemkihaaGreat
open Go Go.Shelf Go.RowKit Go.Lib Go.Sort
section
variable {P:Program}{α:Type} [Inhabited α] {enc:α->List Value}{k:Nat}{w w0 W:World}{blk off:Nat}{d dk X:Array α}
variable {g:Nat}{lb:Array Value}{lt:α->α->Bool}{size:Nat}
end
end Go.Proofs.YtiiidenbemkihaaGreat

namespace Go.Proofs.YtiiidenbemkihaaGreat
open Go Go.Shelf Go.RowKit Go.Lib Go.Sort
variable {P:Program}{ρ:Ren}{α:Type} [Inhabited α]
end Go.Proofs.YtiiidenbemkihaaGreat

namespace Go.Proofs.YtiiidenbemkihaaGreat
open Go Go.Shelf Go.RowKit Go.Lib Go.Sort
variable {P:Program}{ρ:Ren}{α:Type} [Inhabited α]
end Go.Proofs.YtiiidenbemkihaaGreat

namespace Go.Proofs.YtiiidenbemkihaaGreat
open Go Go.Shelf Go.RowKit Go.Lib Go.Sort
variable {P:Program}{ρ:Ren}{α:Type} [Inhabited α]
end Go.Proofs.YtiiidenbemkihaaGreat

namespace Go.Proofs.YtiiidenbemkihaaGreat
open Go Go.Shelf Go.RowKit Go.Lib Go.Sort
variable {P:Program}{ρ:Ren}{α:Type} [Inhabited α]
end Go.Proofs.YtiiidenbemkihaaGreat

namespace Go.Proofs.YtiiidenbemkihaaGreat
open Go Go.Shelf Go.RowKit Go.Lib Go.Sort
variable {P:Program}{ρ:Ren}{α:Type} [Inhabited α]
end Go.Proofs.YtiiidenbemkihaaGreat

namespace Go.Proofs.YtiiidenbemkihaaGreat
open Go Go.Shelf Go.RowKit Go.Lib Go.Sort
variable {P:Program}{ρ:Ren}{α:Type} [Inhabited α]
end Go.Proofs.YtiiidenbemkihaaGreat

namespace Go.Proofs.YtiiidenbemkihaaGreat
open Go Go.Shelf Go.RowKit Go.Lib Go.Sort
variable {P:Program}{ρ:Ren}{α:Type} [Inhabited α]
end Go.Proofs.YtiiidenbemkihaaGreat

namespace Go.Proofs.YtiiidenbemkihaaGreat
open Go
noncomputable section
set_option maxRecDepth 100000
def naA:SP:=[(55,vt),(72,rT),(71,Cm)]
abbrev F30:Fnn:=⟨[.tmp 4],.one .sh (.lst .row),none,[]⟩
abbrev RaA:LR->RV:=rvF F30
abbrev SaA:=@OkF Tryz.prog tt Tryz.f30 F30 LR
def Pay(x y:LR):TN LR:=.w [ut x,((!(!(qt x)))&&true)=true->(ut y)] (.c (cond (!(qt x)) true (!(qt y))) (.l (.r []))
 (.k (DF x y) λz=>.w [EF x y,Zh z] (.l (.r (Qe z).1))))
def Gaz:=λx y=>(Pay x y).val
def Haz:=λx y=>(Pay x y).ob
def TaA:=λx y=>fa.mk (Gaz x y) (Haz x y) [] [(0,.S .row x),(1,.S .row y)] RaA nE nE nE nE
theorem UaA(G:Gd naA){fr x y}:SaA fr (TaA x y):=ma G [(0,[0,1]),(1,[0,1,14]),(2,[4]),(3,[5]),(4,[4])] (Pay x y)
def Qay(x:LR)(y:LR):LR:=ocR (Gaz x y)
def Ray(x:LR)(y:LR):Prop:=Haz x y
def Iaz:Spec:=⟨[(.lst .row),(.lst .row)],.one .sh (.lst .row),false,λx=>(Qay x.1 x.2.1,0),λx=>Ray x.1 x.2.1⟩
theorem VaA(G:Gd naA):Con Tryz.prog 30 Iaz:=va (pts:=[(.lst .row),(.lst .row)]) (F:=F30) G λ_ _=>UaA G
abbrev V73:=Plan->Plan->Bool
abbrev Q73:=Plan->Plan->Prop
def Say(v:V73)(p:Q73):Spec:=⟨[(.st .plan),(.st .plan)],.one .fr .bool,false,λx=>(v x.1 x.2.1,0),λx=>p x.1 x.2.1⟩
def Q4(r73V:V73)(r73P:Q73):SP:=[(73,Say r73V r73P)]
abbrev F73:Fnn:=⟨[.tmp 4],.one .fr .bool,none,[]⟩
abbrev Jaz:Bool->RV:=rvF F73
abbrev Tay:=@OkF Tryz.prog tt Tryz.f73 F73 Bool
def yay(r73V:V73)(r73P:Q73)(_ _:Int)(y:LP)(_ _:Int)(z:LP)(x:Int):TX Bool Int Unit:=.c (cmp .lss x (ba .plan y)) (.w [inb x (ba .plan y),inb x (ba .plan z),r73P (Plan.mk (rd .plan y x).Kind (rd .plan y x).Num (rd .plan y x).Kids) (Plan.mk (rd .plan z x).Kind (rd .plan z x).Num (rd .plan z x).Kids)] (.c (!(r73V (Plan.mk (rd .plan y x).Kind (rd .plan y x).Num (rd .plan y x).Kids) (Plan.mk (rd .plan z x).Kind (rd .plan z x).Num (rd .plan z x).Kids))) (.l (.r false))
 (.l (.n (ar .add .i64 x 1)))))
 (.l (.x ()))
def LaC:=λr73V r73P x y z a b c d=>(yay r73V r73P x y z a b c d).val
def zay:=λr73V r73P x y z a b c d=>(yay r73V r73P x y z a b c d).ob
def Kaz:=λr73V r73P x y z a b c d=>Ba (LaC r73V r73P x y z a b c d) (zay r73V r73P x y z a b c d) [0,0,1,0,1,1] (λq=>[(2,.box [(.fr,.i x),(.fr,.i y),(.sh,.lst .plan z)]),(3,.box [(.fr,.i a),(.fr,.i b),(.sh,.lst .plan c)]),(5,.I q)]) d Jaz (λ_=>(0,[])) nE nE
theorem WaA{r73V:V73}{r73P:Q73}(G:Gd (Q4 r73V r73P)){fr x y z a b c d}:Tay fr (Kaz r73V r73P x y z a b c d):=ma G [(4,[2,3,5,31]),(5,[2,3,5]),(6,[2,3,5,45]),(7,[4])] (yay r73V r73P x y z a b c d)
def oaA:=λr73V r73P x y z a b c=>lpV (λs:Int=>da (LaC r73V r73P x y z a b c s)) 0
def paA:=λr73V r73P x y z a b c=>LpT (λs:Int=>da (LaC r73V r73P x y z a b c s)) (λs=>zay r73V r73P x y z a b c s) 0
def Uay:=λr73V r73P x y z a b c=>lpS (Kaz r73V r73P x y z a b c 0) (oaA r73V r73P x y z a b c) (paA r73V r73P x y z a b c)
theorem XaA{r73V:V73}{r73P:Q73}(G:Gd (Q4 r73V r73P)){fr x y z a b c}:Tay fr (Uay r73V r73P x y z a b c):=Ca (λs:Int=>Kaz r73V r73P x y z a b c s) 0 λ_=>WaA G
def Vay(r73V:V73)(r73P:Q73)(x y:Int)(z:LP)(a b:Int)(c:LP):TA Bool Unit:=.s (Uay r73V r73P x y z a b c) nE (λ_=>.l (.n ())) nE nE
def qaA:=λr73V r73P x y z a b c=>(Vay r73V r73P x y z a b c).val
def raA:=λr73V r73P x y z a b c=>(Vay r73V r73P x y z a b c).ob
def Way:=λr73V r73P x y z a b c=>fa.mk (qaA r73V r73P x y z a b c) (raA r73V r73P x y z a b c) [0,1,1] [(2,.box [(.fr,.i x),(.fr,.i y),(.sh,.lst .plan z)]),(3,.box [(.fr,.i a),(.fr,.i b),(.sh,.lst .plan c)])] Jaz (λ_=>[]) nE nE nE
theorem YaA{r73V:V73}{r73P:Q73}(G:Gd (Q4 r73V r73P)){fr x y z a b c}:Tay fr (Way r73V r73P x y z a b c):=ia G [([0,1,0,1,1],λe=>⟨Uay r73V r73P (gI e 2 0) (gI e 2 1) (gL .plan e 2 2) (gI e 3 0) (gI e 3 1) (gL .plan e 3 2)⟩)] ⟨λ_=>⟨rfl,XaA G⟩,trivial⟩ [(3,[2,3,5])] (Vay r73V r73P x y z a b c)
def Xay(r73V:V73)(r73P:Q73)(x y:Plan):TN Bool:=.c (cond (cond (cmp .neq x.Kind y.Kind) true (cmp .neq x.Num y.Num)) true (cmp .neq (ba .plan x.Kids) (ba .plan y.Kids))) (.l (.r false))
 (.s (Way r73V r73P x.Kind x.Num x.Kids y.Kind y.Num y.Kids) (λ_=>.l (.r true)) nE nE nE)
def Yay:=λr73V r73P x y=>(Xay r73V r73P x y).val
def Zay:=λr73V r73P x y=>(Xay r73V r73P x y).ob
def ZaA:=λr73V r73P x y=>fa.mk (Yay r73V r73P x y) (Zay r73V r73P x y) [] [(0,.agg false [.i x.Kind,.i x.Num,.lst .plan x.Kids]),(1,.agg false [.i y.Kind,.i y.Num,.lst .plan y.Kids])] Jaz nE nE nE nE
theorem aaB{r73V:V73}{r73P:Q73}(G:Gd (Q4 r73V r73P)){fr x y}:Tay fr (ZaA r73V r73P x y):=ia G [([0,1,1],λe=>⟨Way r73V r73P (gI e 2 0) (gI e 2 1) (gL .plan e 2 2) (gI e 3 0) (gI e 3 1) (gL .plan e 3 2)⟩)] ⟨λ_=>⟨rfl,YaA G⟩,trivial⟩ [(0,[2,3]),(1,[2,3,26]),(2,[4]),(8,[4])] (Xay r73V r73P x y)
theorem baB{r73V:V73}{r73P:Q73}(G:Gd (Q4 r73V r73P)):Con Tryz.prog 73 (Say (λx y=>ocR (Yay r73V r73P x y)) (λx y=>Zay r73V r73P x y)):=va (pts:=[(.st .plan),(.st .plan)]) (F:=F73) G λ_ _=>aaB G
def HaC:Nat->V73×Q73
 |0=>(λ_ _=>default,λ_ _=>False)
 |n+1=>(λx y=>ocR (Yay (HaC n).1 (HaC n).2 x y),λx y=>Zay (HaC n).1 (HaC n).2 x y)
def Laz:V73:=(HaC Pb).1
def Maz:Q73:=(HaC Pb).2
def saA:Spec:=Say Laz Maz
def Aay:SP:=[(24,wae)]
abbrev F74:Fnn:=⟨[.tmp 4],.one .fr .bool,none,[]⟩
abbrev Naz:Bool->RV:=rvF F74
abbrev aaz:=@OkF Tryz.prog tt Tryz.f74 F74 Bool
def Bay(y z:List LR)(x:Int):TX Bool Int Unit:=.c (cmp .lss x (ba .lrow y)) (.w [inb x (ba .lrow y),inb x (ba .lrow z),PI (rd .lrow y x) (rd .lrow z x)] (.c (!(MI (rd .lrow y x) (rd .lrow z x))) (.l (.r false))
 (.l (.n (ar .add .i64 x 1)))))
 (.l (.x ()))
def MaC:=λx y z=>(Bay x y z).val
def Cay:=λx y z=>(Bay x y z).ob
def Oaz:=λx y z=>Ba (MaC x y z) (Cay x y z) [0,0,1,0,1,1] (λq=>[(0,.S .lrow x),(1,.S .lrow y),(5,.I q)]) z Naz (λ_=>(0,[])) nE nE
theorem caB(G:Gd Aay){fr x y z}:aaz fr (Oaz x y z):=ma G [(4,[0,1,5,14]),(5,[0,1,5]),(6,[0,1,5,26]),(7,[4])] (Bay x y z)
def taA:=λx y=>lpV (λs:Int=>da (MaC x y s)) 0
def uaA:=λx y=>LpT (λs:Int=>da (MaC x y s)) (λs=>Cay x y s) 0
def baz:=λx y=>lpS (Oaz x y 0) (taA x y) (uaA x y)
theorem daB(G:Gd Aay){fr x y}:aaz fr (baz x y):=Ca (λs:Int=>Oaz x y s) 0 λ_=>caB G
def caz(x y:List LR):TA Bool Unit:=.s (baz x y) nE (λ_=>.l (.n ())) nE nE
def vaA:=λx y=>(caz x y).val
def waA:=λx y=>(caz x y).ob
def daz:=λx y=>fa.mk (vaA x y) (waA x y) [0,1,1] [(0,.S .lrow x),(1,.S .lrow y)] Naz (λ_=>[]) nE nE nE
theorem eaB(G:Gd Aay){fr x y}:aaz fr (daz x y):=ia G [([0,1,0,1,1],λe=>⟨baz (gL .lrow e 0 0) (gL .lrow e 1 0)⟩)] ⟨λ_=>⟨rfl,daB G⟩,trivial⟩ [(3,[0,1,5])] (caz x y)
def eaz(x y:List LR):TN Bool:=.c (cmp .neq (ba .lrow x) (ba .lrow y)) (.l (.r false))
 (.s (daz x y) (λ_=>.l (.r true)) nE nE nE)
def Paz:=λx y=>(eaz x y).val
def Qaz:=λx y=>(eaz x y).ob
def faB:=λx y=>fa.mk (Paz x y) (Qaz x y) [] [(0,.S .lrow x),(1,.S .lrow y)] Naz nE nE nE nE
theorem gaB(G:Gd Aay){fr x y}:aaz fr (faB x y):=ia G [([0,1,1],λe=>⟨daz (gL .lrow e 0 0) (gL .lrow e 1 0)⟩)] ⟨λ_=>⟨rfl,eaB G⟩,trivial⟩ [(0,[0,1]),(1,[0,1,10]),(2,[4]),(8,[4])] (eaz x y)
def faz(x:List LR)(y:List LR):Bool:=ocR (Paz x y)
def gaz(x:List LR)(y:List LR):Prop:=Qaz x y
def Raz:Spec:=⟨[(.lst .lrow),(.lst .lrow)],.one .fr .bool,false,λx=>(faz x.1 x.2.1,0),λx=>gaz x.1 x.2.1⟩
theorem haB(G:Gd Aay):Con Tryz.prog 74 Raz:=va (pts:=[(.lst .lrow),(.lst .lrow)]) (F:=F74) G λ_ _=>gaB G
def Day:SP:=[]
abbrev F32:Fnn:=⟨[.tmp 4],.one .fr .bool,none,[]⟩
abbrev Saz:Bool->RV:=rvF F32
abbrev haz:=@OkF Tryz.prog tt Tryz.f32 F32 Bool
def Eay(y z:List Time)(x:Int):TX Bool Int Unit:=.c (cmp .lss x (ba .time y)) (.w [inb x (ba .time y),inb x (ba .time z)] (.c (!(cmp .eql (rd .time y x).A (rd .time z x).A&&(cmp .eql (rd .time y x).B (rd .time z x).B&&true))) (.l (.r false))
 (.l (.n (ar .add .i64 x 1)))))
 (.l (.x ()))
def ek:=λx y z=>(Eay x y z).val
def Fay:=λx y z=>(Eay x y z).ob
def Taz:=λx y z=>Ba (ek x y z) (Fay x y z) [0,0,1,0,1,1] (λq=>[(0,.S .time x),(1,.S .time y),(5,.I q)]) z Saz (λ_=>(0,[])) nE nE
theorem iaB(G:Gd Day){fr x y z}:haz fr (Taz x y z):=ma G [(4,[0,1,5,14]),(5,[0,1,5]),(6,[0,1,5,25]),(7,[4])] (Eay x y z)
def Uaz:=λx y=>lpV (λs:Int=>da (ek x y s)) 0
def xaA:=λx y=>LpT (λs:Int=>da (ek x y s)) (λs=>Fay x y s) 0
def Gay:=λx y=>lpS (Taz x y 0) (Uaz x y) (xaA x y)
theorem jaB(G:Gd Day){fr x y}:haz fr (Gay x y):=Ca (λs:Int=>Taz x y s) 0 λ_=>iaB G
def Hay(x y:List Time):TA Bool Unit:=.s (Gay x y) nE (λ_=>.l (.n ())) nE nE
def Vaz:=λx y=>(Hay x y).val
def Waz:=λx y=>(Hay x y).ob
def DA:=λx y=>fa.mk (Vaz x y) (Waz x y) [0,1,1] [(0,.S .time x),(1,.S .time y)] Saz (λ_=>[]) nE nE nE
theorem kaB(G:Gd Day){fr x y}:haz fr (DA x y):=ia G [([0,1,0,1,1],λe=>⟨Gay (gL .time e 0 0) (gL .time e 1 0)⟩)] ⟨λ_=>⟨rfl,jaB G⟩,trivial⟩ [(3,[0,1,5])] (Hay x y)
def DP(x y:List Time):TN Bool:=.c (cmp .neq (ba .time x) (ba .time y)) (.l (.r false))
 (.s (DA x y) (λ_=>.l (.r true)) nE nE nE)
def Iay:=λx y=>(DP x y).val
def Jay:=λx y=>(DP x y).ob
def laB:=λx y=>fa.mk (Iay x y) (Jay x y) [] [(0,.S .time x),(1,.S .time y)] Saz nE nE nE nE
theorem maB(G:Gd Day){fr x y}:haz fr (laB x y):=ia G [([0,1,1],λe=>⟨DA (gL .time e 0 0) (gL .time e 1 0)⟩)] ⟨λ_=>⟨rfl,kaB G⟩,trivial⟩ [(0,[0,1]),(1,[0,1,10]),(2,[4]),(8,[4])] (DP x y)
def IaC(x:List Time)(y:List Time):Bool:=ocR (Iay x y)
def JaC(x:List Time)(y:List Time):Prop:=Jay x y
def iaz:Spec:=⟨[(.lst .time),(.lst .time)],.one .fr .bool,false,λx=>(IaC x.1 x.2.1,0),λx=>JaC x.1 x.2.1⟩
theorem naB(G:Gd Day):Con Tryz.prog 32 iaz:=va (pts:=[(.lst .time),(.lst .time)]) (F:=F32) G λ_ _=>maB G
def yaA:SP:=[(73,saA),(74,Raz),(32,iaz),(24,wae)]
abbrev F31:Fnn:=⟨[.tmp 4],.one .fr .bool,none,[]⟩
abbrev oaB:Bool->RV:=rvF F31
abbrev paB:=@OkF Tryz.prog tt Tryz.f31 F31 Bool
def jaz(x y:Sess):TN Bool:=.k (Laz (Plan.mk x.Plan.Kind x.Plan.Num x.Plan.Kids) (Plan.mk y.Plan.Kind y.Plan.Num y.Plan.Kids)) λz=>.k (faz x.Ins y.Ins) λa=>.k (IaC x.Front y.Front) λb=>.w [Maz (Plan.mk x.Plan.Kind x.Plan.Num x.Plan.Kids) (Plan.mk y.Plan.Kind y.Plan.Num y.Plan.Kids),(z&&true)=true->(gaz x.Ins y.Ins),((cond z a false)&&true)=true->(JaC x.Front y.Front),((cond (cond z a false) b false)&&true)=true->(PI x.Told y.Told)] (.l (.r (cond (cond (cond z a false) b false) (MI x.Told y.Told) false)))
def Xaz:=λx y=>(jaz x y).val
def Yaz:=λx y=>(jaz x y).ob
def qaB:=λx y=>fa.mk (Xaz x y) (Yaz x y) [] [(0,.agg false [.i x.Plan.Kind,.i x.Plan.Num,.lst .plan x.Plan.Kids,.lst .lrow x.Ins,.lst .time x.Front,.lst .row x.Told]),(1,.agg false [.i y.Plan.Kind,.i y.Plan.Num,.lst .plan y.Plan.Kids,.lst .lrow y.Ins,.lst .time y.Front,.lst .row y.Told])] oaB nE nE nE nE
theorem raB(G:Gd yaA){fr x y}:paB fr (qaB x y):=ma G [(0,[2,3]),(1,[4])] (jaz x y)
def Kay(x:Sess)(y:Sess):Bool:=ocR (Xaz x y)
def Q0(x:Sess)(y:Sess):Prop:=Yaz x y
def Zaz:Spec:=⟨[(.st .sess),(.st .sess)],.one .fr .bool,false,λx=>(Kay x.1 x.2.1,0),λx=>Q0 x.1 x.2.1⟩
theorem saB(G:Gd yaA):Con Tryz.prog 31 Zaz:=va (pts:=[(.st .sess),(.st .sess)]) (F:=F31) G λ_ _=>raB G
def kaz:SP:=[(42,C1),(43,wab),(44,Pf),(75,zR),(76,DR)]
abbrev F33:Fnn:=⟨[.cell 2 30,.tmp 3,.tmp 4],.tup [(false,(.st .sess)),(true,(.int .i64)),(false,(.lst .row))],none,[]⟩
abbrev aaA:Sess×Int×LR×Unit->RV:=rvF F33
abbrev baA:=@OkF Tryz.prog tt Tryz.f33 F33 (Sess×Int×LR×Unit)
def laz(x:LB)(a _ _:Int)(_:LP)(_:List LR)(_:List Time)(_:LR)(b:Int):TA (Sess×Int×LR×Unit) (Int×Int):=.k (la (x,a) 24) λy=>.w [Ob (x,a) 24] (.c (cmp .eql y.1 0) (.k (la (x,y.2) 2) λz=>.w [Ob (x,y.2) 2,inb z.1 (ba .int [(-1),2])] (.l (.n (z.2,(rd .int [(-1),2] z.1)))))
 (.l (.n (y.2,b))))
def caA:=λx y z a b c d f g=>(laz x y z a b c d f g).val
def daA:=λx y z a b c d f g=>(laz x y z a b c d f g).ob
def maz:=λx f y z a b c d g=>fa.mk (caA x f y z a b c d g) (daA x f y z a b c d g) [0,1,1,1,1] [(2,.box [(.fr,.i 0),(.fr,.i 0),(.fr,.nl .plan),(.fr,.nl .lrow),(.fr,.nl .time),(.fr,.nl .row)]),(5,.R x f),(6,.box [(.fr,.i y),(.fr,.i z),(.sh,.lst .plan a),(.sh,.lst .lrow b),(.sh,.lst .time c),(.sh,.lst .row d)]),(7,.I g)] aaA (λq=>[(2,.box [(.fr,.i 0),(.fr,.i 0),(.fr,.nl .plan),(.fr,.nl .lrow),(.fr,.nl .time),(.fr,.nl .row)]),(5,.R x q.1),(6,.box [(.fr,.i y),(.fr,.i z),(.sh,.lst .plan a),(.sh,.lst .lrow b),(.sh,.lst .time c),(.sh,.lst .row d)]),(7,.I q.2)]) nE nE nE
theorem taB(G:Gd kaz){fr x y z a b c d f g}:baA fr (maz x y z a b c d f g):=ma G [(4,[2,5,6,7,17]),(5,[2,5,6,7])] (laz x y z a b c d f g)
def naz(x:LB)(a _ _:Int)(_:LP)(_:List LR)(b:List Time)(_:LR)(_:Int)(y:LR):TA (Sess×Int×LR×Unit) LR:=.k (la (x,a) 6) λz=>.w [Ob (x,a) 6] (.c (cmp .gtr z.1 0) (.w [PD (x,z.2) y b] (.l (.n (de (x,z.2) y b).1)))
 (.l (.n y)))
def eaA:=λx y z a b c d f g h=>(naz x y z a b c d f g h).val
def faA:=λx y z a b c d f g h=>(naz x y z a b c d f g h).ob
def oaz:=λf g x y z a b c d h=>fa.mk (eaA f g x y z a b c d h) (faA f g x y z a b c d h) [0,1,1,1,1,1,1] [(2,.box [(.fr,.i 0),(.fr,.i 0),(.fr,.nl .plan),(.fr,.nl .lrow),(.fr,.nl .time),(.fr,.nl .row)]),(5,.R f g),(6,.box [(.fr,.i x),(.fr,.i y),(.sh,.lst .plan z),(.sh,.lst .lrow a),(.sh,.lst .time b),(.sh,.lst .row c)]),(7,.I d),(8,.S .row h)] aaA (λq=>[(2,.box [(.fr,.i 0),(.fr,.i 0),(.fr,.nl .plan),(.fr,.nl .lrow),(.fr,.nl .time),(.fr,.nl .row)]),(6,.box [(.fr,.i x),(.fr,.i y),(.sh,.lst .plan z),(.sh,.lst .lrow a),(.sh,.lst .time b),(.sh,.lst .row c)]),(7,.I d),(8,.S .row q)]) nE nE nE
theorem uaB(G:Gd kaz){fr x y z a b c d f g h}:baA fr (oaz x y z a b c d f g h):=ma G [(7,[2,5,6,7,8,27]),(8,[2,6,7,8])] (naz x y z a b c d f g h)
def paz(a:LB):TN (Sess×Int×LR×Unit):=.k (BM a) λy=>.w [CM a] (.k (Zs (y.1,y.2)) λx=>.w [eS (y.1,y.2)] (.k (la (y.1,x.2) 2) λb=>.w [Ob (y.1,x.2) 2] (.s (maz y.1 b.2 x.1.Plan.Kind x.1.Plan.Num x.1.Plan.Kids x.1.Ins x.1.Front x.1.Told b.1) (λz=>.k (Qb (y.1,z.1) 4) λc=>.w [AD (y.1,z.1) 4] (.s (oaz y.1 c.2 x.1.Plan.Kind x.1.Plan.Num x.1.Plan.Kids x.1.Ins x.1.Front x.1.Told z.2 c.1) (λd=>.l (.r ((Sess.mk (Plan.mk x.1.Plan.Kind x.1.Plan.Num x.1.Plan.Kids) x.1.Ins x.1.Front x.1.Told),(z.2,(d,()))))) nE nE nE)) nE nE nE)))
def gaA:=λx=>(paz x).val
def haA:=λx=>(paz x).ob
def vaB:=λx=>fa.mk (gaA x) (haA x) [] [(0,.S .byte x)] aaA nE nE nE nE
theorem waB(G:Gd kaz){fr x}:baA fr (vaB x):=ia G [([0,1,1,1,1],λe=>⟨maz (gL .byte e 5 0) (gI e 5 1) (gI e 6 0) (gI e 6 1) (gL .plan e 6 2) (gL .lrow e 6 3) (gL .time e 6 4) (gL .row e 6 5) (gI e 7 0)⟩),([0,1,1,1,1,1,1],λe=>⟨oaz (gL .byte e 5 0) (gI e 5 1) (gI e 6 0) (gI e 6 1) (gL .plan e 6 2) (gL .lrow e 6 3) (gL .time e 6 4) (gL .row e 6 5) (gI e 7 0) (gL .row e 8 0)⟩)] ⟨λ_=>⟨rfl,taB G⟩,λ_=>⟨rfl,uaB G⟩,trivial⟩ [(0,[0,2]),(1,[2,5]),(2,[2,5,6]),(3,[2,5,6,7]),(6,[2,5,6,7,8]),(9,[2,3,4])] (paz x)
def qaz(x:LB):Sess×Int×LR×Unit:=ocR (gaA x)
def raz(x:LB):Prop:=haA x
def iaA:Spec:=⟨[(.lst .byte)],.tup [(false,(.st .sess)),(true,(.int .i64)),(false,(.lst .row))],false,λx=>(qaz x.1,0),λx=>raz x.1⟩
theorem xaB(G:Gd kaz):Con Tryz.prog 33 iaA:=va (pts:=[(.lst .byte)]) (F:=F33) G λ_ _=>waB G
def KaC:SP:=[(27,fae),(25,mF),(52,VU),(63,rae),(72,rT),(71,Cm)]
abbrev F35:Fnn:=⟨[.cell 6 30,.tmp 7],.tup [(false,(.st .sess)),(true,.bool)],none,[]⟩
abbrev Lay:Sess×Bool×Unit->RV:=rvF F35
abbrev Q1:=@OkF Tryz.prog tt Tryz.f35 F35 (Sess×Bool×Unit)
def May(_:Int)(y:LR)(_ _:Int)(_:LP)(_:List LR)(z:List Time)(_:LR)(a x:Int):TX (Sess×Bool×Unit) Int Unit:=.c (cmp .lss x a) (.w [inb x (ba .row y)] (.w [XH z (rd .row y x).At] (.c (!(WH z (rd .row y x).At)) (.l (.r ((Sess.mk (Plan.mk 0 0 []) [] [] []),(false,()))))
 (.l (.n (ar .add .i64 x 1))))))
 (.l (.x ()))
def Q3:=λx y z a b c d f g h=>(May x y z a b c d f g h).val
def Nay:=λx y z a b c d f g h=>(May x y z a b c d f g h).ob
def jaA:=λy x z a b c d f g h=>Ba (Q3 y x z a b c d f g h) (Nay y x z a b c d f g h) [0,0,1,0,1,1] (λq=>[(1,.I y),(2,.S .row x),(3,.box [(.fr,.i z),(.fr,.i a),(.sh,.lst .plan b),(.sh,.lst .lrow c),(.sh,.lst .time d),(.sh,.lst .row f)]),(6,.box [(.fr,.i 0),(.fr,.i 0),(.fr,.nl .plan),(.fr,.nl .lrow),(.fr,.nl .time),(.fr,.nl .row)]),(30,.S .row x),(31,.I g),(32,.I q)]) h Lay (λ_=>(0,[(1,.I y),(2,.S .row x),(3,.box [(.fr,.i z),(.fr,.i a),(.sh,.lst .plan b),(.sh,.lst .lrow c),(.sh,.lst .time d),(.sh,.lst .row f)]),(6,.box [(.fr,.i 0),(.fr,.i 0),(.fr,.nl .plan),(.fr,.nl .lrow),(.fr,.nl .time),(.fr,.nl .row)])])) nE nE
theorem yaB(G:GdB KaC 63 xV yV){fr x y z a b c d f g h}:Q1 fr (jaA x y z a b c d f g h):=ma G.g [(4,[1,2,3,6,30,31,32,33]),(5,[1,2,3,6,9,30,31,32]),(6,[1,2,3,6,30,31,32,41]),(7,[6,7]),(8,[1,2,3,6,30,31,32])] (May x y z a b c d f g h)
def zaA:=λx y z a b c d f g=>lpV (λs:Int=>da (Q3 x y z a b c d f g s)) 0
def AaA:=λx y z a b c d f g=>LpT (λs:Int=>da (Q3 x y z a b c d f g s)) (λs=>Nay x y z a b c d f g s) 0
def saz:=λx y z a b c d f g=>lpS (jaA x y z a b c d f g 0) (zaA x y z a b c d f g) (AaA x y z a b c d f g)
theorem zaB(G:GdB KaC 63 xV yV){fr x y z a b c d f g}:Q1 fr (saz x y z a b c d f g):=Ca (λs:Int=>jaA x y z a b c d f g s) 0 λ_=>yaB G
def taz(y:Int)(x:LR)(z a:Int)(b:LP)(c:List LR)(d:List Time)(f:LR):TA (Sess×Bool×Unit) Unit:=.s (saz y x z a b c d f (ba .row x)) nE (λ_=>.l (.n ())) nE nE
def BaA:=λx y z a b c d f=>(taz x y z a b c d f).val
def CaA:=λx y z a b c d f=>(taz x y z a b c d f).ob
def uaz:=λx y z a b c d f=>fa.mk (BaA x y z a b c d f) (CaA x y z a b c d f) [0,1,1] [(1,.I x),(2,.S .row y),(3,.box [(.fr,.i z),(.fr,.i a),(.sh,.lst .plan b),(.sh,.lst .lrow c),(.sh,.lst .time d),(.sh,.lst .row f)]),(6,.box [(.fr,.i 0),(.fr,.i 0),(.fr,.nl .plan),(.fr,.nl .lrow),(.fr,.nl .time),(.fr,.nl .row)])] Lay (λ_=>[(1,.I x),(2,.S .row y),(3,.box [(.fr,.i z),(.fr,.i a),(.sh,.lst .plan b),(.sh,.lst .lrow c),(.sh,.lst .time d),(.sh,.lst .row f)]),(6,.box [(.fr,.i 0),(.fr,.i 0),(.fr,.nl .plan),(.fr,.nl .lrow),(.fr,.nl .time),(.fr,.nl .row)])]) nE nE nE
theorem AaB(G:GdB KaC 63 xV yV){fr x y z a b c d f}:Q1 fr (uaz x y z a b c d f):=ia G.g [([0,1,0,1,1],λe=>⟨saz (gI e 1 0) (gL .row e 2 0) (gI e 3 0) (gI e 3 1) (gL .plan e 3 2) (gL .lrow e 3 3) (gL .time e 3 4) (gL .row e 3 5) (gI e 31 0)⟩)] ⟨λ_=>⟨rfl,zaB G⟩,trivial⟩ [(3,[1,2,3,6,30,31,32])] (taz x y z a b c d f)
def vaz(_:Int)(_:LR)(x y:Int)(z:LP)(a:List LR)(b:List Time)(c:LR):TA (Sess×Bool×Unit) (Int×Int×LP×(List LR)×(List Time)×LR):=.w [yV (Sess.mk (Plan.mk x y z) a b c)] (.l (.n ((xV (Sess.mk (Plan.mk x y z) a b c)).Plan.Kind,(xV (Sess.mk (Plan.mk x y z) a b c)).Plan.Num,(xV (Sess.mk (Plan.mk x y z) a b c)).Plan.Kids,(xV (Sess.mk (Plan.mk x y z) a b c)).Ins,(xV (Sess.mk (Plan.mk x y z) a b c)).Front,(xV (Sess.mk (Plan.mk x y z) a b c)).Told)))
def DaA:=λx y z a b c d f=>(vaz x y z a b c d f).val
def EaA:=λx y z a b c d f=>(vaz x y z a b c d f).ob
def waz:=λx y z a b c d f=>fa.mk (DaA x y z a b c d f) (EaA x y z a b c d f) [0,1,1,1] [(1,.I x),(2,.S .row y),(3,.box [(.fr,.i z),(.fr,.i a),(.sh,.lst .plan b),(.sh,.lst .lrow c),(.sh,.lst .time d),(.sh,.lst .row f)]),(6,.box [(.fr,.i 0),(.fr,.i 0),(.fr,.nl .plan),(.fr,.nl .lrow),(.fr,.nl .time),(.fr,.nl .row)])] Lay (λq=>[(1,.I x),(2,.S .row y),(3,.box [(.fr,.i z),(.fr,.i a),(.sh,.lst .plan b),(.sh,.lst .lrow c),(.sh,.lst .time d),(.sh,.lst .row f)]),(6,.box [(.fr,.i 0),(.fr,.i 0),(.fr,.nl .plan),(.fr,.nl .lrow),(.fr,.nl .time),(.fr,.nl .row)]),(10,.box [(.fr,.i q.1),(.fr,.i q.2.1),(.sh,.lst .plan q.2.2.1),((.acc false),.lst .lrow q.2.2.2.1),(.sh,.lst .time q.2.2.2.2.1),(.sh,.lst .row q.2.2.2.2.2)])]) nE nE nE
theorem BaB(G:GdB KaC 63 xV yV){fr f g x z a b c d}:Q1 fr (waz f g x z a b c d):=Cah G.g G.b 30 3 44 45 10 [(1,.same),(2,.same),(3,.same),(6,.same),(10,.same)] (vaz f g x z a b c d) (y:=Sess.mk (Plan.mk x z a) b c d)
def xaz(x _ _:Int)(_:LP)(y:List LR)(_:List Time)(_ z:LR):TA (Sess×Bool×Unit) ((List LR)):=.w [inb x (ba .lrow y)] (.l (.n (List.set y (Int.toNat x) z)))
def FaA:=λx y z a b c d f=>(xaz x y z a b c d f).val
def GaA:=λx y z a b c d f=>(xaz x y z a b c d f).ob
def yaz:=λc x y z d a b f=>fa.mk (FaA c x y z d a b f) (GaA c x y z d a b f) [0,1,1,1,1,1,1] [(1,.I c),(6,.box [(.fr,.i 0),(.fr,.i 0),(.fr,.nl .plan),(.fr,.nl .lrow),(.fr,.nl .time),(.fr,.nl .row)]),(10,.box [(.fr,.i x),(.fr,.i y),(.sh,.lst .plan z),((.acc false),.lst .lrow d),(.sh,.lst .time a),(.sh,.lst .row b)]),(11,.S .row f)] Lay (λq=>[(6,.box [(.fr,.i 0),(.fr,.i 0),(.fr,.nl .plan),(.fr,.nl .lrow),(.fr,.nl .time),(.fr,.nl .row)]),(10,.box [(.fr,.i x),(.fr,.i y),(.sh,.lst .plan z),((.acc false),.lst .lrow q),(.sh,.lst .time a),(.sh,.lst .row b)])]) nE nE nE
theorem CaB(G:GdB KaC 63 xV yV){fr h x a b c d f g}:Q1 fr (yaz h x a b c d f g):=Eah G.g 30 26 28 10 1 11 60 61 62 63 64 [(0,3),(3,1),(4,1),(5,1)] 1 [(6,.same),(10,.same)] (xaz h x a b c d f g) (y:=Sess.mk (Plan.mk x a b) c d f) (kr:=.sh) (z:=g)
def zaz(x:Sess)(z:Int)(a:LR):TN (Sess×Bool×Unit):=.k (oI (Sess.mk (Plan.mk x.Plan.Kind x.Plan.Num x.Plan.Kids) x.Ins x.Front x.Told)) λd=>.w [pI (Sess.mk (Plan.mk x.Plan.Kind x.Plan.Num x.Plan.Kids) x.Ins x.Front x.Told),((!(cond (cond (!d) true (cmp .lss z 0)) true (cmp .geq z 2)))&&true)=true->(zt a)] (.c (cond (cond (cond (!d) true (cmp .lss z 0)) true (cmp .geq z 2)) true (!(xt a))) (.l (.r ((Sess.mk (Plan.mk 0 0 []) [] [] []),(false,()))))
 (.s (uaz z a x.Plan.Kind x.Plan.Num x.Plan.Kids x.Ins x.Front x.Told) (λ_=>.s (waz z a x.Plan.Kind x.Plan.Num x.Plan.Kids x.Ins x.Front x.Told) (λy=>.k (DF (rd .lrow x.Ins z) a) λb=>.w [inb z (ba .lrow x.Ins),EF (rd .lrow x.Ins z) a,Zh b] (.c (!(Qe b).2.1) (.l (.r ((Sess.mk (Plan.mk 0 0 []) [] [] []),(false,()))))
 (.s (yaz z y.1 y.2.1 y.2.2.1 y.2.2.2.1 y.2.2.2.2.1 y.2.2.2.2.2 (Qe b).1) (λc=>.w [pI (Sess.mk (Plan.mk y.1 y.2.1 y.2.2.1) c y.2.2.2.2.1 y.2.2.2.2.2)] (.c (!(oI (Sess.mk (Plan.mk y.1 y.2.1 y.2.2.1) c y.2.2.2.2.1 y.2.2.2.2.2))) (.l (.r ((Sess.mk (Plan.mk 0 0 []) [] [] []),(false,()))))
 (.l (.r ((Sess.mk (Plan.mk y.1 y.2.1 y.2.2.1) c y.2.2.2.2.1 y.2.2.2.2.2),(true,())))))) nE nE nE))) nE nE nE) nE nE nE))
def kaA:=λx y z=>(zaz x y z).val
def laA:=λx y z=>(zaz x y z).ob
def DaB:=λx y z=>fa.mk (kaA x y z) (laA x y z) [] [(0,.agg false [.i x.Plan.Kind,.i x.Plan.Num,.lst .plan x.Plan.Kids,.lst .lrow x.Ins,.lst .time x.Front,.lst .row x.Told]),(1,.I y),(2,.S .row z)] Lay nE nE nE nE
theorem EaB(G:GdB KaC 63 xV yV){fr x y z}:Q1 fr (DaB x y z):=ia G.g [([0,1,1],λe=>⟨uaz (gI e 1 0) (gL .row e 2 0) (gI e 3 0) (gI e 3 1) (gL .plan e 3 2) (gL .lrow e 3 3) (gL .time e 3 4) (gL .row e 3 5)⟩),([0,1,1,1],λe=>⟨waz (gI e 1 0) (gL .row e 2 0) (gI e 3 0) (gI e 3 1) (gL .plan e 3 2) (gL .lrow e 3 3) (gL .time e 3 4) (gL .row e 3 5)⟩),([0,1,1,1,1,1,1],λe=>⟨yaz (gI e 1 0) (gI e 10 0) (gI e 10 1) (gL .plan e 10 2) (gL .lrow e 10 3) (gL .time e 10 4) (gL .row e 10 5) (gL .row e 11 0)⟩)] ⟨λ_=>⟨rfl,AaB G⟩,λ_=>⟨rfl,BaB G⟩,λ_=>⟨rfl,CaB G⟩,trivial⟩ [(0,[1,2,3,6]),(1,[1,2,3,6,28]),(2,[6,7]),(10,[1,6,10,11,12]),(11,[1,6,10,11,58]),(12,[6,7]),(14,[6,10,67]),(15,[6,7]),(16,[6,7])] (zaz x y z)
def Aaz(x:Sess)(y:Int)(z:LR):Sess×Bool×Unit:=ocR (kaA x y z)
def Baz(x:Sess)(y:Int)(z:LR):Prop:=laA x y z
def maA:Spec:=⟨[(.st .sess),(.int .i64),(.lst .row)],.tup [(false,(.st .sess)),(true,.bool)],false,λx=>(Aaz x.1 x.2.1 x.2.2.1,0),λx=>Baz x.1 x.2.1 x.2.2.1⟩
theorem FaB(G:GdB KaC 63 xV yV):Con Tryz.prog 35 maA:=va (pts:=[(.st .sess),(.int .i64),(.lst .row)]) (F:=F35) G.g λ_ _=>EaB G
end
end Go.Proofs.YtiiidenbemkihaaGreat

namespace Go.Proofs.YtiiidenbemkihaaGreat
open Go
noncomputable section
set_option maxRecDepth 100000
def HaA:SP:=[(33,iaA),(34,IR),(35,maA),(31,Zaz),(24,wae),(32,iaz),(30,Iaz)]
abbrev F10:Fnn:=⟨[.tmp 2],.one .fr .bool,none,[]⟩
abbrev GaB:Bool->RV:=rvF F10
abbrev HaB:=@OkF Tryz.prog tt Tryz.f10 F10 Bool
def Oay(d:LB):TN Bool:=.c (cmp .gtr (ba .byte d) 1048576) (.l (.r true))
 (.k (qaz d) λx=>.w [raz d] (.k (yg (Sess.mk (Plan.mk x.1.Plan.Kind x.1.Plan.Num x.1.Plan.Kids) x.1.Ins x.1.Front x.1.Told) x.2.1 x.2.2.1) λz=>.w [aE (Sess.mk (Plan.mk x.1.Plan.Kind x.1.Plan.Num x.1.Plan.Kids) x.1.Ins x.1.Front x.1.Told) x.2.1 x.2.2.1] (.k (Aaz (Sess.mk (Plan.mk x.1.Plan.Kind x.1.Plan.Num x.1.Plan.Kids) x.1.Ins x.1.Front x.1.Told) x.2.1 x.2.2.1) λy=>.w [Baz (Sess.mk (Plan.mk x.1.Plan.Kind x.1.Plan.Num x.1.Plan.Kids) x.1.Ins x.1.Front x.1.Told) x.2.1 x.2.2.1] (.k (Kay (Sess.mk (Plan.mk y.1.Plan.Kind y.1.Plan.Num y.1.Plan.Kids) y.1.Ins y.1.Front y.1.Told) (Sess.mk (Plan.mk z.1.Plan.Kind z.1.Plan.Num z.1.Plan.Kids) z.1.Ins z.1.Front z.1.Told)) λf=>.w [((!(!(y.2.1 == z.2.1)))&&true)=true->(Q0 (Sess.mk (Plan.mk y.1.Plan.Kind y.1.Plan.Num y.1.Plan.Kids) y.1.Ins y.1.Front y.1.Told) (Sess.mk (Plan.mk z.1.Plan.Kind z.1.Plan.Num z.1.Plan.Kids) z.1.Ins z.1.Front z.1.Told))] (.c (cond (cond (!(y.2.1 == z.2.1)) true (!f)) true (!y.2.1)) (.w [((y.2.1 == z.2.1)&&true)=true->(Q0 (Sess.mk (Plan.mk y.1.Plan.Kind y.1.Plan.Num y.1.Plan.Kids) y.1.Ins y.1.Front y.1.Told) (Sess.mk (Plan.mk z.1.Plan.Kind z.1.Plan.Num z.1.Plan.Kids) z.1.Ins z.1.Front z.1.Told))] (.l (.r (cond (y.2.1 == z.2.1) f false))))
 (.k (MI y.1.Told x.1.Told) λa=>.k (IaC y.1.Front x.1.Front) λb=>.k (Qay (rd .lrow x.1.Ins x.2.1) x.2.2.1) λg=>.k (MI (rd .lrow y.1.Ins x.2.1) g) λc=>.w [PI y.1.Told x.1.Told,(a&&true)=true->(JaC y.1.Front x.1.Front),((cond a b false)&&true)=true->inb x.2.1 (ba .lrow y.1.Ins),((cond a b false)&&true)=true->inb x.2.1 (ba .lrow x.1.Ins),((cond a b false)&&true)=true->(Ray (rd .lrow x.1.Ins x.2.1) x.2.2.1),((cond a b false)&&true)=true->(PI (rd .lrow y.1.Ins x.2.1) g),((cond (cond a b false) c false)&&true)=true->inb (ar .sub .i64 1 x.2.1) (ba .lrow y.1.Ins),((cond (cond a b false) c false)&&true)=true->inb (ar .sub .i64 1 x.2.1) (ba .lrow x.1.Ins),((cond (cond a b false) c false)&&true)=true->(PI (rd .lrow y.1.Ins (ar .sub .i64 1 x.2.1)) (rd .lrow x.1.Ins (ar .sub .i64 1 x.2.1)))] (.l (.r (cond (cond (cond a b false) c false) (MI (rd .lrow y.1.Ins (ar .sub .i64 1 x.2.1)) (rd .lrow x.1.Ins (ar .sub .i64 1 x.2.1))) false)))))))))
def Caz:=λx=>(Oay x).val
def Daz:=λx=>(Oay x).ob
def IaB:=λx=>fa.mk (Caz x) (Daz x) [] [(0,.S .byte x)] GaB nE nE nE nE
theorem JaB(G:Gd HaA){fr x}:HaB fr (IaB x):=ma G [(0,[0]),(1,[0,12]),(2,[2]),(3,[3,4,5]),(4,[3,4,5,6,7]),(5,[3,4,5,6,7,8,9]),(6,[3,4,5,6,7,8,9,45]),(7,[2]),(8,[2])] (Oay x)
def Eaz(x:LB):Bool:=ocR (Caz x)
def Faz(x:LB):Prop:=Daz x
def IaA:Spec:=⟨[(.lst .byte)],.one .fr .bool,false,λx=>(Eaz x.1,0),λx=>Faz x.1⟩
theorem KaB(G:Gd HaA):Con Tryz.prog 10 IaA:=va (pts:=[(.lst .byte)]) (F:=F10) G λ_ _=>JaB G
end
end Go.Proofs.YtiiidenbemkihaaGreat

namespace Go.Proofs.YtiiidenbemkihaaGreat
namespace Ds
open Go
set_option maxRecDepth 100000
section
variable {P:Program}{tt:TT}{N:NP}{fr:Fr}{Cd:Code}{F:Fnn}{R A X Y Z:Type}
end
noncomputable def CI:Code:=Od Tryz.f63
theorem conI(G:Gd Uu):Aw Tryz.prog 63 xV yV:=by
 refine⟨⟨Tryz.f63,by kernel_rfl,by kernel_rfl,by kernel_rfl⟩,λy hy W0 F0 us hl hus=>?_⟩;have hargs:ze F0 W0 [.st .sess] (y,()) [.agg us.toArray] none:=⟨_,[],rfl,⟨us,rfl,hus⟩,rfl,rfl⟩;refine calls_of_wp (fn:=Tryz.f63) (c:=CI) (by kernel_rfl) (by kernel_rfl) ?_;have hs:=sX (nt:=(Tryz.f63).ntmps) [] hl hargs (Nat.le_of_ble_eq_true (by kernel_rfl));obtain⟨⟨q1,q2,q3,_⟩,h3,_⟩:=(show(II y).ob from hy)
 obtain⟨l,hl2⟩ : ∃l,pae y.Plan.Kind y.Plan.Num y.Plan.Kids y.Ins y.Front y.Told (oV (Plan.mk y.Plan.Kind y.Plan.Num y.Plan.Kids)).Kind (oV (Plan.mk y.Plan.Kind y.Plan.Num y.Plan.Kids)).Num (oV (Plan.mk y.Plan.Kind y.Plan.Num y.Plan.Kids)).Kids (zI y.Front) (Am y.Told)=.n l:=by
  obtain⟨h4,_⟩:=h3
  have h5:=Eaf (G:=λr=>∃l,r=Oc.x l) h4 (λs r hr=>by
   obtain⟨s1,s2⟩:=s
   revert hr
   simp only[un,Vu,Tr.val];cases cmp .lss s2 (ba .lrow y.Ins) with
   |true=>intro hr;cases hr
   |false=>intro hr;cases hr;exact⟨_,rfl⟩)
  obtain⟨l,h5⟩:=h5;refine⟨l,?_⟩;have h6:nae (oV (Plan.mk y.Plan.Kind y.Plan.Num y.Plan.Kids)).Kind (oV (Plan.mk y.Plan.Kind y.Plan.Num y.Plan.Kids)).Num (oV (Plan.mk y.Plan.Kind y.Plan.Num y.Plan.Kids)).Kids (zI y.Front) (Am y.Told) y.Ins (ba .lrow y.Ins)=.x l:=h5;simp only[pae,FI,DI,lpS,Tr.val,h6]
 have hv:xV y=⟨⟨(oV (Plan.mk y.Plan.Kind y.Plan.Num y.Plan.Kids)).Kind,(oV (Plan.mk y.Plan.Kind y.Plan.Num y.Plan.Kids)).Num,(oV (Plan.mk y.Plan.Kind y.Plan.Num y.Plan.Kids)).Kids⟩,l,zI y.Front,Am y.Told⟩:=by
  simp only[xV,vV,II,GI,Tr.val,hl2,ocR]
 have hms:=MS.of hs rfl;refine ra (c1:=nav CI [0]) (c2:=nav CI [1]) (by kernel_rfl) ?_;refine MS.regC G (keep:=[1,2]) (e':=[(1,boxS y),(2,zo)]) (ps:=[]) (by kernel_rfl) trivial hms (λa w hs=>?_);show(nav CI [1]).wp _ _ a w;refine ra (c1:=nav CI [1,0]) (c2:=nav CI [1,1]) (by kernel_rfl) ?_
 refine MS.regC G (keep:=[1,2,3]) (e':=[(1,boxS y),(2,zo),(3,.box [(.fr,.i (oV (Plan.mk y.Plan.Kind y.Plan.Num y.Plan.Kids)).Kind),(.fr,.i (oV (Plan.mk y.Plan.Kind y.Plan.Num y.Plan.Kids)).Num),(.sh,.lst .plan (oV (Plan.mk y.Plan.Kind y.Plan.Num y.Plan.Kids)).Kids),(.sh,.nl .lrow),(.sh,.lst .time (zI y.Front)),(.sh,.lst .row (Am y.Told))])])
  (ps:=[pV (Plan.mk y.Plan.Kind y.Plan.Num y.Plan.Kids),AI y.Front,Bm y.Told]) (by kernel_rfl) ⟨q1,q2,q3,trivial⟩ hs (λa w hs=>?_)
 show(nav CI [1,1]).wp _ _ a w;refine ra (c1:=nav CI [1,1,0]) (c2:=nav CI [1,1,1]) (by kernel_rfl) ?_;refine go (fr:=⟨W0.heap.size,[],W0,F0⟩) (lav G) h3 hl2 (by kernel_rfl) hs.to (λa w hs=>?_);show(nav CI [1,1,1]).wp _ _ a w
 refine Bah G.htt (t:=30) (d:=(lk tt 30).get (by kernel_rfl)) (X:=3) (R:=2) (d0:=31) (fn:=Tryz.f63) (c:=nav CI [1,1,1]) (c1:=nav CI [1,1,1,0]) (c2:=nav CI [1,1,1,1]) (o0:=opN (opsOf (nav CI [1,1,1,0])) 0) (o1:=opN (opsOf (nav CI [1,1,1,0])) 1)
  (by kernel_rfl) (by kernel_rfl) (by kernel_rfl) (by kernel_rfl) (by decide) (by decide) (by decide) (by kernel_rfl) (by kernel_rfl) (by kernel_rfl) (by kernel_rfl) (by kernel_rfl) (by kernel_rfl) (by kernel_rfl) (by kernel_rfl) (by kernel_rfl) (by kernel_rfl) (by kernel_rfl) (by kernel_rfl)
  (y:=xV y) (by rw[hv];exact hs) (by rw[hs.tmps.size];exact Nat.lt_of_succ_le (Nat.le_of_ble_eq_true (by kernel_rfl))) (λa w hd ⟨vs,F',ob,r1,r2,r3,r4,r5⟩=>⟨hd,_,r1,vs,F',ob,rfl,r2,r3,r4,r5⟩)
end Ds
end Go.Proofs.YtiiidenbemkihaaGreat

namespace Go.Proofs.YtiiidenbemkihaaGreat
open Go
section
variable {P:Program}{K n:Nat}
variable {T E:Nat} (M:oaf P T K E n) {w:World}{r:Nat}{S:za} (hr:w.heap[r]? = some (Sa S)) (hm:ic n S) {ks:List Int} (hk:ks.length=n)
include M hr hm hk
end
end Go.Proofs.YtiiidenbemkihaaGreat

namespace Go.Proofs.YtiiidenbemkihaaGreat
open Go Tg
section
variable {a:List Row} (hr:Jb a=true) {kind:Int} (hkind:1<=kind/\kind<=3)
include hr hkind
end
end Go.Proofs.YtiiidenbemkihaaGreat

namespace Go.Proofs.YtiiidenbemkihaaGreat
open Go Tg
theorem QaA{a b:List Row}(ha:Jb a=true)(hb:Jb b=true)(hg:Ga (Pa (a++b))=true):Ray a b/\Qay a b=Pa (a++b):=by
 obtain⟨l1,m1⟩:=gb ha;obtain⟨l2,m2⟩:=gb hb;obtain⟨r1,r2⟩:=rZ a (by omega);obtain⟨s1,s2⟩:=rZ b (by omega);obtain⟨c1,c2⟩:=Eai (a:=a) (b:=b) (by omega) (by omega);obtain⟨b1,b2⟩:=Wo (xs:=a++b) (by rw[List.length_append];omega) (λx hx=>Oe ((List.mem_append.1 hx).elim (m1 x) (m2 x)));rw[if_pos hg]at b2;simp only[Ray,Qay,Haz,Gaz,Pay,Tr.val,Tr.ob,ga,r2,s2,ha,hb,c2,b2];exact⟨by simp[r1,s1,c1,b1],rfl⟩
end Go.Proofs.YtiiidenbemkihaaGreat

namespace Go.Proofs.YtiiidenbemkihaaGreat
open Go Tg
def smM:Nat->Plan->Bool
 |0,_=>false
 |d+1,p=>decide (p.Kids.length<=2)&&p.Kids.all (smM d)
theorem TaB{d:Nat}{p:Plan}(h:smM (d+1) p=true):p.Kids.length<=2/\∀x∈p.Kids,smM d x=true:=by
 simp only[smM,Bool.and_eq_true,List.all_eq_true,decide_eq_true_eq]at h;exact h
theorem LaA:∀ {d:Nat}{p:Plan},okM d p=true->smM d p=true
 |0,_,h=>by cases h
 |d+1,p,h=>by
  obtain⟨h1,h2⟩:=Mw h;simp only[smM,Bool.and_eq_true,List.all_eq_true,decide_eq_true_eq];exact⟨h1,λx hx=>LaA (h2 x hx)⟩
theorem UaB:∀(d n:Nat),d<=n->∀p:Plan,smM d p=true->(HaC n).2 p p/\(HaC n).1 p p=true:=by
 intro d
 induction d with
 |zero=>intro n _ p h;cases h
 |succ d ih=>
  intro n hn p hp;obtain⟨m,rfl⟩ : ∃m,n=m+1:=⟨n - 1,by omega⟩;obtain⟨hlen,hk⟩:=TaB hp
  have k:ja (λs:Int=>da (LaC (HaC m).1 (HaC m).2 p.Kind p.Num p.Kids p.Kind p.Num p.Kids s)) (λs=>zay (HaC m).1 (HaC m).2 p.Kind p.Num p.Kids p.Kind p.Num p.Kids s) 0 (.x ()):=by
   refine ja.fold p.Kids (λi (_:Unit)=>(i:Int)) (λ_=>()) rfl (λl x r hx=>?_) ?_
   .obtain⟨hlen2,hrd,hin,hlss⟩:=Oa (t:=.plan) hx;obtain⟨i1,i2⟩:=ih m (by omega) x (hk x (by rw[hx];simp));simp only[zay,LaC,yay,Tr.val,Tr.ob,ga,hlss,hrd,Pc,i2,Bool.not_true,Ia (l:=l) (by omega)];exact⟨by simp[hin,i1],rfl⟩
   .have hend:cmp .lss (p.Kids.length:Int) (ba .plan p.Kids)=false:=Ma (t:=.plan);simp only[zay,LaC,yay,Tr.val,Tr.ob,ga,hend];exact⟨by simp,rfl⟩
  have a2:oaA (HaC m).1 (HaC m).2 p.Kind p.Num p.Kids p.Kind p.Num p.Kids=.x ():=k.v;have b2:paA (HaC m).1 (HaC m).2 p.Kind p.Num p.Kids p.Kind p.Num p.Kids:=k.t;have hc:cond (cond (cmp .neq p.Kind p.Kind) true (cmp .neq p.Num p.Num)) true (cmp .neq (ba .plan p.Kids) (ba .plan p.Kids))=false:=by simp[Rd]
  simp only[HaC,Zay,Yay,Xay,Way,raA,qaA,Vay,Uay,lpS,Tr.val,Tr.ob,hc,a2,ocR];exact⟨by simp[b2],trivial⟩
theorem VaB{p:Plan}(h:smM 4 p=true):Maz p p/\Laz p p=true:=UaB 4 Pb (by decide) p h
theorem WaB{s:Sess}(hs:Sm s)(i:Int){rows:List Row}(hr:rows.length<=1000):Baz s i rows/\Aaz s i rows=MV (inS s i rows):=by
 have h1:=hs.ins;have h2:=hs.each;have h3:=hs.front;have h4:=hs.told;obtain⟨o1,o2⟩:=kay hs;obtain⟨b1,b2⟩:=sZ rows (by omega)
 have k2:ja (λj:Int=>da (Q3 i rows s.Plan.Kind s.Plan.Num s.Plan.Kids s.Ins s.Front s.Told (ba .row rows) j)) (λj=>Nay i rows s.Plan.Kind s.Plan.Num s.Plan.Kids s.Ins s.Front s.Told (ba .row rows) j) 0 (if ub (λ_ x=>!Ib s.Front x.At) none rows=true then .x () else .r (gv,(false,()))):=by
  refine ja.scan rows _ (λl x r hx=>?_) ?_
  .obtain⟨hlen,hrd,hin,hlss⟩:=Oa (t:=.row) hx;obtain⟨y1,y2⟩:=Eaw s.Front x.At (by omega);simp only[Nay,Q3,May,Tr.val,Tr.ob,ga,hlss,hrd,y2,Ia (l:=l) (by omega)];refine⟨by simp[hin,y1],?_⟩;cases Ib s.Front x.At<;>rfl
  .have hend:cmp .lss (rows.length:Int) (ba .row rows)=false:=Ma (t:=.row);simp only[Nay,Q3,May,Tr.val,Tr.ob,ga,hend];exact⟨by simp,rfl⟩
 rw[rg]at k2;have a2:zaA i rows s.Plan.Kind s.Plan.Num s.Plan.Kids s.Ins s.Front s.Told (ba .row rows)=_:=k2.v;have d2:AaA i rows s.Plan.Kind s.Plan.Num s.Plan.Kids s.Ins s.Front s.Told (ba .row rows):=k2.t
 have hci:cond (cond (!true) true (cmp .lss i 0)) true (cmp .geq i 2)=!decide (0<=i/\i<2):=by
  rw[bc,Ng,Bool.eq_iff_iff];by_cases hA:i<0<;>simp[hA]<;>omega
 simp only[Baz,Aaz,laA,kaA,zaz,uaz,CaA,BaA,taz,saz,waz,EaA,DaA,vaz,yaz,GaA,FaA,xaz,lpS,Tr.val,Tr.ob,ga,Vae,o2,b2,a2,inS];cases hok:pd s with
 |false=>exact⟨by simp[o1],rfl⟩
 |true=>
  rw[hci];by_cases hi:0<=i/\i<2
  .have hdi:decide (0<=i/\i<2)=true:=by simp[hi]
   have k:=Oaw (rows:=rows) hok hi;rw[hdi];cases hb:Ga rows with
   |false=>exact⟨by simp[o1,b1],rfl⟩
   |true=>
    have hrr:=oe hb;obtain⟨c1,c2⟩:=nay hs k.plan;have hra:=oe (k.each _ k.at');obtain⟨bi,bl⟩:=Paw hra hrr;obtain⟨t1,t2⟩:=Eai (a:=rd .lrow s.Ins i) (b:=rows) (by have:=(gb hra).1;omega) (by omega);obtain⟨v1,v2⟩:=Wo (xs:=rd .lrow s.Ins i++rows) (by rw[List.length_append];have:=(gb hra).1;omega) bi;obtain⟨w1,w2⟩:=kay (hs.setIn i (b:=Pa (rd .lrow s.Ins i++rows)) (by omega));have w1':pI (Sess.mk (Plan.mk s.Plan.Kind s.Plan.Num s.Plan.Kids) (List.set s.Ins (Int.toNat i) (Pa (rd .lrow s.Ins i++rows))) s.Front s.Told):=w1;have w2':oI (Sess.mk (Plan.mk s.Plan.Kind s.Plan.Num s.Plan.Kids) (List.set s.Ins (Int.toNat i) (Pa (rd .lrow s.Ins i++rows))) s.Front s.Told)=pd (setIn s i (Pa (rd .lrow s.Ins i++rows))):=w2;simp only[c2,t2,v2];cases (rows.all λx=>Ib s.Front x.At) with
    |false=>exact⟨by simp[o1,b1,d2],rfl⟩
    |true=>
     cases hg:Ga (Pa (rd .lrow s.Ins i++rows)) with
     |false=>exact⟨by simp[o1,b1,d2,c1,k.inb,t1,v1],by simp[ocR,MV,gv]⟩
     |true=>
      simp only[if_true,w2'];cases hw:pd (setIn s i (Pa (rd .lrow s.Ins i++rows))) with
      |false=>exact⟨by simp[o1,b1,d2,c1,k.inb,t1,v1,w1'],by simp[ocR,MV,gv]⟩
      |true=>exact⟨by simp[o1,b1,d2,c1,k.inb,t1,v1,w1'],by simp[ocR,MV,setIn,Pc]⟩
  .have hdi:decide (0<=i/\i<2)=false:=by simpa using hi
   rw[hdi];exact⟨by simp[o1],rfl⟩
end Go.Proofs.YtiiidenbemkihaaGreat

namespace Go.Proofs.YtiiidenbemkihaaGreat
open Go Tg
theorem XaB{c:List Int}(hc:∀x∈c,0<=x/\x<=255):raz c/\∃s i rows,qaz c=(s,i,rows,())/\Sm s/\rows.length<=8/\Ga rows=true:=by
 obtain⟨o1,b,o2,hb⟩:=eay hc;obtain⟨s1,s2,s3,s4⟩:=oay hb;generalize hv:Zs (b,0)=sv at s2 s3 s4;obtain⟨s,q⟩:=sv;simp only[]at s2 s3 s4;obtain⟨x1,x2,_,_⟩:=Hb hb (p:=q) (n:=2) (by omega) (by omega);obtain⟨y1,y2,_,_⟩:=Hb hb (p:=q+1) (n:=24) (by omega) (by omega);obtain⟨z1,z2,z3,z4⟩:=Hb hb (p:=q+1+1) (n:=2) (by omega) (by omega);have hin:∀u v:Int,inb (la (b,q+1+1) 2).1 (ba .int [u,v]):=λu v=>⟨z3,z4⟩;have hfr:=s4.front
 have k1:∀k m l n,daA b (q+1) k m l s.Ins s.Front s.Told n/\∃q' n',caA b (q+1) k m l s.Ins s.Front s.Told n=.n (q',n')/\q+2<=q'/\q'<=q+3:=λk m l n=>by
  simp only[daA,caA,laz,Tr.val,Tr.ob,ga,y2,z2];cases cmp .eql (la (b,q+1) 24).1 0 with
  |true=>exact⟨by simp[y1,z1,hin],_,_,rfl,by omega,by omega⟩
  |false=>exact⟨by simp[y1],_,_,rfl,by omega,by omega⟩
 have k2:∀r k m l n a,0<=r/\r<=1000->a.length<=8->Ga a=true->faA b r k m l s.Ins s.Front s.Told n a/\∃a',eaA b r k m l s.Ins s.Front s.Told n a=.n a'/\a'.length<=8/\Ga a'=true:=λr k m l n a hr ha hba=>by
  obtain⟨u1,u2,_,_⟩:=Hb hb (p:=r) (n:=6) (by omega) (by omega);obtain⟨w1,w2,w3,w4,w5⟩:=dax hb (p:=r+1) (by omega) ha (bax hba) (f:=s.Front) hfr;simp only[faA,eaA,naz,Tr.val,Tr.ob,ga,u2];cases cmp .gtr (la (b,r) 6).1 0 with
  |true=>exact⟨by simp[u1,w1],_,rfl,w4,w5⟩
  |false=>exact⟨by simp[u1],_,rfl,ha,hba⟩
 obtain⟨c1,q',n',c2,c3,c4⟩:=k1 s.Plan.Kind s.Plan.Num s.Plan.Kids (la (b,q) 2).1;obtain⟨b1,b2,b3,b4,b5⟩:=cax hb (p:=q') (m:=4) (by omega) (by omega);obtain⟨d1,a',d2,d3,d4⟩:=k2 (Qb (b,q') 4).2 s.Plan.Kind s.Plan.Num s.Plan.Kids n' (Qb (b,q') 4).1 (by omega) b4 b5;simp only[raz,qaz,haA,gaA,paz,maz,oaz,Tr.val,Tr.ob,ga,o2,hv,x2,c2,d2,ocR];refine⟨by simp[o1,s1,x1,c1,b1,d1],s,n',a',?_,s4,d3,d4⟩;rw[Vae]
end Go.Proofs.YtiiidenbemkihaaGreat

namespace Go.Proofs.YtiiidenbemkihaaGreat
open Go Tg
theorem YaB{x y:Time}(h1:x.A=y.A)(h2:x.B=y.B):x=y:=by
 obtain⟨a,b⟩:=x;obtain⟨c,d⟩:=y;simp only at h1 h2;subst h1;subst h2;rfl
theorem MaA(x y:Time):(cmp .eql x.A y.A&&(cmp .eql x.B y.B&&true))=true↔x=y:=by
 rw[Bb,Bb];simp only[Bool.and_eq_true,decide_eq_true_eq,and_true];constructor
 .rintro⟨h1,h2⟩;exact YaB h1 h2
 .rintro rfl;exact⟨rfl,rfl⟩
theorem ZaB(a b:List Time)(hl:a.length<1000000000):JaC a b/\(IaC a b=true↔a=b):=by
 by_cases hlen:a.length=b.length
 .obtain⟨q,h1,h2⟩:=ja.two (step:=λs:Int=>da (ek a b s)) (ob:=λs=>Fay a b s) hlen (no:=.r false) (yes:=.x ())
   (λi x y hx hy=>by
     obtain⟨u1,u2⟩:=XI (t:=.time) hx;obtain⟨v1,v2⟩:=XI (t:=.time) hy;have hlt:=(List.getElem?_eq_some_iff.1 hx).1;have hlss:cmp .lss (i:Int) (ba .time a)=true:=by rw[bc];unfold ba;simp;omega
     have hs:ar .add .i64 (i:Int) 1=((i+1:Nat):Int):=by rw[cc (by omega)];omega
     simp only[Fay,ek,Eay,Tr.val,Tr.ob,ga,hlss,u1,v1,hs];refine⟨by simp[u2,v2],?_⟩;by_cases he:x=y
     .rw[(MaA x y).2 he];exact .inl ⟨he,rfl⟩
     .rw[show(cmp .eql x.A y.A&&(cmp .eql x.B y.B&&true))=false by rw[<-Bool.not_eq_true,MaA];exact he];exact .inr ⟨he,rfl⟩)
   (by
     have hend:cmp .lss (a.length:Int) (ba .time a)=false:=Ma (t:=.time);simp only[Fay,ek,Eay,Tr.val,Tr.ob,ga,hend];exact⟨by simp,rfl⟩)
  have b2:xaA a b:=h1.t
  have hn:cmp .neq (ba .time a) (ba .time b)=false:=by
   show cmp .neq (a.length:Int) (b.length:Int)=false;rw[Rd,hlen];simp
  rcases h2 with⟨rfl,h2⟩|⟨rfl,h2⟩
  .have a2:Uaz a b=.x ():=h1.v;simp only[JaC,IaC,Jay,Iay,Waz,Vaz,hn,a2,ocR,DP,DA,Hay,Gay,lpS,Tr.val,Tr.ob];exact⟨by simp[b2],λ_=>h2,λ_=>trivial⟩
  .have a2:Uaz a b=.r false:=h1.v;simp only[JaC,IaC,Jay,Iay,Waz,Vaz,hn,a2,ocR,DP,DA,Hay,Gay,lpS,Tr.val,Tr.ob];exact⟨by simp[b2],(λh=>by cases h),λh=>absurd h h2⟩
 .have hn:cmp .neq (ba .time a) (ba .time b)=true:=by
   show cmp .neq (a.length:Int) (b.length:Int)=true;rw[Rd];simp;omega
  simp only[JaC,IaC,Jay,Iay,hn,ocR,DP,DA,Tr.val,Tr.ob];exact⟨by simp,(λh=>by cases h),λh=>absurd (by rw[h]) hlen⟩
theorem NaA{f:List Time}(hl:f.length<=1000):JaC f f/\IaC f f=true:=by
 obtain⟨h1,h2⟩:=ZaB f f (by omega);exact⟨h1,h2.2 rfl⟩
theorem aaC(xs:List (List Row))(h:∀x∈xs,x.length<=1000)(hl:xs.length<=1000):gaz xs xs/\faz xs xs=true:=by
 have k:ja (λs:Int=>da (MaC xs xs s)) (λs=>Cay xs xs s) 0 (.x ()):=by
  refine ja.fold xs (λi (_:Unit)=>(i:Int)) (λ_=>()) rfl (λl x r hx=>?_) ?_
  .obtain⟨hlen2,hrd,hin,hlss⟩:=Oa (t:=.lrow) hx;obtain⟨r1,r2⟩:=pay (a:=x) (h x (by rw[hx];simp));simp only[Cay,MaC,Bay,Tr.val,Tr.ob,ga,hlss,hrd,r2,Bool.not_true,Ia (l:=l) (by omega)];exact⟨by simp[hin,r1],rfl⟩
  .have hend:cmp .lss (xs.length:Int) (ba .lrow xs)=false:=Ma (t:=.lrow);simp only[Cay,MaC,Bay,Tr.val,Tr.ob,ga,hend];exact⟨by simp,rfl⟩
 have a2:taA xs xs=.x ():=k.v;have b2:uaA xs xs:=k.t;have hc:cmp .neq (ba .lrow xs) (ba .lrow xs)=false:=by simp[Rd]
 simp only[gaz,faz,Qaz,Paz,eaz,daz,waA,vaA,caz,baz,lpS,Tr.val,Tr.ob,hc,a2,ocR];exact⟨by simp[b2],trivial⟩
theorem OaA{s:Sess}(hs:Sm s)(hp:smM 4 s.Plan=true):Q0 s s/\Kay s s=true:=by
 obtain⟨a1,a2⟩:=VaB hp;obtain⟨b1,b2⟩:=aaC s.Ins hs.each hs.ins;obtain⟨c1,c2⟩:=NaA hs.front;obtain⟨d1,d2⟩:=pay hs.told;simp only[Q0,Kay,Yaz,Xaz,jaz,Tr.val,Tr.ob,ga,Pc,a2,b2,c2,d2,cond_true,ocR];exact⟨by simp[a1,b1,c1,d1],trivial⟩
theorem baC:Sm gv:=⟨Nat.zero_le _,λ_a ha=>(nomatch ha),Nat.zero_le _,Nat.zero_le _⟩
theorem PaA:Q0 gv gv/\Kay gv gv=true:=OaA baC rfl
theorem caC{s:Sess}(h:pd s=true):smM 4 s.Plan=true:=by
 obtain⟨x,hx⟩:=LV.1 h;exact LaA (cp hx.flow).ok
theorem daC{l:List (List Row)}{i:Int}{g:List Row}(h:0<=i/\i<l.length):rd .lrow (l.set i.toNat g) i=g:=by
 unfold rd;rw[List.getD_eq_getElem?_getD,List.getElem?_set_self (by omega)];rfl
theorem eaC{l:List (List Row)}{i j:Int}{g:List Row}(h:0<=i)(h':0<=j)(hne:i≠j):rd .lrow (l.set i.toNat g) j=rd .lrow l j:=by
 unfold rd;rw[List.getD_eq_getElem?_getD,List.getD_eq_getElem?_getD,List.getElem?_set_ne (by omega)]
theorem faC{s s':Sess}{i:Int}{rows:List Row}(hs:Sm s)(h:inS s i rows=some s'):Sm s':=by
 obtain⟨_,_,_,_,h5,_,h7⟩:=gax h;rw[h7];exact hs.setIn i (by have:=hax h5;omega)
theorem gaC(c:List Int)(hc:∀x∈c,0<=x/\x<=255):Faz c/\Eaz c=true:=by
 by_cases hbig:cmp .gtr (ba .byte c) 1048576=true
 .simp only[Faz,Eaz,Daz,Caz,hbig,ocR,Oay,Tr.val,Tr.ob,ga];exact⟨by simp,trivial⟩
 .have hbig:cmp .gtr (ba .byte c) 1048576=false:=by simpa using hbig
  obtain⟨d1,s,i,rows,d2,hs,hl,hb⟩:=XaB hc;obtain⟨e1,e2⟩:=Qaw hs i (rows:=rows) (by omega);obtain⟨f1,f2⟩:=WaB hs i (rows:=rows) (by omega);simp only[Faz,Eaz,Daz,Caz,Oay,Tr.val,Tr.ob,ga,hbig,d2,Vae,e2,f2];cases h:inS s i rows with
  |none=>simp[MV,d1,e1,f1,PaA.1,PaA.2,ocR]
  |some s'=>
   obtain⟨h1,h2,h3,h4,h5,h6,h7⟩:=gax h;obtain⟨g1,g2⟩:=OaA (faC hs h) (caC h6);have k:=Oaw (rows:=rows) h1 h2;obtain⟨b1,b2⟩:=QaA (oe (k.each _ k.at')) (oe h3) h5;have hlen:=k.len;have e3:s'.Told=s.Told:=by rw[h7];rfl
   have e4:s'.Front=s.Front:=by rw[h7];rfl
   have e5:rd .lrow s'.Ins i=Pa (rd .lrow s.Ins i++rows):=by rw[h7];exact daC (by rw[hlen];omega)
   have hsub:ar .sub .i64 1 i=1 - i:=bf (by omega);have e6:rd .lrow s'.Ins (1 - i)=rd .lrow s.Ins (1 - i):=by rw[h7];exact eaC h2.1 (by omega) (by omega)
   have e7:s'.Ins.length=2:=by rw[h7];unfold setIn;rw[List.length_set];exact hlen
   have hin:∀j,0<=j/\j<2->inb j (ba .lrow s'.Ins)/\inb j (ba .lrow s.Ins):=λj hj=>by unfold inb ba;rw[e7,hlen];omega
   obtain⟨t1,t2⟩:=pay hs.told;obtain⟨u1,u2⟩:=NaA hs.front;obtain⟨w1,w2⟩:=pay (a:=Pa (rd .lrow s.Ins i++rows)) (by have:=hax h5;omega);have k':=Oaw (rows:=rows) h1 (i:=1 - i) (by omega);obtain⟨z1,z2⟩:=pay (a:=rd .lrow s.Ins (1 - i)) (hs.each _ k'.at');simp only[MV,hsub,g2,e3,e4,e5,e6,t2,u2,b2,w2,z2,ocR];simp[d1,e1,f1,g1,t1,u1,b1,w1,z1,hin i h2,hin (1 - i) (by omega)]
end Go.Proofs.YtiiidenbemkihaaGreat

namespace Go.Proofs.YtiiidenbemkihaaGreat
open Go
theorem LaB:Aw Tryz.prog 63 xV yV:=Ds.conI (.cons Caw (.cons Daw (.cons Pae (.nil na oa))))
theorem MaB:Con Tryz.prog 30 Iaz:=VaA (.cons haw (.cons kaw (.cons VI (.nil na oa))))
theorem JaA:∀n,Con Tryz.prog 73 (Say (HaC n).1 (HaC n).2)
 |0=>Mi (fn:=Tryz.f73) (c:=Od Tryz.f73) (by kernel_rfl) (by kernel_rfl) (by kernel_rfl) λ_ h=>h
 |n+1=>baB (.cons (JaA n) (.nil na oa))
theorem NaB:Con Tryz.prog 73 saA:=(JaA Pb)
theorem OaB:Con Tryz.prog 74 Raz:=haB (.cons jay (.nil na oa))
theorem KaA:Con Tryz.prog 32 iaz:=naB (.nil na oa)
theorem PaB:Con Tryz.prog 31 Zaz:=saB (.cons NaB (.cons OaB (.cons KaA (.cons jay (.nil na oa)))))
theorem QaB:Con Tryz.prog 33 iaA:=xaB (.cons fay (.cons gay (.cons gh (.cons Xav (.cons Yav (.nil na oa))))))
theorem RaB:Con Tryz.prog 35 maA:=FaB ⟨.cons hay (.cons Oae (.cons zaw (.cons iay (.cons kaw (.cons VI (.nil na oa)))))),LaB⟩
theorem SaB:Con Tryz.prog 10 IaA:=KaB (.cons QaB (.cons Zav (.cons RaB (.cons PaB (.cons jay (.cons KaA (.cons MaB (.nil na oa))))))))
end Go.Proofs.YtiiidenbemkihaaGreat
