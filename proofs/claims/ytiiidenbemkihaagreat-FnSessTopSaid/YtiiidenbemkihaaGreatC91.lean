/-
  How the abstract state follows the machine's: what a new value, or more memory, leaves as it was. Each operation's run, as the abstract evaluator tells it: those that make no memory. Each operation's run, as the abstract evaluator tells it: addresses, loads, indices. Each operation's run, as the abstract evaluator tells it: indices, slices, lengths, conversions. Each operation's run, as the abstract evaluator tells it: those that make memory. Each operation's run, as the abstract evaluator tells it: all but the calls, in one theorem. Contracts of functions, and a call by a contract. One operation, whichever it is, as the machine runs it. One operation of the simple kind moves the abstract state as the evaluator tells it. One operation of the simple kind, guards and all. Rights that go from slot to slot. 'append': in place, or into a new block. No statement is proved here.
-/
import Derived.Test.YtiiidenbemkihaaGreatB2
import Derived.Laws.IdiomCopy
import Derived.Laws.AppendOwn
import Derived.Laws.MakeOwn
import Derived.Laws.StructEq
import Derived.Laws.Slices
import Derived.Tactics
import Derived.Test.YtiiidenbemkihaaGreatProg
import Derived.Shelf.SlSortFuncK.WholeK
import Derived.Shelf.GgSortFunc.Tiny
import Derived.Tactics2
import Derived.IntWalk
namespace Go.Proofs.YtiiidenbemkihaaGreat
open Go
section
variable {F F':Fz}{w w':World} (hg:Pa F w F' w') (hl:Live F w)
include hg hl
end
section
variable {P:Program}{F:Fz}{B:Nat}{w:World}{a:Act}{ge g:Get}{ow:Nat->Option Nat->Option Nat}
end
section
variable {P:Program}{w:World}
variable {F:Fz}{B:Nat}{a:Act}{ge g:Get}{ow:Nat->Option Nat->Option Nat}
end
section
variable {P:Program}{tt:TT} (htt:Ub P tt)
include htt
end
section
variable {P:Program}{w:World}{F:Fz}{B:Nat}
variable {a:Act}{ge g:Get}{ow:Nat->Option Nat->Option Nat}
end
section
variable {P:Program}{w:World}{F:Fz}{B:Nat}
variable {a:Act}{ge g:Get}{ow:Nat->Option Nat->Option Nat}
end
section
variable {P:Program}{w:World}{F:Fz}{B:Nat}{a:Act}{ge raw:Get}{ow:Nat->Option Nat->Option Nat}
end
section
variable {P:Program}{w:World}{F:Fz}{B:Nat}{a:Act}{ge g:Get}{ow:Nat->Option Nat->Option Nat}
end
section
variable {P:Program}{w:World}{F:Fz}{B:Nat}{a:Act}{ge raw:Get}{ow:Nat->Option Nat->Option Nat}
end
section
variable {w w1:World}{F:Fz}{B:Nat}{b:Nat} (hp:Pk w b w1) (hF:Ke F w w1)
include hp hF
end
section
variable {P:Program}{tt:TT} (htt:Ub P tt) {sp:SP} (hsp:∀f s,spk sp f=some s->Con P f s)
include htt hsp
end
section
variable {B:Nat}{IoB:List Nat}{F0 F:Fz}{e:Env}{tm:Nat->Value}{w:World}{ow:Nat->Option Nat->Option Nat}
end
section
variable {P:Program}
end
section
variable {B:Nat}{IoB:List Nat}{F0 F:Fz}{e:Env}{tm:Nat->Value}{w:World}{ow:Nat->Option Nat->Option Nat}
end
section
variable {P:Program}{B:Nat}{IoB:List Nat}{F0 F:Fz}{e:Env}{tm:Nat->Value}{w:World}{ow:Nat->Option Nat->Option Nat}
end
section
variable {B:Nat}{IoB:List Nat}{F0 F:Fz}{e:Env}{tm:Nat->Value}{w:World}{ow:Nat->Option Nat->Option Nat}
end
section
variable {P:Program}{B:Nat}{IoB:List Nat}{F0 F:Fz}{e:Env}{w:World}{ow:Nat->Option Nat->Option Nat}{a:Act}
end
section
variable {P:Program}
variable {B:Nat}{IoB:List Nat}{F0 F:Fz}{e:Env}{w:World}{ow:Nat->Option Nat->Option Nat}{a:Act}
end
section
variable {P:Program}{tt:TT}{B:Nat}{IoB:List Nat}{F0 F:Fz}{e:Env}{w:World}{ow:Nat->Option Nat->Option Nat}{a:Act}
variable {sp:SP}
end
section
variable {E:Nat->Env}{W:Nat->List Nat}{L:Nat->Bool}
end
section
variable {P:Program}{tt:TT}{sp:SP}{B:Nat}{IoB:List Nat}{F0:Fz}{N:NP}{W0:World}
end
section
variable {B:Nat}{IoB:List Nat}{F0 F:Fz}{e:Env}{tm:Nat->Value}{w:World}{ow:Nat->Option Nat->Option Nat}
end
section
variable {P:Program}{tt:TT}{sp:SP}{B:Nat}{IoB:List Nat}{F0:Fz}{N:NP}{W0:World}
end
section
variable {P:Program}{tt:TT}{sp:SP}{N:NP}{fr:Fr}{c:Code}{e:Env}{n r:Env->Prop}{x:Nat->Env->Prop}
end
open Classical in
section
variable {P:Program}{N:NP}{fr:Fr}{c:Code}{n r:Env->Prop}{x:Nat->Env->Prop}
end
section
variable {P:Program}{tt:TT}{N:NP}{fr:Fr}{c:Code}{e:Env}{n r:Env->Prop}{x:Nat->Env->Prop}
end
section
variable {P:Program}{N:NP}{fr:Fr}{c:Code}{e:Env}{n r:Env->Prop}{x:Nat->Env->Prop}
end
section
variable {P:Program}{tt:TT}{B:Nat}{IoB:List Nat}{F0 F:Fz}{e:Env}{w:World}{ow:Nat->Option Nat->Option Nat}{a:Act}
end
section
variable {P:Program}{tt:TT}{N:NP}{fr:Fr}{c:Code}{e:Env}{n r:Env->Prop}{x:Nat->Env->Prop}
end
section
variable {R A X Y Z:Type}
end
section
variable (tt:TT) (sp:SP) (N:NP) (F:Fnn) (kp:List (Nat×List Nat)) (tb:List (Nat×Nat)) (af:List (Nat×Bool×Nat)) {R:Type} (subs:Ch R)
end
section
variable {P:Program}{tt:TT}{sp:SP}{N:NP}{F:Fnn}{kp:List (Nat×List Nat)}{tb:List (Nat×Nat)}{af:List (Nat×Bool×Nat)}{R:Type}{subs:Ch R}{fr:Fr}{C:Code}{n:Env->Prop}{r:RV->Prop}{x:Nat->Env->Prop}
end
section
variable {P:Program}
end
section
variable {w w':World}{F:Fz}{r:Nat}{B:Nat} (hp:Pk w r w') {o0:Obj} (ho:w.heap[r]? = some o0) (hc:isC o0=false)
include hp ho hc
end
section
variable {P:Program}{N:NP}{B:Nat}{IoB:List Nat}{W0:World}{F0:Fz}{obs:List (Nat×Obj)}{e:Env}{a:Act}{w:World}
end
section
variable {P:Program}{ops:Array Oper}{Q:Exit->Act->World->Prop}
end
section
variable {P:Program}{K n:Nat}
variable {T E:Nat} (M:kE P T K E n) {w:World}{r:Nat}{m:MP} (hr:w.heap[r]? = some (oa m)) (hm:Db n m) {ks:List Int} (hk:ks.length=n)
include M hr
include hm hk
omit hm hk in
end
section
variable {P:Program}{w:World}{r it:Nat}{m:MP} (hr:w.heap[r]? = some (oa m)) {S:List Nat} (hit:w.heap[it]? = some (vb r m S))
include hr hit
end
section
variable {P:Program}
end
section
variable {P:Program}{a:Act}{w:World}{o:Oper}
end
section
variable {P:Program}{N:NP}{B:Nat}{IoB:List Nat}{W0:World}{F0:Fz}{obs:List (Nat×Obj)}{e:Env}{a:Act}{w:World}{Q:Exit->Act->World->Prop}
end
section
variable {P:Program}{tt:TT}{sp:SP}{B:Nat}{IoB:List Nat}{F0:Fz}{N:NP}{W0:World}
end
section
variable {P:Program}{N:NP}{B:Nat}{IoB:List Nat}{W0:World}{F0:Fz}{obs:List (Nat×Obj)}{e:Env}{a:Act}{w:World}
end
section
variable {P:Program}{tt:TT}{N:NP}{sp:SP}{fr:Fr}{C:Code}{F:Fnn}{R:Type}
section
variable {A X Y Z:Type} [Dft A] [Dft X] [Dft Y] [Dft Z] {t:Tr R A X Y Z}{path:List Nat}{env:Env}{rv:R->RV}{pn:A->Env}{px:X->Nat×Env}{py:Y->Nat×Env}{pz:Z->Nat×Env}
end
end
section
variable {P:Program}{tt:TT}{sp:SP}
end
section
variable {N:NP}{B:Nat}{IoB:List Nat}{W0:World}{F0:Fz}{obs:List (Nat×Obj)}{e:Env}{a:Act}{w:World}
end
section
variable {F:Fz}{B:Nat}{w w1:World}{b:Nat}{o:Option Nat->Option Nat}
end
section
variable {P:Program}{tt:TT}{sp:SP}{a:Act}{w:World}
end
section
variable {P:Program}{tt:TT}{sp:SP}{B:Nat}{IoB:List Nat}{F0:Fz}{N:NP}{W0:World}
end
section
open Go Go.Shelf Go.RowKit Go.Lib Go.Sort
section
variable {P:Program}{α:Type} [Inhabited α] {enc:α->List Value}{k:Nat}{w w0 W:World}{blk off:Nat}{d dk X:Array α}
variable {g:Nat}{lb:Array Value}{lt:α->α->Bool}{size:Nat}
end
end
section
open Go Go.Shelf Go.RowKit Go.Lib Go.Sort
variable {P:Program}{ρ:Ren}{α:Type} [Inhabited α]
end
section
open Go Go.Shelf Go.RowKit Go.Lib Go.Sort
variable {P:Program}{ρ:Ren}{α:Type} [Inhabited α]
end
section
open Go Go.Shelf Go.RowKit Go.Lib Go.Sort
variable {P:Program}{ρ:Ren}{α:Type} [Inhabited α]
end
section
open Go Go.Shelf Go.RowKit Go.Lib Go.Sort
variable {P:Program}{ρ:Ren}{α:Type} [Inhabited α]
end
section
open Go Go.Shelf Go.RowKit Go.Lib Go.Sort
variable {P:Program}{ρ:Ren}{α:Type} [Inhabited α]
end
section
open Go Go.Shelf Go.RowKit Go.Lib Go.Sort
variable {P:Program}{ρ:Ren}{α:Type} [Inhabited α]
end
section
open Go Go.Shelf Go.RowKit Go.Lib Go.Sort
variable {P:Program}{ρ:Ren}{α:Type} [Inhabited α]
end
noncomputable section
set_option maxRecDepth 100000
def Yah:SP:=[(42,sN),(43,oQ),(44,Of),(45,nn),(46,Zx),(47,qG),(22,gH),(48,rH)]
abbrev F15:Fnn:=⟨[.cell 2 30,.cell 3 32],.tup [(false,(.st .sess)),(false,(.st .time))],none,[]⟩
abbrev fai:=@OkP Tryz.f15 F15
def Dak(_ _:Int)(_:LP)(_:List LR)(_:List Time)(_:LR)(_:Time):TA (Sess×Time×Unit) Unit:=.w [] (.l (.n ()))
def Xai:=λy z a b c d x=>pcT (Dak y z a b c d x) [0,0,1,0,1,0,0,1,0,0,1,0,1,1,1] [(2,.box [(.fr,.i 0),(.fr,.i 0),(.fr,.nl .plan),(.fr,.nl .lrow),(.fr,.nl .time),(.fr,.nl .row)]),(3,.B [0,0]),(5,.box [(.fr,.i y),(.fr,.i z),(.sh,.lst .plan a),(.sh,.lst .lrow b),(.sh,.lst .time c),(.sh,.lst .row d)]),(7,.B [x.A,x.B])] (rvF F15) (λ_=>[(2,.box [(.fr,.i y),(.fr,.i z),(.sh,.lst .plan a),(.sh,.lst .lrow b),(.sh,.lst .time c),(.sh,.lst .row d)]),(3,.B [x.A,x.B])])
theorem ian(G:Gd Yah){fr x y z a b c d}:fai fr (Xai x y z a b c d):=any_ok G [2,3] 3 (Dak x y z a b c d) rfl rfl rfl (by kernel_rfl) (by kernel_rfl) (by kernel_rfl)
def Eak(x:LB)(y a b:Int)(c:LP)(d:List LR)(z:List Time)(f:LR)(_:Int):TA (Sess×Time×Unit) (Int×Int×Int×LP×(List LR)×(List Time)×LR×Bool):=.w [Lb (x,y) 4,(Lb (x,(ia (x,y) 4).2) 3),(dv z [(Time.mk (ar .add .i64 2 (ia (x,y) 4).1) (ia (x,(ia (x,y) 4).2) 3).1)]),(zy (Sess.mk (Plan.mk a b c) d z f) (cv z [(Time.mk (ar .add .i64 2 (ia (x,y) 4).1) (ia (x,(ia (x,y) 4).2) 3).1)]))] (.l (.n ((ia (x,(ia (x,y) 4).2) 3).2,(tg (Sess.mk (Plan.mk a b c) d z f) (cv z [(Time.mk (ar .add .i64 2 (ia (x,y) 4).1) (ia (x,(ia (x,y) 4).2) 3).1)])).1.Plan.Kind,(tg (Sess.mk (Plan.mk a b c) d z f) (cv z [(Time.mk (ar .add .i64 2 (ia (x,y) 4).1) (ia (x,(ia (x,y) 4).2) 3).1)])).1.Plan.Num,(tg (Sess.mk (Plan.mk a b c) d z f) (cv z [(Time.mk (ar .add .i64 2 (ia (x,y) 4).1) (ia (x,(ia (x,y) 4).2) 3).1)])).1.Plan.Kids,(tg (Sess.mk (Plan.mk a b c) d z f) (cv z [(Time.mk (ar .add .i64 2 (ia (x,y) 4).1) (ia (x,(ia (x,y) 4).2) 3).1)])).1.Ins,(tg (Sess.mk (Plan.mk a b c) d z f) (cv z [(Time.mk (ar .add .i64 2 (ia (x,y) 4).1) (ia (x,(ia (x,y) 4).2) 3).1)])).1.Front,(tg (Sess.mk (Plan.mk a b c) d z f) (cv z [(Time.mk (ar .add .i64 2 (ia (x,y) 4).1) (ia (x,(ia (x,y) 4).2) 3).1)])).1.Told,(tg (Sess.mk (Plan.mk a b c) d z f) (cv z [(Time.mk (ar .add .i64 2 (ia (x,y) 4).1) (ia (x,(ia (x,y) 4).2) 3).1)])).2.2.1)))
def Yai:=λx g y z a b c d f=>pcT (Eak x g y z a b c d f) [0,1,1,0,0,1,0,0,1,0,1,1,1] [(2,.box [(.fr,.i 0),(.fr,.i 0),(.fr,.nl .plan),(.fr,.nl .lrow),(.fr,.nl .time),(.fr,.nl .row)]),(3,.B [0,0]),(4,.R x g),(5,.box [(.fr,.i y),(.fr,.i z),(.sh,.lst .plan a),(.sh,.lst .lrow b),(.sh,.lst .time c),(.sh,.lst .row d)]),(6,.I f)] (rvF F15) (λq=>[(2,.box [(.fr,.i 0),(.fr,.i 0),(.fr,.nl .plan),(.fr,.nl .lrow),(.fr,.nl .time),(.fr,.nl .row)]),(3,.B [0,0]),(4,.R x q.1),(5,.box [(.fr,.i y),(.fr,.i z),(.sh,.lst .plan a),(.sh,.lst .lrow b),(.sh,.lst .time c),(.sh,.lst .row d)]),(6,.I f),(8,.box [(.fr,.i q.2.1),(.fr,.i q.2.2.1),(.sh,.lst .plan q.2.2.2.1),(.sh,.lst .lrow q.2.2.2.2.1),(.sh,.lst .time q.2.2.2.2.2.1),(.sh,.lst .row q.2.2.2.2.2.2.1)]),(10,.O q.2.2.2.2.2.2.2)])
theorem jan(G:Gd Yah){fr x y z a b c d f g}:fai fr (Yai x y z a b c d f g):=ym G [2,3,4,5,6,8,10] [2,3,4,5,6,8,9,10,33,34,35,36,37,38,39,40,41,42,43,44,45,46,47,48] (Eak x y z a b c d f g)
def vai(g:LB)(h a b:Int)(c:LP)(d:List LR)(y:List Time)(f:LR)(i:Int):TA (Sess×Time×Unit) (Int×Int×Int×LP×(List LR)×(List Time)×LR):=.k (Jh (g,h)) λz=>.w [yk (g,h)] (.w [Nk y z.1] (.c (!(Mk y z.1)) (.sn (Xai a b c d y f z.1) (λ_=>.l (.r ((Sess.mk (Plan.mk a b c) d y f),(z.1,())))))
 (.sn (Yai g z.2 a b c d y f i) (λx=>.c x.2.2.2.2.2.2.2 (.l (.n (x.1,x.2.1,x.2.2.1,x.2.2.2.1,x.2.2.2.2.1,x.2.2.2.2.2.1,x.2.2.2.2.2.2.1)))
 (.l (.n (x.1,a,b,c,d,y,f)))))))
def Zai:=λx z a b c d f g y=>pcT (vai x z a b c d f g y) [0,1,0,0,1,0,1,1,1] [(2,.box [(.fr,.i 0),(.fr,.i 0),(.fr,.nl .plan),(.fr,.nl .lrow),(.fr,.nl .time),(.fr,.nl .row)]),(3,.B [0,0]),(4,.R x z),(5,.box [(.fr,.i a),(.fr,.i b),(.sh,.lst .plan c),(.sh,.lst .lrow d),(.sh,.lst .time f),(.sh,.lst .row g)]),(6,.I y)] (rvF F15) (λq=>[(2,.box [(.fr,.i 0),(.fr,.i 0),(.fr,.nl .plan),(.fr,.nl .lrow),(.fr,.nl .time),(.fr,.nl .row)]),(3,.B [0,0]),(4,.R x q.1),(5,.box [(.fr,.i q.2.1),(.fr,.i q.2.2.1),(.sh,.lst .plan q.2.2.2.1),(.sh,.lst .lrow q.2.2.2.2.1),(.sh,.lst .time q.2.2.2.2.2.1),(.sh,.lst .row q.2.2.2.2.2.2)]),(6,.I y)])
theorem kan(G:Gd Yah){fr x y z a b c d f g}:fai fr (Zai x y z a b c d f g):=Nd G [λe=>⟨Xai (gI e 5 0) (gI e 5 1) (gL .plan e 5 2) (gL .lrow e 5 3) (gL .time e 5 4) (gL .row e 5 5) (Pc e 7)⟩,λe=>⟨Yai (gL .byte e 4 0) (gI e 4 1) (gI e 5 0) (gI e 5 1) (gL .plan e 5 2) (gL .lrow e 5 3) (gL .time e 5 4) (gL .row e 5 5) (gI e 6 0)⟩] ⟨λ_=>ian G,λ_=>jan G,trivial⟩
def wai(a:LB)(_ _ _:Int)(_:LP)(_:List LR)(_:List Time)(_:LR)(z c d:Int)(f:LP)(g:List LR)(h:List Time)(i:LR)(y:Int):TX (Sess×Time×Unit) (Int×Int×Int×LP×(List LR)×(List Time)×LR×Int) (Int×Int×Int×LP×(List LR)×(List Time)×LR):=.k (ia (a,z) 10) λb=>.w [((cmp .lss y 5)&&true)=true->(Lb (a,z) 10)] (.c (cond (cmp .lss y 5) (cmp .gtr b.1 0) false) (.sn (Zai a (cond ((cmp .lss y 5)&&true) b.2 z) c d f g h i y) (λx=>.l (.n (x.1,x.2.1,x.2.2.1,x.2.2.2.1,x.2.2.2.2.1,x.2.2.2.2.2.1,x.2.2.2.2.2.2,(ar .add .i64 y 1)))))
 (.l (.x ((cond ((cmp .lss y 5)&&true) b.2 z),c,d,f,g,h,i))))
def ual:=λx h i j k l m n y z a b c d f g=>pcR (wai x h i j k l m n y z a b c d f g) [0,0,1,0,1,1,1] (λq=>[(2,.box [(.fr,.i 0),(.fr,.i 0),(.fr,.nl .plan),(.fr,.nl .lrow),(.fr,.nl .time),(.fr,.nl .row)]),(3,.B [0,0]),(4,.R x q.1),(5,.box [(.fr,.i q.2.1),(.fr,.i q.2.2.1),(.sh,.lst .plan q.2.2.2.1),(.sh,.lst .lrow q.2.2.2.2.1),(.sh,.lst .time q.2.2.2.2.2.1),(.sh,.lst .row q.2.2.2.2.2.2.1)]),(6,.I q.2.2.2.2.2.2.2)]) (y,z,a,b,c,d,f,g) (rvF F15) (λq=>(0,[(2,.box [(.fr,.i 0),(.fr,.i 0),(.fr,.nl .plan),(.fr,.nl .lrow),(.fr,.nl .time),(.fr,.nl .row)]),(3,.B [0,0]),(4,.R x q.1),(5,.box [(.fr,.i q.2.1),(.fr,.i q.2.2.1),(.sh,.lst .plan q.2.2.2.1),(.sh,.lst .lrow q.2.2.2.2.1),(.sh,.lst .time q.2.2.2.2.2.1),(.sh,.lst .row q.2.2.2.2.2.2)])]))
theorem lan(G:Gd Yah){fr x y z a b c d f g h i j k l m n}:fai fr (ual x y z a b c d f g h i j k l m n):=fa G (λe=>⟨Zai (gL .byte e 4 0) (gI e 4 1) (gI e 5 0) (gI e 5 1) (gL .plan e 5 2) (gL .lrow e 5 3) (gL .time e 5 4) (gL .row e 5 5) (gI e 6 0)⟩) λ_=>kan G
def xai:=λf x y z a b c d=>pcL (λs:Int×Int×Int×LP×(List LR)×(List Time)×LR×Int=>ual f x y z a b c d s.1 s.2.1 s.2.2.1 s.2.2.2.1 s.2.2.2.2.1 s.2.2.2.2.2.1 s.2.2.2.2.2.2.1 s.2.2.2.2.2.2.2) (x,y,z,a,b,c,d,0)
theorem man(G:Gd Yah){fr x y z a b c d f}:fai fr (xai x y z a b c d f):=Aa λ_=>lan G
def wal(y:LB)(z a b:Int)(c:LP)(d:List LR)(f:List Time)(g:LR):TA (Sess×Time×Unit) (Int×Int×Int×LP×(List LR)×(List Time)×LR):=.sx (xai y z a b c d f g) (λx=>.l (.n (x.1,x.2.1,x.2.2.1,x.2.2.2.1,x.2.2.2.2.1,x.2.2.2.2.2.1,x.2.2.2.2.2.2)))
def aaj:=λx y z a b c d f=>pcT (wal x y z a b c d f) [0,1,1,1] [(2,.box [(.fr,.i 0),(.fr,.i 0),(.fr,.nl .plan),(.fr,.nl .lrow),(.fr,.nl .time),(.fr,.nl .row)]),(3,.B [0,0]),(4,.R x y),(5,.box [(.fr,.i z),(.fr,.i a),(.sh,.lst .plan b),(.sh,.lst .lrow c),(.sh,.lst .time d),(.sh,.lst .row f)])] (rvF F15) (λq=>[(2,.box [(.fr,.i 0),(.fr,.i 0),(.fr,.nl .plan),(.fr,.nl .lrow),(.fr,.nl .time),(.fr,.nl .row)]),(3,.B [0,0]),(4,.R x q.1),(5,.box [(.fr,.i q.2.1),(.fr,.i q.2.2.1),(.sh,.lst .plan q.2.2.2.1),(.sh,.lst .lrow q.2.2.2.2.1),(.sh,.lst .time q.2.2.2.2.2.1),(.sh,.lst .row q.2.2.2.2.2.2)])])
theorem nan(G:Gd Yah){fr x y z a b c d f}:fai fr (aaj x y z a b c d f):=fa G (λe=>⟨xai (gL .byte e 4 0) (gI e 4 1) (gI e 5 0) (gI e 5 1) (gL .plan e 5 2) (gL .lrow e 5 3) (gL .time e 5 4) (gL .row e 5 5)⟩) λ_=>man G
def baj(a:LB):TN (Sess×Time×Unit):=.k (bG a) λy=>.w [cG a] (.k (Up (y.1,y.2)) λz=>.w [uH (y.1,y.2)] (.sn (aaj y.1 z.2 z.1.Plan.Kind z.1.Plan.Num z.1.Plan.Kids z.1.Ins z.1.Front z.1.Told) (λx=>.w [Xy (y.1,x.1)] (.l (.r ((Sess.mk (Plan.mk x.2.1 x.2.2.1 x.2.2.2.1) x.2.2.2.2.1 x.2.2.2.2.2.1 x.2.2.2.2.2.2),((Qp (y.1,x.1)).1,())))))))
def oan:=λx=>pcT (baj x) [] [(0,.S .byte x)] (rvF F15)
theorem pan(G:Gd Yah){fr x}:fai fr (oan x):=fa G (λe=>⟨aaj (gL .byte e 4 0) (gI e 4 1) (gI e 5 0) (gI e 5 1) (gL .plan e 5 2) (gL .lrow e 5 3) (gL .time e 5 4) (gL .row e 5 5)⟩) λ_=>nan G
def caj(x:LB):Sess×Time×Unit:=ocR (baj x).val
def daj(x:LB):Prop:=(baj x).ob
def Fak:Spec:=spF [(.lst .byte)] (.tup [(false,(.st .sess)),(false,(.st .time))]) caj daj
theorem qan(G:Gd Yah):CP 15 Fak:=ua (pts:=[(.lst .byte)]) (F:=F15) G λ_ _=>pan G
def xal:SP:=[(28,ly),(49,Kh),(46,Zx),(50,MG)]
abbrev F16:Fnn:=⟨[.tmp 4,.tmp 5],.tup [(false,(.lst .item)),(true,.bool)],none,[]⟩
abbrev ran:=@OkP Tryz.f16 F16
def eaj(y:Sess)(x:Time):TN (LI×Bool×Unit):=.k (Wh (sE y)) λz=>.w [Xh (sE y),((!(!z))&&true)=true->(sg x),((!(cond (!z) true (!(oe x))))&&true)=true->(Nk y.Front x)] (.c (cond (cond (!z) true (!(oe x))) true (Mk y.Front x)) (.l (.r ([],(false,()))))
 (.w [Tw y.Told x] (.l (.r ((Sw y.Told x),(true,()))))))
def san:=λx y=>pcT (eaj x y) [] [(0,.agg false [.i x.Plan.Kind,.i x.Plan.Num,.lst .plan x.Plan.Kids,.lst .lrow x.Ins,.lst .time x.Front,.lst .row x.Told]),(1,.agg true [.i y.A,.i y.B])] (rvF F16)
theorem tan(G:Gd xal){fr x y}:ran fr (san x y):=ja G
def faj(x:Sess)(y:Time):LI×Bool×Unit:=ocR (eaj x y).val
def gaj(x:Sess)(y:Time):Prop:=(eaj x y).ob
def Gak:Spec:=spF [(.st .sess),(.st .time)] (.tup [(false,(.lst .item)),(true,.bool)]) faj gaj
theorem uan(G:Gd xal):CP 16 Gak:=ua (pts:=[(.st .sess),(.st .time)]) (F:=F16) G λ_ _=>tan G
end
noncomputable section
set_option maxRecDepth 100000
def yal:SP:=[(27,XR),(51,jl),(52,mI),(53,YH)]
abbrev F17:Fnn:=⟨[.tmp 4,.tmp 5],.tup [(false,(.lst .item)),(true,.bool)],none,[]⟩
abbrev van:=@OkP Tryz.f17 F17
def iaj(y:Sess)(x:Time):TN (LI×Bool×Unit):=.k (lC (sE y)) λz=>.w [mC (sE y),((!(!z))&&true)=true->(ci x),((!(cond (!z) true (!(ai x))))&&true)=true->(ZB y.Front x)] (.c (cond (cond (!z) true (!(ai x))) true (YB y.Front x)) (.l (.r ([],(false,()))))
 (.w [Eq y.Told x] (.l (.r ((Dq y.Told x),(true,()))))))
def wan:=λx y=>pcT (iaj x y) [] [(0,.agg false [.i x.Plan.Kind,.i x.Plan.Num,.lst .plan x.Plan.Kids,.lst .lrow x.Ins,.lst .time x.Front,.lst .row x.Told]),(1,.agg true [.i y.A,.i y.B])] (rvF F17)
theorem xan(G:Gd yal){fr x y}:van fr (wan x y):=ja G
def yai(x:Sess)(y:Time):LI×Bool×Unit:=ocR (iaj x y).val
def zai(x:Sess)(y:Time):Prop:=(iaj x y).ob
def Hak:Spec:=spF [(.st .sess),(.st .time)] (.tup [(false,(.lst .item)),(true,.bool)]) yai zai
theorem yan(G:Gd yal):CP 17 Hak:=ua (pts:=[(.st .sess),(.st .time)]) (F:=F17) G λ_ _=>xan G
def Aai:SP:=[]
abbrev F18:Fnn:=⟨[.tmp 4],.one .fr .bool,none,[]⟩
abbrev jaj:=@OkP Tryz.f18 F18
def gai(y z:LI)(x:Int):TX Bool Int Unit:=.c (cmp .lss x (ba .item y)) (.w [inb x (ba .item y),inb x (ba .item z)] (.c (!(cmp .eql (rd .item y x).Key (rd .item z x).Key&&(cmp .eql (rd .item y x).Val (rd .item z x).Val&&(cmp .eql (rd .item y x).Count (rd .item z x).Count&&true)))) (.l (.r false))
 (.l (.n (ar .add .i64 x 1)))))
 (.l (.x ()))
def zal:=λx y z=>pcR (gai x y z) [0,0,1,0,1,1] (λq=>[(0,.S .item x),(1,.S .item y),(5,.I q)]) z (rvF F18) (λ_=>(0,[]))
theorem zan(G:Gd Aai){fr x y z}:jaj fr (zal x y z):=ja G
def kai:=λx y=>pcL (λs:Int=>zal x y s) 0
theorem Aan(G:Gd Aai){fr x y}:jaj fr (kai x y):=Aa λ_=>zan G
def Iak(x y:LI):TA Bool Unit:=.sx (kai x y) (λ_=>.l (.n ()))
def lai:=λx y=>pcT (Iak x y) [0,1,1] [(0,.S .item x),(1,.S .item y)] (rvF F18) (λ_=>[])
theorem Ban(G:Gd Aai){fr x y}:jaj fr (lai x y):=fa G (λe=>⟨kai (gL .item e 0 0) (gL .item e 1 0)⟩) λ_=>Aan G
def mai(x y:LI):TN Bool:=.c (cmp .neq (ba .item x) (ba .item y)) (.l (.r false))
 (.sn (lai x y) (λ_=>.l (.r true)))
def Can:=λx y=>pcT (mai x y) [] [(0,.S .item x),(1,.S .item y)] (rvF F18)
theorem Dan(G:Gd Aai){fr x y}:jaj fr (Can x y):=fa G (λe=>⟨lai (gL .item e 0 0) (gL .item e 1 0)⟩) λ_=>Ban G
def Zah(x:LI)(y:LI):Bool:=ocR (mai x y).val
def Tah(x:LI)(y:LI):Prop:=(mai x y).ob
def Jak:Spec:=spF [(.lst .item),(.lst .item)] (.one .fr .bool) Zah Tah
theorem Ean(G:Gd Aai):CP 18 Jak:=ua (pts:=[(.lst .item),(.lst .item)]) (F:=F18) G λ_ _=>Dan G
def Aal:SP:=[(55,jq),(51,jl),(53,YH)]
abbrev F20:Fnn:=⟨[.tmp 4],.one .fr (.lst .item),none,[]⟩
abbrev Fan:=@OkP Tryz.f20 F20
def kaj(x:LR)(y:Time):TN LI:=.w [iq x,((!(!(gq x)))&&true)=true->(ci y)] (.c (cond (!(gq x)) true (!(ai y))) (.l (.r []))
 (.w [Eq x y] (.l (.r (Dq x y)))))
def Gan:=λy x=>pcT (kaj y x) [] [(0,.S .row y),(1,.agg true [.i x.A,.i x.B])] (rvF F20)
theorem Han(G:Gd Aal){fr x y}:Fan fr (Gan x y):=ja G
def laj(x:LR)(y:Time):LI:=ocR (kaj x y).val
def maj(x:LR)(y:Time):Prop:=(kaj x y).ob
def Kak:Spec:=spF [(.lst .row),(.st .time)] (.one .fr (.lst .item)) laj maj
theorem Ian(G:Gd Aal):CP 20 Kak:=ua (pts:=[(.lst .row),(.st .time)]) (F:=F20) G λ_ _=>Han G
def aai:SP:=[]
abbrev F38:Fnn:=⟨[.tmp 0],.one (.acc true) (.lst .time),none,[]⟩
abbrev iai:=@OkP Tryz.f38 F38
def nai(_:List Time)(z:Int)(y:List Time)(x:Int):TX (List Time) ((List Time)×Int) ((List Time)):=.c (cmp .leq x 7) (.w [lim (ba .time y) (ba .time [(Time.mk z x)])] (.l (.n ((y++[(Time.mk z x)]),(ar .add .i64 x 1)))))
 (.l (.x y))
def Bal:=λa x y z=>pcR (nai a x y z) [0,0,1,0,0,1,0,0,1,0,1,1] (λq=>[(1,.A .time q.1),(2,.I x),(3,.I q.2)]) (y,z) (rvF F38) (λq=>(2,[(1,.A .time q),(2,.I x)]))
theorem Jan(G:Gd aai){fr x y z a}:iai fr (Bal x y z a):=ja G
def Bai:=λx y=>pcL (λs:(List Time)×Int=>Bal x y s.1 s.2) (x,0)
theorem Kan(G:Gd aai){fr x y}:iai fr (Bai x y):=Aa λ_=>Jan G
def Cal(x:List Time)(y:Int):TA (List Time) ((List Time)):=.sx (Bai x y) (λz=>.l (.n z))
def naj:=λy x=>pcT (Cal y x) [0,1,0,0,1,0,1,1] [(1,.A .time y),(2,.I x)] (rvF F38) (λq=>[(1,.A .time q),(2,.I x)])
theorem Lan(G:Gd aai){fr x y}:iai fr (naj x y):=fa G (λe=>⟨Bai (gL .time e 1 0) (gI e 2 0)⟩) λ_=>Kan G
def oai(y:List Time)(x:Int):TX (List Time) ((List Time)×Int) ((List Time)):=.c (cmp .leq x 7) (.sn (naj y x) (λz=>.l (.n (z,(ar .add .i64 x 1)))))
 (.l (.x y))
def Dal:=λx y=>pcR (oai x y) [0,0,1,0,1,1] (λq=>[(1,.A .time q.1),(2,.I q.2)]) (x,y) (rvF F38) (λq=>(0,[(1,.A .time q)]))
theorem Man(G:Gd aai){fr x y}:iai fr (Dal x y):=fa G (λe=>⟨naj (gL .time e 1 0) (gI e 2 0)⟩) λ_=>Lan G
def Cai:=pcL (λs:(List Time)×Int=>Dal s.1 s.2) ([],0)
theorem Nan(G:Gd aai){fr}:iai fr (Cai):=Aa λ_=>Man G
def Eal:TA (List Time) ((List Time)):=.sx Cai (λx=>.l (.n x))
def oaj:=pcT (Eal) [0,1,1] [(1,.A .time [])] (rvF F38) (λq=>[(1,.A .time q)])
theorem Oan(G:Gd aai){fr}:iai fr (oaj):=fa G (λe=>⟨Cai⟩) λ_=>Nan G
def paj:TN (List Time):=.sn oaj (λx=>.l (.r x))
def Pan:=pcT (paj) [] [] (rvF F38)
theorem Qan(G:Gd aai){fr}:iai fr (Pan):=fa G (λe=>⟨oaj⟩) λ_=>Oan G
def qaj  : List Time:=ocR (paj).val
def raj  : Prop:=(paj).ob
def Lak:Spec:=spF [] (.one (.acc true) (.lst .time)) qaj raj
theorem Ran(G:Gd aai):CP 38 Lak:=ua (pts:=[]) (F:=F38) G λ_ _=>Qan G
def Dai:SP:=[(20,Kak)]
abbrev F40:Fnn:=⟨[.tmp 4],.one (.acc true) (.lst .litem),none,[]⟩
abbrev saj:=@OkP Tryz.f40 F40
def taj(y:List LR)(a:Time)(z:List LI)(x:Int):TX (List LI) ((List LI)×Int) ((List LI)):=.c (cmp .lss x (ba .lrow y)) (.k (laj (rd .lrow y x) a) λb=>.w [inb x (ba .lrow y),maj (rd .lrow y x) a,lim (ba .litem z) (ba .litem [b])] (.l (.n ((z++[b]),(ar .add .i64 x 1)))))
 (.l (.x z))
def Fal:=λy x z a=>pcR (taj y x z a) [0,0,1,0,1,1] (λq=>[(0,.S .lrow y),(3,.B [x.A,x.B]),(5,.A .litem q.1),(6,.I q.2)]) (z,a) (rvF F40) (λq=>(0,[(5,.A .litem q)]))
theorem San(G:Gd Dai){fr x y z a}:saj fr (Fal x y z a):=ja G
def Eai:=λx y=>pcL (λs:(List LI)×Int=>Fal x y s.1 s.2) ([],0)
theorem Tan(G:Gd Dai){fr x y}:saj fr (Eai x y):=Aa λ_=>San G
def Gal(x:List LR)(y:Time):TA (List LI) ((List LI)):=.sx (Eai x y) (λz=>.l (.n z))
def uaj:=λy x=>pcT (Gal y x) [0,1,1] [(0,.S .lrow y),(3,.B [x.A,x.B]),(5,.A .litem [])] (rvF F40) (λq=>[(5,.A .litem q)])
theorem Uan(G:Gd Dai){fr x y}:saj fr (uaj x y):=fa G (λe=>⟨Eai (gL .lrow e 0 0) (Pc e 3)⟩) λ_=>Tan G
def vaj(x:List LR)(y:Time):TN (List LI):=.sn (uaj x y) (λz=>.l (.r z))
def Van:=λy x=>pcT (vaj y x) [] [(0,.S .lrow y),(1,.agg true [.i x.A,.i x.B])] (rvF F40)
theorem Wan(G:Gd Dai){fr x y}:saj fr (Van x y):=fa G (λe=>⟨uaj (gL .lrow e 0 0) (Pc e 3)⟩) λ_=>Uan G
def waj(x:List LR)(y:Time):List LI:=ocR (vaj x y).val
def xaj(x:List LR)(y:Time):Prop:=(vaj x y).ob
def Mak:Spec:=spF [(.lst .lrow),(.st .time)] (.one (.acc true) (.lst .litem)) waj xaj
theorem Xan(G:Gd Dai):CP 40 Mak:=ua (pts:=[(.lst .lrow),(.st .time)]) (F:=F40) G λ_ _=>Wan G
def Fai:SP:=[]
abbrev F82:Fnn:=⟨[.tmp 2],.one .fr .bool,none,[]⟩
abbrev yaj:=@OkP Tryz.f82 F82
def bai(y:LI)(z x:Int):TX Bool Int Unit:=.c (cmp .lss x z) (.w [inb x (ba .item y)] (.c (cond (cond (cond (cond (cond (cond (cmp .lss (rd .item y x).Key 0) true (cmp .geq (rd .item y x).Key 4)) true (cmp .lss (rd .item y x).Val 0)) true (cmp .geq (rd .item y x).Val 100)) true (cmp .eql (rd .item y x).Count 0)) true (cmp .lss (rd .item y x).Count (-1099511627776))) true (cmp .gtr (rd .item y x).Count 1099511627776)) (.l (.r false))
 (.w [((cmp .gtr x 0)&&true)=true->inb (ar .sub .i64 x 1) (ba .item y),((!(cmp .gtr (rd .item y (ar .sub .i64 x 1)).Key (rd .item y x).Key))&&((cmp .gtr x 0)&&true))=true->inb (ar .sub .i64 x 1) (ba .item y),((cmp .eql (rd .item y (ar .sub .i64 x 1)).Key (rd .item y x).Key)&&((!(cmp .gtr (rd .item y (ar .sub .i64 x 1)).Key (rd .item y x).Key))&&((cmp .gtr x 0)&&true)))=true->inb (ar .sub .i64 x 1) (ba .item y)] (.c (cond (cmp .gtr x 0) (cond (cmp .gtr (rd .item y (ar .sub .i64 x 1)).Key (rd .item y x).Key) true (cond (cmp .eql (rd .item y (ar .sub .i64 x 1)).Key (rd .item y x).Key) (cmp .geq (rd .item y (ar .sub .i64 x 1)).Val (rd .item y x).Val) false)) false) (.l (.r false))
 (.l (.n (ar .add .i64 x 1)))))))
 (.l (.x ()))
def Hal:=λx y z=>pcR (bai x y z) [0,0,1,0,1] (λq=>[(0,.S .item x),(5,.S .item x),(6,.I y),(7,.I q)]) z (rvF F82) (λ_=>(0,[(0,.S .item x)]))
theorem Yan(G:Gd Fai){fr x y z}:yaj fr (Hal x y z):=ja G
def Gai:=λx y=>pcL (λs:Int=>Hal x y s) 0
theorem Zan(G:Gd Fai){fr x y}:yaj fr (Gai x y):=Aa λ_=>Yan G
def Ial(x:LI):TA Bool Unit:=.sx (Gai x (ba .item x)) (λ_=>.l (.n ()))
def zaj:=λx=>pcT (Ial x) [0,1] [(0,.S .item x)] (rvF F82) (λ_=>[(0,.S .item x)])
theorem aao(G:Gd Fai){fr x}:yaj fr (zaj x):=fa G (λe=>⟨Gai (gL .item e 0 0) (gI e 6 0)⟩) λ_=>Zan G
def Aaj(x:LI):TN Bool:=.sn (zaj x) (λ_=>.l (.r (cmp .leq (ba .item x) 400)))
def bao:=λx=>pcT (Aaj x) [] [(0,.S .item x)] (rvF F82)
theorem cao(G:Gd Fai){fr x}:yaj fr (bao x):=fa G (λe=>⟨zaj (gL .item e 0 0)⟩) λ_=>aao G
def Qah(x:LI):Bool:=ocR (Aaj x).val
def Rah(x:LI):Prop:=(Aaj x).ob
def cai:Spec:=spF [(.lst .item)] (.one .fr .bool) Qah Rah
theorem dao(G:Gd Fai):CP 82 cai:=ua (pts:=[(.lst .item)]) (F:=F82) G λ_ _=>cao G
def Jal:SP:=[]
abbrev Nak:Fnn:=⟨[.tmp 2],.one .fr .bool,none,[]⟩
abbrev eao:=@OkP Tryz.f138 Nak
def Baj(x:Int):TN Bool:=.l (.r (cond (cmp .geq x 1) (cmp .leq x 7) false))
def fao:=λx=>pcT (Baj x) [] [(0,.I x)] (rvF Nak)
theorem gao(G:Gd Jal){fr x}:eao fr (fao x):=ja G
def Caj(x:Int):Bool:=ocR (Baj x).val
def Daj(x:Int):Prop:=(Baj x).ob
def Oak:Spec:=spF [(.int .i64)] (.one .fr .bool) Caj Daj
theorem hao(G:Gd Jal):CP 138 Oak:=ua (pts:=[(.int .i64)]) (F:=Nak) G λ_ _=>gao G
def pai:SP:=[(82,cai),(138,Oak),(134,IH),(96,iF)]
abbrev qai:Fnn:=⟨[.tmp 4],.one .fr (.lst .item),none,[]⟩
abbrev Hai:=@OkP Tryz.f115 qai
def Kal(b:Int)(a x:LI)(_ y:Int):TA LI LI:=.w [inb y (ba .item x)] (.k (Wz (rd .item x y).Key (rd .item x y).Val b) λz=>.w [Xz (rd .item x y).Key (rd .item x y).Val b] (.c z.2.2.1 (.w [lim (ba .item a) (ba .item [(Item.mk z.1 z.2.1 (rd .item x y).Count)])] (.l (.n (a++[(Item.mk z.1 z.2.1 (rd .item x y).Count)]))))
 (.l (.n a))))
def Eaj:=λx b y z a=>pcT (Kal x b y z a) [0,1,1,0,0,1,0,1,1,1] [(1,.I x),(5,.A .item b),(20,.S .item y),(21,.I z),(22,.I a)] (rvF qai) (λq=>[(1,.I x),(5,.A .item q),(20,.S .item y),(21,.I z),(22,.I a)])
theorem iao(G:Gd pai){fr x y z a b}:Hai fr (Eaj x y z a b):=ja G
def Faj(a:Int)(b:LI)(y:Int)(z:LI)(x:Int):TX LI (LI×Int) LI:=.c (cmp .lss x y) (.sn (Eaj a z b y x) (λc=>.l (.n (c,(ar .add .i64 x 1)))))
 (.l (.x z))
def Lal:=λx y z a b=>pcR (Faj x y z a b) [0,0,1,0,1,1,1] (λq=>[(1,.I x),(5,.A .item q.1),(20,.S .item y),(21,.I z),(22,.I q.2)]) (a,b) (rvF qai) (λq=>(0,[(5,.A .item q)]))
theorem jao(G:Gd pai){fr x y z a b}:Hai fr (Lal x y z a b):=fa G (λe=>⟨Eaj (gI e 1 0) (gL .item e 5 0) (gL .item e 20 0) (gI e 21 0) (gI e 22 0)⟩) λ_=>iao G
def Iai:=λx y z=>pcL (λs:LI×Int=>Lal x y z s.1 s.2) ([],0)
theorem kao(G:Gd pai){fr x y z}:Hai fr (Iai x y z):=Aa λ_=>jao G
def Mal(x:LI)(y:Int):TA LI LI:=.sx (Iai y x (ba .item x)) (λz=>.l (.n z))
def Gaj:=λx y=>pcT (Mal x y) [0,1,1,1] [(0,.S .item x),(1,.I y),(5,.A .item [])] (rvF qai) (λq=>[(5,.A .item q)])
theorem lao(G:Gd pai){fr x y}:Hai fr (Gaj x y):=fa G (λe=>⟨Iai (gI e 1 0) (gL .item e 20 0) (gI e 21 0)⟩) λ_=>kao G
def Haj(x:LI)(y:Int):TN LI:=.w [Rah x,((!(!(Qah x)))&&true)=true->(Daj y)] (.c (cond (!(Qah x)) true (!(Caj y))) (.l (.r []))
 (.sn (Gaj x y) (λz=>.w [Am z] (.l (.r (vt z))))))
def mao:=λx y=>pcT (Haj x y) [] [(0,.S .item x),(1,.I y)] (rvF qai)
theorem nao(G:Gd pai){fr x y}:Hai fr (mao x y):=fa G (λe=>⟨Gaj (gL .item e 0 0) (gI e 1 0)⟩) λ_=>lao G
def Iaj(x:LI)(y:Int):LI:=ocR (Haj x y).val
def Jaj(x:LI)(y:Int):Prop:=(Haj x y).ob
def Pak:Spec:=spF [(.lst .item),(.int .i64)] (.one .fr (.lst .item)) Iaj Jaj
theorem oao(G:Gd pai):CP 115 Pak:=ua (pts:=[(.lst .item),(.int .i64)]) (F:=qai) G λ_ _=>nao G
def Nal:SP:=[(82,cai),(96,iF)]
abbrev Qak:Fnn:=⟨[.tmp 4],.one .fr (.lst .item),none,[]⟩
abbrev pao:=@OkP Tryz.f116 Qak
def Kaj(x y:LI):TN LI:=.w [Rah x,((!(!(Qah x)))&&true)=true->(Rah y)] (.c (cond (!(Qah x)) true (!(Qah y))) (.l (.r []))
 (.w [lim (ba .item []) (ba .item x),lim (ba .item ([]++x)) (ba .item y),Am (([]++x)++y)] (.l (.r (vt (([]++x)++y))))))
def qao:=λx y=>pcT (Kaj x y) [] [(0,.S .item x),(1,.S .item y)] (rvF Qak)
theorem rao(G:Gd Nal){fr x y}:pao fr (qao x y):=ja G
def Laj(x:LI)(y:LI):LI:=ocR (Kaj x y).val
def Maj(x:LI)(y:LI):Prop:=(Kaj x y).ob
def Rak:Spec:=spF [(.lst .item),(.lst .item)] (.one .fr (.lst .item)) Laj Maj
theorem sao(G:Gd Nal):CP 116 Rak:=ua (pts:=[(.lst .item),(.lst .item)]) (F:=Qak) G λ_ _=>rao G
def Jai:SP:=[(82,cai)]
abbrev Kai:Fnn:=⟨[.tmp 2],.one (.acc false) (.lst .item),none,[2]⟩
abbrev Naj:=@OkP Tryz.f117 Kai
def Oaj(_:LI)(z:Int)(y:LI)(x:Int):TX LI (LI×Int) LI:=.c (cmp .lss x z) (.w [inb x (ba .item y),inb x (ba .item y),inb x (ba .item y)] (.l (.n ((List.set y (Int.toNat x) (Item.mk (rd .item y x).Key (rd .item y x).Val (IntKind.wrap .i64 (0 - (rd .item y x).Count)))),(ar .add .i64 x 1)))))
 (.l (.x y))
def Oal:=λa x y z=>pcR (Oaj a x y z) [0,0,1,0,1,1,1] (λq=>[(3,.v (.own false) (.lst .item q.1)),(12,.I x),(13,.I q.2)]) (y,z) (rvF Kai) (λq=>(0,[(3,.v (.own false) (.lst .item q))]))
theorem tao(G:Gd Jai){fr x y z a}:Naj fr (Oal x y z a):=ja G
def Lai:=λx y=>pcL (λs:LI×Int=>Oal x y s.1 s.2) (x,0)
theorem uao(G:Gd Jai){fr x y}:Naj fr (Lai x y):=Aa λ_=>tao G
def Pal(x:LI):TA LI LI:=.sx (Lai x (ba .item x)) (λy=>.l (.n y))
def Paj:=λx=>pcT (Pal x) [0,1,1,1] [(3,.v (.acc false) (.lst .item x))] (rvF Kai) (λq=>[(3,.v (.own false) (.lst .item q))])
theorem vao(G:Gd Jai){fr x}:Naj fr (Paj x):=EV G [λe=>⟨Lai (gL .item e 3 0) (gI e 12 0)⟩] ⟨λ_=>uao G,trivial⟩ [(4,3)] []
def Qaj(x:LI):TN LI:=.w [Rah x] (.c (!(Qah x)) (.l (.r []))
 (.w [lim (ba .item []) (ba .item x)] (.sn (Paj ([]++x)) (λy=>.l (.r y)))))
def wao:=λx=>pcT (Qaj x) [] [(0,.S .item x)] (rvF Kai)
theorem xao(G:Gd Jai){fr x}:Naj fr (wao x):=fa G (λe=>⟨Paj (gL .item e 3 0)⟩) λ_=>vao G
def Raj(x:LI):LI:=ocR (Qaj x).val
def Saj(x:LI):Prop:=(Qaj x).ob
def Sak:Spec:=spF [(.lst .item)] (.one (.acc false) (.lst .item)) Raj Saj
theorem yao(G:Gd Jai):CP 117 Sak:=ua (pts:=[(.lst .item)]) (F:=Kai) G λ_ _=>xao G
def Uah:SP:=[(82,cai),(135,VH),(96,iF)]
abbrev dai:Fnn:=⟨[.tmp 4],.one .fr (.lst .item),none,[]⟩
abbrev eai:=@OkP Tryz.f118 dai
def Qal(y a:LI)(x:Item)(_:LI)(_ _ _ z:Int):TA LI LI:=.w [inb z (ba .item y)] (.c (cmp .eql x.Key (rd .item y z).Key) (.k (SH x.Val (rd .item y z).Val) λb=>.w [UH x.Val (rd .item y z).Val,lim (ba .item a) (ba .item [(Item.mk x.Key b (ar .mul .i64 x.Count (rd .item y z).Count))])] (.l (.n (a++[(Item.mk x.Key b (ar .mul .i64 x.Count (rd .item y z).Count))]))))
 (.l (.n a)))
def Taj:=λy f x z a b c d=>pcT (Qal y f x z a b c d) [0,1,1,0,0,1,1,0,0,1,1,0,0,1,0,1,1,1] [(1,.S .item y),(5,.A .item f),(7,.B [x.Key,x.Val,x.Count]),(19,.S .item z),(20,.I a),(21,.I b),(25,.S .item y),(26,.I c),(27,.I d)] (rvF dai) (λq=>[(1,.S .item y),(5,.A .item q),(7,.B [x.Key,x.Val,x.Count]),(19,.S .item z),(20,.I a),(21,.I b),(25,.S .item y),(26,.I c),(27,.I d)])
theorem zao(G:Gd Uah){fr x y z a b c d f}:eai fr (Taj x y z a b c d f):=ja G
def Uaj(a _:LI)(b:Item)(c:LI)(d f y:Int)(z:LI)(x:Int):TX LI (LI×Int) LI:=.c (cmp .lss x y) (.sn (Taj a z b c d f y x) (λg=>.l (.n (g,(ar .add .i64 x 1)))))
 (.l (.x z))
def Ral:=λx g y z a b c d f=>pcR (Uaj x g y z a b c d f) [0,0,1,1,0,0,1,1,0,0,1,0,1,1,1] (λq=>[(1,.S .item x),(5,.A .item q.1),(7,.B [y.Key,y.Val,y.Count]),(19,.S .item z),(20,.I a),(21,.I b),(25,.S .item x),(26,.I c),(27,.I q.2)]) (d,f) (rvF dai) (λq=>(2,[(1,.S .item x),(5,.A .item q),(19,.S .item z),(20,.I a),(21,.I b)]))
theorem Aao(G:Gd Uah){fr x y z a b c d f g}:eai fr (Ral x y z a b c d f g):=fa G (λe=>⟨Taj (gL .item e 1 0) (gL .item e 5 0) (wah e 7) (gL .item e 19 0) (gI e 20 0) (gI e 21 0) (gI e 26 0) (gI e 27 0)⟩) λ_=>zao G
def Mai:=λy x z a b c d=>pcL (λs:LI×Int=>Ral y x z a b c d s.1 s.2) (x,0)
theorem Bao(G:Gd Uah){fr x y z a b c d}:eai fr (Mai x y z a b c d):=Aa λ_=>Aao G
def Sal(z a x:LI)(b y:Int):TA LI LI:=.w [inb y (ba .item x)] (.sx (Mai z a (rd .item x y) x b y (ba .item z)) (λc=>.l (.n c)))
def Vaj:=λx b y z a=>pcT (Sal x b y z a) [0,1,1,0,0,1,0,1,1,1] [(1,.S .item x),(5,.A .item b),(19,.S .item y),(20,.I z),(21,.I a)] (rvF dai) (λq=>[(1,.S .item x),(5,.A .item q),(19,.S .item y),(20,.I z),(21,.I a)])
theorem Cao(G:Gd Uah){fr x y z a b}:eai fr (Vaj x y z a b):=fa G (λe=>⟨Mai (gL .item e 1 0) (gL .item e 5 0) (wah e 7) (gL .item e 19 0) (gI e 20 0) (gI e 21 0) (gI e 26 0)⟩) λ_=>Bao G
def Waj(a b:LI)(y:Int)(z:LI)(x:Int):TX LI (LI×Int) LI:=.c (cmp .lss x y) (.sn (Vaj a z b y x) (λc=>.l (.n (c,(ar .add .i64 x 1)))))
 (.l (.x z))
def Tal:=λx y z a b=>pcR (Waj x y z a b) [0,0,1,0,1,1,1] (λq=>[(1,.S .item x),(5,.A .item q.1),(19,.S .item y),(20,.I z),(21,.I q.2)]) (a,b) (rvF dai) (λq=>(0,[(5,.A .item q)]))
theorem Dao(G:Gd Uah){fr x y z a b}:eai fr (Tal x y z a b):=fa G (λe=>⟨Vaj (gL .item e 1 0) (gL .item e 5 0) (gL .item e 19 0) (gI e 20 0) (gI e 21 0)⟩) λ_=>Cao G
def Nai:=λx y z=>pcL (λs:LI×Int=>Tal x y z s.1 s.2) ([],0)
theorem Eao(G:Gd Uah){fr x y z}:eai fr (Nai x y z):=Aa λ_=>Dao G
def Ual(x y:LI):TA LI LI:=.sx (Nai y x (ba .item x)) (λz=>.l (.n z))
def Xaj:=λx y=>pcT (Ual x y) [0,1,1,1] [(0,.S .item x),(1,.S .item y),(5,.A .item [])] (rvF dai) (λq=>[(5,.A .item q)])
theorem Fao(G:Gd Uah){fr x y}:eai fr (Xaj x y):=fa G (λe=>⟨Nai (gL .item e 1 0) (gL .item e 19 0) (gI e 20 0)⟩) λ_=>Eao G
def Yaj(x y:LI):TN LI:=.w [Rah x,((!(!(Qah x)))&&true)=true->(Rah y)] (.c (cond (!(Qah x)) true (!(Qah y))) (.l (.r []))
 (.sn (Xaj x y) (λz=>.w [Am z] (.l (.r (vt z))))))
def Gao:=λx y=>pcT (Yaj x y) [] [(0,.S .item x),(1,.S .item y)] (rvF dai)
theorem Hao(G:Gd Uah){fr x y}:eai fr (Gao x y):=fa G (λe=>⟨Xaj (gL .item e 0 0) (gL .item e 1 0)⟩) λ_=>Fao G
def Zaj(x:LI)(y:LI):LI:=ocR (Yaj x y).val
def aak(x:LI)(y:LI):Prop:=(Yaj x y).ob
def Tak:Spec:=spF [(.lst .item),(.lst .item)] (.one .fr (.lst .item)) Zaj aak
theorem Iao(G:Gd Uah):CP 118 Tak:=ua (pts:=[(.lst .item),(.lst .item)]) (F:=dai) G λ_ _=>Hao G
abbrev V83:=Plan->List LI->LI×Bool×Unit
abbrev Q83:=Plan->List LI->Prop
def bak(v:V83)(p:Q83):Spec:=⟨[(.st .plan),(.lst .litem)],.tup [(false,(.lst .item)),(true,.bool)],false,λx=>(v x.1 x.2.1,0),λx=>p x.1 x.2.1⟩
def rai(x:V83)(y:Q83):SP:=[(83,bak x y),(115,Pak),(116,Rak),(117,Sak),(118,Tak),(119,cI),(82,cai)]
abbrev F83:Fnn:=⟨[.tmp 4,.tmp 5],.tup [(false,(.lst .item)),(true,.bool)],none,[]⟩
abbrev Oai:=@OkP Tryz.f83 F83
def cak(c:V83)(d:Q83)(b:List LI)(_ _:Int)(y:LP)(f:Int)(z:List LI)(x:Int):TX (LI×Bool×Unit) ((List LI)×Int) ((List LI)):=.c (cmp .lss x f) (.w [inb x (ba .plan y)] (.k (c (pE (rd .plan y x)) b) λa=>.w [d (pE (rd .plan y x)) b] (.c (!a.2.1) (.l (.r ([],(false,()))))
 (.w [lim (ba .litem z) (ba .litem [a.1])] (.l (.n ((z++[a.1]),(ar .add .i64 x 1))))))))
 (.l (.x z))
def Wal:=λf g y z a x b c d=>pcR (cak f g y z a x b c d) [0,0,1,0,1,1] (λq=>[(1,.S .litem y),(2,.box [(.fr,.i z),(.fr,.i a),(.sh,.lst .plan x)]),(6,.v (.acc false) (.lst .litem q.1)),(13,.S .plan x),(14,.I b),(15,.I q.2)]) (c,d) (rvF F83) (λq=>(0,[(1,.S .litem y),(2,.box [(.fr,.i z),(.fr,.i a),(.sh,.lst .plan x)]),(6,.v (.acc false) (.lst .litem q))]))
theorem Jao{x:V83}{y:Q83}(G:Gd (rai x y)){fr z a b c d f g}:Oai fr (Wal x y z a b c d f g):=ja G
def Pai:=λx y z a b c d=>pcL (λs:(List LI)×Int=>Wal x y z a b c d s.1 s.2) ([],0)
theorem Kao{x:V83}{y:Q83}(G:Gd (rai x y)){fr z a b c d}:Oai fr (Pai x y z a b c d):=Aa λ_=>Jao G
def Xal(y:V83)(z:Q83)(a:List LI)(b c:Int)(x:LP):TA (LI×Bool×Unit) ((List LI)):=.sx (Pai y z a b c x (ba .plan x)) (λd=>.l (.n d))
def dak:=λb c x y z a=>pcT (Xal b c x y z a) [0,1,1] [(1,.S .litem x),(2,.box [(.fr,.i y),(.fr,.i z),(.sh,.lst .plan a)]),(6,.v .fr (.nl .litem))] (rvF F83) (λq=>[(1,.S .litem x),(2,.box [(.fr,.i y),(.fr,.i z),(.sh,.lst .plan a)]),(6,.v (.acc false) (.lst .litem q))])
theorem Lao{x:V83}{y:Q83}(G:Gd (rai x y)){fr z a b c}:Oai fr (dak x y z a b c):=fa G (λe=>⟨Pai x y (gL .litem e 1 0) (gI e 2 0) (gI e 2 1) (gL .plan e 2 2) (gI e 14 0)⟩) λ_=>Kao G
def eak(_:V83)(_:Q83)(a:List LI)(z y:Int)(_:LP)(x:List LI):TA (LI×Bool×Unit) LI:=.c (cmp .eql z 1) (.w [inb y (ba .litem a),lim (ba .item []) (ba .item (rd .litem a y))] (.l (.n ([]++(rd .litem a y)))))
 (.c (cmp .eql z 2) (.w [inb 0 (ba .litem x),Jaj (rd .litem x 0) y] (.l (.n (Iaj (rd .litem x 0) y))))
 (.c (cmp .eql z 3) (.w [inb 0 (ba .litem x),inb 1 (ba .litem x),Maj (rd .litem x 0) (rd .litem x 1)] (.l (.n (Laj (rd .litem x 0) (rd .litem x 1)))))
 (.c (cmp .eql z 4) (.w [inb 0 (ba .litem x),Saj (rd .litem x 0)] (.l (.n (Raj (rd .litem x 0)))))
 (.c (cmp .eql z 5) (.w [inb 0 (ba .litem x),inb 1 (ba .litem x),aak (rd .litem x 0) (rd .litem x 1)] (.l (.n (Zaj (rd .litem x 0) (rd .litem x 1)))))
 (.w [inb 0 (ba .litem x),mB (rd .litem x 0) y] (.l (.n (lB (rd .litem x 0) y))))))))
def fak:=λc d x y z a b=>pcT (eak c d x y z a b) [0,1,1,1,1] [(1,.S .litem x),(2,.box [(.fr,.i y),(.fr,.i z),(.sh,.lst .plan a)]),(6,.v (.acc false) (.lst .litem b))] (rvF F83) (λq=>[(11,.S .item q)])
theorem Mao{x:V83}{y:Q83}(G:Gd (rai x y)){fr z a b c d}:Oai fr (fak x y z a b c d):=ja G
def sai(z:V83)(a:Q83)(x:Plan)(b:List LI):TN (LI×Bool×Unit):=.sn (dak z a b x.Kind x.Num x.Kids) (λc=>.sn (fak z a b x.Kind x.Num x.Kids c) (λy=>.w [Rah y] (.l (.r (y,((Qah y),()))))))
def Nao:=λz a x y=>pcT (sai z a x y) [] [(0,.agg false [.i x.Kind,.i x.Num,.lst .plan x.Kids]),(1,.S .litem y)] (rvF F83)
theorem Oao{x:V83}{y:Q83}(G:Gd (rai x y)){fr z a}:Oai fr (Nao x y z a):=Nd G [λe=>⟨dak x y (gL .litem e 1 0) (gI e 2 0) (gI e 2 1) (gL .plan e 2 2)⟩,λe=>⟨fak x y (gL .litem e 1 0) (gI e 2 0) (gI e 2 1) (gL .plan e 2 2) (gL .litem e 6 0)⟩] ⟨λ_=>Lao G,λ_=>Mao G,trivial⟩
theorem Pao{x:V83}{y:Q83}(G:Gd (rai x y)):CP 83 (bak (λz a=>ocR (sai x y z a).val) (λz a=>(sai x y z a).ob)):=ua (pts:=[(.st .plan),(.lst .litem)]) (F:=F83) G λ_ _=>Oao G
def Oah:Nat->V83×Q83
 |0=>(λ_ _=>default,λ_ _=>False)
 |n+1=>(λx y=>ocR (sai (Oah n).1 (Oah n).2 x y).val,λx y=>(sai (Oah n).1 (Oah n).2 x y).ob)
def Uak:V83:=(Oah gc).1
def Vak:Q83:=(Oah gc).2
def Yal:Spec:=bak Uak Vak
def Qai:SP:=[(69,yH),(82,cai),(83,Yal)]
abbrev F39:Fnn:=⟨[.tmp 4,.tmp 5],.tup [(false,(.lst .item)),(true,.bool)],none,[]⟩
abbrev gak:=@OkP Tryz.f39 F39
def hak(y:List LI)(_ _:Int)(_:LP)(z x:Int):TX (LI×Bool×Unit) Int Unit:=.c (cmp .lss x z) (.w [inb x (ba .litem y)] (.w [Rah (rd .litem y x)] (.c (!(Qah (rd .litem y x))) (.l (.r ([],(false,()))))
 (.l (.n (ar .add .i64 x 1))))))
 (.l (.x ()))
def Zal:=λx y z a b c=>pcR (hak x y z a b c) [0,0,1,0,1,1] (λq=>[(1,.S .litem x),(2,.box [(.fr,.i y),(.fr,.i z),(.sh,.lst .plan a)]),(18,.S .litem x),(19,.I b),(20,.I q)]) c (rvF F39) (λ_=>(0,[(1,.S .litem x),(2,.box [(.fr,.i y),(.fr,.i z),(.sh,.lst .plan a)])]))
theorem Qao(G:Gd Qai){fr x y z a b c}:gak fr (Zal x y z a b c):=ja G
def Rai:=λx y z a b=>pcL (λs:Int=>Zal x y z a b s) 0
theorem Rao(G:Gd Qai){fr x y z a b}:gak fr (Rai x y z a b):=Aa λ_=>Qao G
def aam(x:List LI)(y z:Int)(a:LP):TA (LI×Bool×Unit) Unit:=.sx (Rai x y z a (ba .litem x)) (λ_=>.l (.n ()))
def iak:=λx y z a=>pcT (aam x y z a) [0,1,1] [(1,.S .litem x),(2,.box [(.fr,.i y),(.fr,.i z),(.sh,.lst .plan a)])] (rvF F39) (λ_=>[(1,.S .litem x),(2,.box [(.fr,.i y),(.fr,.i z),(.sh,.lst .plan a)])])
theorem Sao(G:Gd Qai){fr x y z a}:gak fr (iak x y z a):=fa G (λe=>⟨Rai (gL .litem e 1 0) (gI e 2 0) (gI e 2 1) (gL .plan e 2 2) (gI e 19 0)⟩) λ_=>Rao G
def jak(x:Plan)(y:List LI):TN (LI×Bool×Unit):=.w [Gz (pE x)] (.c (cond (!(Ez (pE x))) true (cmp .neq (ba .litem y) 2)) (.l (.r ([],(false,()))))
 (.sn (iak y x.Kind x.Num x.Kids) (λ_=>.k (Uak (pE x) y) λz=>.w [Vak (pE x) y] (.c (!z.2.1) (.l (.r ([],(false,()))))
 (.l (.r (z.1,(true,()))))))))
def Tao:=λx y=>pcT (jak x y) [] [(0,.agg false [.i x.Kind,.i x.Num,.lst .plan x.Kids]),(1,.S .litem y)] (rvF F39)
theorem Uao(G:Gd Qai){fr x y}:gak fr (Tao x y):=fa G (λe=>⟨iak (gL .litem e 1 0) (gI e 2 0) (gI e 2 1) (gL .plan e 2 2)⟩) λ_=>Sao G
def kak(x:Plan)(y:List LI):LI×Bool×Unit:=ocR (jak x y).val
def lak(x:Plan)(y:List LI):Prop:=(jak x y).ob
def Wak:Spec:=spF [(.st .plan),(.lst .litem)] (.tup [(false,(.lst .item)),(true,.bool)]) kak lak
theorem Vao(G:Gd Qai):CP 39 Wak:=ua (pts:=[(.st .plan),(.lst .litem)]) (F:=F39) G λ_ _=>Uao G
def Sai:SP:=[(15,Fak),(16,Gak),(17,Hak),(18,Jak),(28,ly),(38,Lak),(40,Mak),(39,Wak)]
abbrev F12:Fnn:=⟨[.tmp 2],.one .fr .bool,none,[]⟩
abbrev mak:=@OkP Tryz.f12 F12
def nak(z a:Int)(b:LP)(c:List LR)(g:List Time)(h:LR)(y:List Time)(x:Int):TX Bool Int Unit:=.c (cmp .lss x (ba .time y)) (.k (yai (Sess.mk (Plan.mk z a b) c g h) (rd .time y x)) λd=>.w [inb x (ba .time y),zai (Sess.mk (Plan.mk z a b) c g h) (rd .time y x)] (.k (waj c (rd .time y x)) λi=>.k (kak (Plan.mk z a b) i) λf=>.w [inb x (ba .time y),xaj c (rd .time y x),lak (Plan.mk z a b) i] (.w [((!(!f.2.1))&&(d.2.1&&true))=true->(Tah d.1 f.1)] (.c (cond d.2.1 (cond (!f.2.1) true (!(Zah d.1 f.1))) false) (.l (.r false))
 (.l (.n (ar .add .i64 x 1)))))))
 (.l (.x ()))
def bam:=λx y z a b c d f=>pcR (nak x y z a b c d f) [0,0,1,0,1,1,1,1,1,1,1] (λq=>[(3,.box [(.fr,.i x),(.fr,.i y),(.sh,.lst .plan z),(.sh,.lst .lrow a),(.sh,.lst .time b),(.sh,.lst .row c)]),(9,.A .time d),(10,.I q)]) f (rvF F12) (λ_=>(0,[]))
theorem Wao(G:Gd Sai){fr x y z a b c d f}:mak fr (bam x y z a b c d f):=ja G
def Tai:=λx y z a b c d=>pcL (λs:Int=>bam x y z a b c d s) 0
theorem Xao(G:Gd Sai){fr x y z a b c d}:mak fr (Tai x y z a b c d):=Aa λ_=>Wao G
def cam(x y:Int)(z:LP)(a:List LR)(b:List Time)(c:LR)(d:List Time):TA Bool Unit:=.sx (Tai x y z a b c d) (λ_=>.l (.n ()))
def oak:=λx y z a b c d=>pcT (cam x y z a b c d) [0,1,1,1,1,1,1,1] [(3,.box [(.fr,.i x),(.fr,.i y),(.sh,.lst .plan z),(.sh,.lst .lrow a),(.sh,.lst .time b),(.sh,.lst .row c)]),(9,.A .time d)] (rvF F12) (λ_=>[])
theorem Yao(G:Gd Sai){fr x y z a b c d}:mak fr (oak x y z a b c d):=fa G (λe=>⟨Tai (gI e 3 0) (gI e 3 1) (gL .plan e 3 2) (gL .lrow e 3 3) (gL .time e 3 4) (gL .row e 3 5) (gL .time e 9 0)⟩) λ_=>Xao G
def Uai(a:LB):TN Bool:=.c (cmp .gtr (ba .byte a) 1048576) (.l (.r true))
 (.k (caj a) λx=>.w [daj a] (.k (faj (sE x.1) x.2.1) λy=>.w [gaj (sE x.1) x.2.1] (.k (yai (sE x.1) x.2.1) λz=>.w [zai (sE x.1) x.2.1] (.k (Zah z.1 y.1) λb=>.w [((!(!(z.2.1 == y.2.1)))&&true)=true->(Tah z.1 y.1),((!(cond (!(z.2.1 == y.2.1)) true (!b)))&&true)=true->(Xh (sE x.1))] (.c (cond (cond (!(z.2.1 == y.2.1)) true (!b)) true (!(Wh (sE x.1)))) (.w [((z.2.1 == y.2.1)&&true)=true->(Tah z.1 y.1)] (.l (.r (cond (z.2.1 == y.2.1) b false))))
 (.w [raj] (.sn (oak x.1.Plan.Kind x.1.Plan.Num x.1.Plan.Kids x.1.Ins x.1.Front x.1.Told qaj) (λ_=>.l (.r true)))))))))
def Zao:=λx=>pcT (Uai x) [] [(0,.S .byte x)] (rvF F12)
theorem aap(G:Gd Sai){fr x}:mak fr (Zao x):=fa G (λe=>⟨oak (gI e 3 0) (gI e 3 1) (gL .plan e 3 2) (gL .lrow e 3 3) (gL .time e 3 4) (gL .row e 3 5) (gL .time e 9 0)⟩) λ_=>Yao G
def pak(x:LB):Bool:=ocR (Uai x).val
def qak(x:LB):Prop:=(Uai x).ob
def dam:Spec:=spF [(.lst .byte)] (.one .fr .bool) pak qak
theorem bap(G:Gd Sai):CP 12 dam:=ua (pts:=[(.lst .byte)]) (F:=F12) G λ_ _=>aap G
end
section
namespace Ds
open Go
set_option maxRecDepth 100000
section
variable {P:Program}{tt:TT}{N:NP}{fr:Fr}{Cd:Code}{F:Fnn}{R A X Y Z:Type}
end
end Ds
end
theorem Zak:∀l,0<=Im l
 |[]=>Int.le_refl _
 |q::r=>by have:=Zak r;simp only[Im];split<;>omega
theorem aal:∀l k,sumT l k<=Im l/\-Im l<=sumT l k
 |[],k=>by simp[sumT,Im]
 |q::r,k=>by
  have:=aal r k;simp only[Im,sumT];split<;>split<;>omega
theorem lam{l:List (List Int×Int)}(h:Im l<=1000000000000000)(k:List Int):Df l k=sumT l k:=by
 suffices ∀(l:List (List Int×Int)) (s B:Int),B+Im l<=1000000000000000->s<=B/\-B<=s->l.foldl (λs q=>if q.1=k then ar .add .i64 s q.2 else s) s=s+sumT l k by
  have:=this l 0 0 (by omega) (by omega);unfold Df;rw[this,Int.zero_add]
 intro l
 induction l with
 |nil=>intro s B _ _;simp[sumT]
 |cons q r ih=>
  intro s B h1 h2;have hn:=Zak r;simp only[Im]at h1;rw[List.foldl_cons]
  have key:∀t:Int,(if q.1=k then ar .add .i64 s q.2 else s)=t->(t=s+(if q.1=k then q.2 else 0))->(r.foldl (λs q=>if q.1=k then ar .add .i64 s q.2 else s) (if q.1=k then ar .add .i64 s q.2 else s))=s+sumT (q::r) k:=by
   intro t h3 h4;rw[h3,ih t (B+(if 0<=q.2 then q.2 else -q.2)) (by split at h1<;>split<;>omega) (by split at h4<;>split<;>omega),h4];simp only[sumT];omega
  refine key _ rfl ?_;by_cases hq:q.1=k
  .rw[if_pos hq,if_pos hq,Zb];split at h1<;>omega
  .rw[if_neg hq,if_neg hq,Int.add_zero]
theorem bal{c:Int}:∀ {xs:List Item},yF c xs->Im (chI xs)<=(xs.length:Int)*c
 |[],_=>by simp[chI,Im]
 |x::r,h=>by
  have h1:=bal (xs:=r) (λy hy=>h y (by simp[hy]));have h2:=h x (by simp);show(if 0<=x.Count then x.Count else -x.Count)+Im (chI r)<=_;rw[List.length_cons,Int.natCast_add,Int.add_mul];split<;>omega
theorem mam{c:Int}{xs:List Item}(h:yF c xs)(hb:(xs.length:Int)*c<=1000000000000):yF ((xs.length:Int)*c) (gathI xs):=by
 intro y hy;obtain⟨p,hp,rfl⟩:=List.mem_map.1 hy;obtain⟨x,_,e⟩:=xF hp;obtain⟨h1,_⟩:=Ye.1 hp;have h2:=bal h
 have hc:(mkI p).Count=p.2:=by
  obtain⟨k,d⟩:=p;have e:k=kI x:=e;subst e;rfl
 rw[hc,h1,lam (by omega)];have:=aal (chI xs) p.1;omega
theorem nam{xs:List Item}(h:∀x∈xs,InR x.Count):(gathI xs).length<=xs.length:=by
 rw[<-oW,List.length_map];have:=vF (xs:=xs.map itR) (λy hy=>by obtain⟨x,hx,rfl⟩:=List.mem_map.1 hy;exact h x hx);simpa using this
def okI(x:Item):Bool:=decide (0<=x.Key/\x.Key<=3/\0<=x.Val/\x.Val<=99/\x.Count≠0/\-1099511627776<=x.Count/\x.Count<=1099511627776)
def jai:Option Item->Item->Bool
 |none,_=>false
 |some y,x=>decide (x.Key<y.Key\/(y.Key=x.Key/\x.Val<=y.Val))
def okR:Option Item->List Item->Bool
 |_,[]=>true
 |y,x::r=>okI x&&(!jai y x&&okR (some x) r)
def Vai(s:List Item):Bool:=okR none s&&decide (s.length<=400)
theorem Vah(xs:List Item)(hl:xs.length<1000000000):Rah xs/\Qah xs=Vai xs:=by
 have key:∃q,Ea (λs:Int=>bai xs (ba .item xs) s) 0 q/\q=(if okR none xs=true then .x () else .r false):=by
  refine la.list xs (λi (_:Unit)=>(i:Int)) (λl _=>okR none xs=okR l.getLast? (xs.drop l.length)) (b0:=()) rfl rfl ?_ ?_
  .rintro l x r ⟨⟩ hx hI;obtain⟨hlen,hr,hk,hn⟩:=Qa (t:=.item) hx;have hh:xs.drop l.length=x::r:=by rw[hx];simp
   have hi:xs.drop (l++[x]).length=r:=by rw[hx];simp
   rw[hh]at hI;simp only[okR]at hI
   have e1:(cond (cond (cond (cond (cond (cond (cmp .lss x.Key 0) true (cmp .geq x.Key 4)) true (cmp .lss x.Val 0)) true (cmp .geq x.Val 100)) true (cmp .eql x.Count 0)) true (cmp .lss x.Count (-1099511627776))) true (cmp .gtr x.Count 1099511627776))=!okI x:=by
    simp only[Yb,Kg,xb,tc];rw[Bool.eq_iff_iff];simp[okI];omega
   have hq:inb (ar .sub .i64 (l.length:Int) 1) (ba .item xs)\/l=[]:=by
    rcases last_cases l with⟨h,_⟩|⟨l',y,h,_⟩
    .exact .inr h
    .left;rw[bf (by omega)];rw[h]at hk⊢;unfold inb at hk⊢;simp at hk⊢;omega
   have e2:(cond (cmp .gtr (l.length:Int) 0) (cond (cmp .gtr (rd .item xs (ar .sub .i64 (l.length:Int) 1)).Key x.Key) true (cond (cmp .eql (rd .item xs (ar .sub .i64 (l.length:Int) 1)).Key x.Key) (cmp .geq (rd .item xs (ar .sub .i64 (l.length:Int) 1)).Val x.Val) false)) false)=jai l.getLast? x:=by
    rcases last_cases l with⟨h,h2⟩|⟨l',y,h,h2⟩
    .rw[h2,h];rfl
    .have hs:ar .sub .i64 (l.length:Int) 1=(l'.length:Int):=by rw[bf (by omega),h];simp
     have hy:rd .item xs (l'.length:Int)=y:=by rw[hx,h,List.append_assoc];exact Xi
     have hg:cmp .gtr (l.length:Int) 0=true:=by rw[tc,h];simp
     rw[h2,hs,hy,hg];simp only[Kg,xb,tc,jai];rw[Bool.eq_iff_iff];simp
   have ho:(bai xs (ba .item xs) (l.length:Int)).ob:=by
    simp only[bai,Tr.ob,da];rcases hq with hp|hp
    .simp[hk,hp]
    .subst hp;have hm:inb (0:Int) (ba .item xs):=hk;simp[hm,tc]
   refine⟨ho,?_⟩;show(∃b',ka (bai xs (ba .item xs) (l.length:Int)).val=_/\_)\/∃q,ka (bai xs (ba .item xs) (l.length:Int)).val=_/\_;simp only[bai,hn,hr,Ia (l:=l) (by omega),e1,e2,Tr.val];cases h1:okI x with
   |false=>
    rw[h1]at hI;exact .inr ⟨.r false,rfl,by rw[hI];rfl⟩
   |true=>
    cases h2:jai l.getLast? x with
    |true=>
     rw[h1,h2]at hI;exact .inr ⟨.r false,rfl,by rw[hI];rfl⟩
    |false=>
     rw[h1,h2]at hI;exact .inl ⟨(),rfl,by rw[hi,hI];simp⟩
  .rintro⟨⟩ hI;have hj:cmp .lss (xs.length:Int) (ba .item xs)=false:=Na (t:=.item);rw[List.drop_length]at hI;simp only[bai,hj,Tr.val,Tr.ob,da];exact⟨by simp,_,rfl,by rw[hI];rfl⟩
 obtain⟨q,h1,h2⟩:=key;have b2:(Gai xs (ba .item xs)).ob:=h1.t;have a2:(Gai xs (ba .item xs)).o=_:=h1.v.trans h2;simp only[Rah,Qah,Aaj,Ial,Vai,a2,zaj,pcT,Tr.val,Tr.ob];refine⟨by simp[b2],?_⟩;cases okR none xs with
 |false=>rfl
 |true=>
  show cmp .leq (xs.length:Int) 400=_;rw[Ee,Bool.true_and];rw[Bool.eq_iff_iff];simp;omega
theorem rak(φ:List Int->Bool)(k:List Int):∀l:List (List Int×Int),sumT (l.filter λq=>φ q.1) k=if φ k=true then sumT l k else 0
 |[]=>by simp[sumT]
 |q::r=>by
  have ih:=rak φ k r;by_cases h:φ q.1=true
  .rw[List.filter_cons_of_pos (by exact h)];simp only[sumT,ih];by_cases e:q.1=k
   .rw[e]at h;simp[h,e]
   .simp[e]
  .rw[List.filter_cons_of_neg (by exact h)];simp only[sumT,ih];by_cases e:q.1=k
   .rw[e]at h;simp[h]
   .simp[e]
theorem ham(xs:List Row):chR (Ka xs)=qc (chR xs):=by
 unfold Ka
 have:∀m:MP,(∀p∈m,∃x∈xs,p.1=rK x)->chR (m.map mkR)=m:=by
  intro m
  induction m with
  |nil=>exact λ_=>rfl
  |cons p m ih=>
   intro h;obtain⟨x,_,e⟩:=h p (by simp);show(rK (mkR p),(mkR p).Diff)::chR (m.map mkR)=_;rw[ih λq hq=>h q (by simp[hq])];obtain⟨k,d⟩:=p;have e:k=rK x:=e;subst e;rfl
 exact this _ λp hp=>WV hp
def φT(k:List Int)(t:Time):List Int->Bool
 |[a,b,x,y]=>decide ([a,b,0]=k)&&(decide (x<=t.A)&&decide (y<=t.B))
 |_=>false
theorem sak(k:List Int)(t:Time):∀L:List Row,sumT (chI (Za L t)) k=sumF (φT k t) (chR L)
 |[]=>rfl
 |r::L=>by
  have ih:=sak k t L;show _=(if φT k t (rK r)=true then r.Diff else 0)+sumF (φT k t) (chR L);rw[<-ih];unfold Za;by_cases h:Rc r.At t=true
  .rw[List.filter_cons_of_pos (by exact h)];show(if kI (rIt r)=k then r.Diff else 0)+_=_;have h2:(decide (r.At.A<=t.A)&&decide (r.At.B<=t.B))=true:=h
   have:φT k t (rK r)=decide (kI (rIt r)=k):=by
    show(decide ([r.Key,r.Val,0]=k)&&(decide (r.At.A<=t.A)&&decide (r.At.B<=t.B)))=_;rw[h2,Bool.and_true];rfl
   rw[this];simp only[decide_eq_true_eq];rfl
  .rw[List.filter_cons_of_neg (by exact h)];have h2:(decide (r.At.A<=t.A)&&decide (r.At.B<=t.B))=false:=by simpa [Rc] using h
   have:φT k t (rK r)=false:=by
    show(decide ([r.Key,r.Val,0]=k)&&(decide (r.At.A<=t.A)&&decide (r.At.B<=t.B)))=_;rw[h2,Bool.and_false]
   rw[this];simp
theorem iam{a:List Row}(h:∀x∈a,InR x.Diff):∀q∈chR a,InR q.2:=λq hq=>by
 obtain⟨x,hx,rfl⟩:=List.mem_map.1 hq;exact h x hx
def sumW(w:List Int->Int):List (List Int×Int)->Int
 |[]=>0
 |q::r=>w q.1*q.2+sumW w r
theorem Xak(w:List Int->Int):∀m:MP,sumW w (m.filter λp=>p.2 != 0)=sumW w m
 |[]=>rfl
 |p::m=>by
  have h1:=Xak w m;by_cases h:p.2=0
  .simp[h,sumW,h1]
  .simp[h,sumW,h1]
theorem Yak(w:List Int->Int)(q:List Int×Int):∀m:MP,Eqm (sumW w (lc q m)) (w q.1*q.2+sumW w m)
 |[]=>Eqm.refl _
 |p::m=>by
  unfold lc;split
  .exact Eqm.refl _
  .split
   .rename_i h1 h2;simp only[sumW,h2];have ha:Eqm (w q.1*ar .add .i64 q.2 p.2) (w q.1*(q.2+p.2)):=Eqm.mul _ (Dm _);rw[Int.mul_add]at ha;exact(ha.add (Eqm.refl _)).trans (Eqm.of (by omega))
   .simp only[sumW];exact((Eqm.refl _).add (Yak w q m)).trans (Eqm.of (by omega))
theorem jam(w:List Int->Int)(l:List (List Int×Int)):Eqm (sumW w (If l)) (sumW w l):=by
 suffices ∀(l:List (List Int×Int)) (m:MP),Eqm (sumW w (l.foldl (λm q=>lc q m) m)) (sumW w m+sumW w l) by
  have:=this l [];simpa [If,sumW] using this
 intro l
 induction l with
 |nil=>intro m;exact Eqm.of (by simp[sumW])
 |cons q r ih=>
  intro m;rw[List.foldl_cons];simp only[sumW];exact(ih (lc q m)).trans (((Yak w q m).add (Eqm.refl _)).trans (Eqm.of (by omega)))
theorem kam{n:Nat}{l:List (List Int×Int)}(hk:Db n l)(hr:∀q∈l,InR q.2)(w:List Int->Int):Eqm (sumW w (qc l)) (sumW w l):=by
 rw[<-aM hk λq hq=>rF (hr q hq),Xak w (If l)];exact jam w l
theorem tak{a:List Item}(h:∀x∈a,InR x.Count)(w:List Int->Int):Eqm (sumW w (chI (gathI a))) (sumW w (chI a)):=by
 rw[Cm]
 exact kam (Hm a) (λq hq=>by
  obtain⟨x,hx,rfl⟩:=List.mem_map.1 hq;exact h x hx) w
theorem uai{L:List Row}(h:∀x∈L,InR x.Diff)(t:Time):Od (Ka L) t=Od L t:=ZV λk=>by
  rw[sak,sak,ham];exact cW (Gm L) (iam h) _
section
variable {P:Program}{K n:Nat}
variable {T E:Nat} (M:bT P T K E n) {w:World}{r:Nat}{S:wa} (hr:w.heap[r]? = some (Oa S)) (hm:dc n S) {ks:List Int} (hk:ks.length=n)
include M hr hm hk
end
section
open Go Tg
theorem oam(L:List Row)(t:Time):(Za L t).map Kb=Za (L.map og) t:=by
 unfold Za;rw[List.filter_map,List.map_map,List.map_map];rfl
end
theorem pam(xs:List Row)(t:Time)(hl:xs.length<10000000):maj xs t/\laj xs t=if Gb xs=true/\za t=true then Od xs t else []:=by
 obtain⟨r1,r2⟩:=yM xs (by omega);obtain⟨q1,q2⟩:=AM xs t (by omega);simp only[maj,laj,kaj,Tr.val,Tr.ob,da,r2,Bt,q2];cases h1:Gb xs<;>cases h2:za t<;>simp[r1,Ct,q1,ocR]
section
open Go Tg
theorem vam(s:List Item):(chI s).map mkI=s:=by
 unfold chI;rw[List.map_map];have:(mkI ∘ λx:Item=>(kI x,x.Count))=id:=by funext x;cases x;rfl
 rw[this,List.map_id]
theorem Canon.gath{s:List Item}(h:Canon s):gathI s=s:=by
 have h1:qc (chI s)=chI s:=CX (n:=3) (List.pairwise_map.2 h.1) (Hm s) λp hp=>by
  obtain⟨x,hx,rfl⟩:=List.mem_map.1 hp;exact h.2 x hx
 unfold gathI;rw[h1,vam]
def Sah(h:Int)(x:Item):List Item:=if(ic h x.Key x.Val).2.2=true then [⟨(ic h x.Key x.Val).1,(ic h x.Key x.Val).2.1,x.Count⟩] else []
def Nah(h:Int)(s:List Item):List Item:=s.flatMap (Sah h)
theorem dal(h:Int)(t:Time):∀a:List Row,Za (Bc h a) t=Nah h (Za a t)
 |[]=>rfl
 |x::l=>by
  have ih:=dal h t l;unfold Bc Nah at *;rw[List.flatMap_cons,qF,ih,FX,List.flatMap_append]
  congr 1
  unfold Ng;by_cases hk:(ic h x.Key x.Val).2.2=true
  .rw[if_pos hk,FX,GX,List.append_nil];by_cases hb:Rc x.At t=true
   .rw[if_pos hb,if_pos hb];simp[Sah,rIt,hk]
   .rw[if_neg hb,if_neg hb];rfl
  .rw[if_neg hk,GX];by_cases hb:Rc x.At t=true
   .rw[if_pos hb];simp[Sah,rIt,hk]
   .rw[if_neg hb];rfl
def wE(h:Int)(k:List Int):List Int->Int
 |[a,b,_]=>if(ic h a b).2.2=true/\[(ic h a b).1,(ic h a b).2.1,0]=k then 1 else 0
 |_=>0
theorem uak(h:Int)(k:List Int):∀s:List Item,sumT (chI (Nah h s)) k=sumW (wE h k) (chI s)
 |[]=>rfl
 |x::s=>by
  have ih:=uak h k s;show _=wE h k (kI x)*x.Count+sumW (wE h k) (chI s);unfold Nah at *;rw[List.flatMap_cons,fM,ih]
  congr 1
  show _=(if(ic h x.Key x.Val).2.2=true/\[(ic h x.Key x.Val).1,(ic h x.Key x.Val).2.1,0]=k then 1 else 0)*x.Count;unfold Sah;by_cases hk:(ic h x.Key x.Val).2.2=true
  .rw[if_pos hk];show(if [(ic h x.Key x.Val).1,(ic h x.Key x.Val).2.1,0]=k then x.Count else 0)+0=_;by_cases e : [(ic h x.Key x.Val).1,(ic h x.Key x.Val).2.1,0]=k
   .rw[if_pos e,if_pos ⟨hk,e⟩];omega
   .rw[if_neg e,if_neg λhh=>e hh.2];omega
  .rw[if_neg hk,if_neg λhh=>hk hh.1];simp[chI,sumT]
theorem wam(h:Int){s:List Item}(hs:∀x∈s,InR x.Count):gathI (Nah h (gathI s))=gathI (Nah h s):=ZV λk=>by rw[uak,uak];exact tak hs _
theorem Wah{xs:List Row}(h:∀x∈xs,InR x.Diff)(t:Time):∀x∈Za xs t,InR x.Count:=λx hx=>by
 obtain⟨r,hr,rfl⟩:=List.mem_map.1 hx;exact h r ((List.mem_filter.1 hr).1)
theorem xam{h:Int}{a:List Row}(ha:∀x∈a,InR x.Diff)(t:Time):Od (Ka (Bc h a)) t=gathI (Nah h (Od a t)):=by
 rw[uai (WF ha)];unfold Od;rw[dal,wam h (Wah ha t)]
theorem yam{a b:List Row}(ha:∀x∈a,InR x.Diff)(hb:∀x∈b,InR x.Diff)(t:Time):Od (Ka (a++b)) t=gathI (Od a t++Od b t):=by
 rw[uai λx hx=>(List.mem_append.1 hx).elim (ha x) (hb x)];refine ZV λk=>?_;rw[qF,fM,fM];exact(fW (Wah ha t) k).symm.add (fW (Wah hb t) k).symm
theorem zam{a:List Row}(ha:∀x∈a,InR x.Diff)(t:Time)(hm:∀x∈Od a t,x.Count≠-9223372036854775808):Od (Ka (Va a)) t=(Od a t).map Kb:=by
 rw[uai (XF a)];have h1:=((EX (Za a t)).neg hm).gath;rw[<-show Od a t=gathI (Za a t) from rfl]at h1;rw[<-h1];refine ZV λk=>?_;unfold Va;rw[<-oam];exact(BF _ k).trans (((fW (Wah ha t) k).neg.symm).trans (BF _ k).symm)
def Pah(x y:Item):List Item:=if x.Key=y.Key then [⟨x.Key,Jm x.Val y.Val,x.Count*y.Count⟩] else []
def Mah(s u:List Item):List Item:=s.flatMap λx=>u.flatMap (Pah x)
theorem eal(s t u:Time):Rc (gb s t) u=(Rc s u&&Rc t u):=by
 unfold Rc gb;simp only[Bj];rw[Bool.eq_iff_iff];simp only[Bool.and_eq_true,decide_eq_true_eq];split<;>split<;>omega
theorem fal(t:Time)(x:Row):∀b:List Row,Za (b.flatMap (mc x)) t=if Rc x.At t=true then(Za b t).flatMap (Pah (rIt x)) else []
 |[]=>by split<;>rfl
 |y::b=>by
  have ih:=fal t x b;rw[List.flatMap_cons,qF,ih,FX,List.flatMap_append];by_cases hx:Rc x.At t=true
  .rw[if_pos hx,if_pos hx]
   congr 1
   unfold mc;by_cases hk:x.Key=y.Key
   .rw[if_pos hk,FX,GX,List.append_nil,show(Row.At ⟨x.Key,Jm x.Val y.Val,gb x.At y.At,x.Diff*y.Diff⟩)=gb x.At y.At from rfl,eal,hx,Bool.true_and];by_cases hy:Rc y.At t=true
    .rw[if_pos hy,if_pos hy];simp[Pah,rIt,hk]
    .rw[if_neg hy,if_neg hy];rfl
   .rw[if_neg hk,GX];by_cases hy:Rc y.At t=true
    .rw[if_pos hy];simp[Pah,rIt,hk]
    .rw[if_neg hy];rfl
  .rw[if_neg hx,if_neg hx,List.append_nil];unfold mc;by_cases hk:x.Key=y.Key
   .rw[if_pos hk,FX,GX,List.append_nil,show(Row.At ⟨x.Key,Jm x.Val y.Val,gb x.At y.At,x.Diff*y.Diff⟩)=gb x.At y.At from rfl,eal];rw[if_neg (by simp[hx])]
   .rw[if_neg hk,GX]
theorem gal(t:Time)(b:List Row):∀a:List Row,Za (jc a b) t=Mah (Za a t) (Za b t)
 |[]=>rfl
 |x::a=>by
  have ih:=gal t b a;unfold jc Mah at *;rw[List.flatMap_cons,qF,ih,FX,List.flatMap_append,fal]
  congr 1
  by_cases hx:Rc x.At t=true
  .rw[if_pos hx,if_pos hx];simp
  .rw[if_neg hx,if_neg hx];rfl
def wJ2(a b:Int)(k:List Int):List Int->Int
 |[c,d,_]=>if a=c/\[a,Jm b d,0]=k then 1 else 0
 |_=>0
def wJ(u:List Item)(k:List Int):List Int->Int
 |[a,b,_]=>sumW (wJ2 a b k) (chI u)
 |_=>0
theorem ial(x:Item)(k:List Int):∀u:List Item,sumT (chI (u.flatMap (Pah x))) k=sumW (wJ2 x.Key x.Val k) (chI u)*x.Count
 |[]=>by simp[chI,sumT,sumW]
 |y::u=>by
  have ih:=ial x k u;rw[List.flatMap_cons,fM,ih];show _=(wJ2 x.Key x.Val k (kI y)*y.Count+sumW (wJ2 x.Key x.Val k) (chI u))*x.Count;rw[Int.add_mul]
  congr 1
  show _=(if x.Key=y.Key/\[x.Key,Jm x.Val y.Val,0]=k then 1 else 0)*y.Count*x.Count;unfold Pah;by_cases hk:x.Key=y.Key
  .rw[if_pos hk];show(if [x.Key,Jm x.Val y.Val,0]=k then x.Count*y.Count else 0)+0=_;by_cases e : [x.Key,Jm x.Val y.Val,0]=k
   .rw[if_pos e,if_pos ⟨hk,e⟩,Int.one_mul,Int.add_zero,Int.mul_comm]
   .rw[if_neg e,if_neg λhh=>e hh.2];simp
  .rw[if_neg hk,if_neg λhh=>hk hh.1];simp[chI,sumT]
theorem vak(u:List Item)(k:List Int):∀s:List Item,sumT (chI (Mah s u)) k=sumW (wJ u k) (chI s)
 |[]=>rfl
 |x::s=>by
  have ih:=vak u k s;unfold Mah at *;rw[List.flatMap_cons,fM,ih,ial];rfl
theorem jal{w w':List Int->Int}(h:∀k,Eqm (w k) (w' k)):∀l,Eqm (sumW w l) (sumW w' l)
 |[]=>Eqm.refl _
 |q::r=>by
  simp only[sumW];have h1:=Eqm.mul q.2 (h q.1);rw[Int.mul_comm,Int.mul_comm q.2]at h1;exact h1.add (jal h r)
theorem Aam{s u:List Item}(hs:∀x∈s,InR x.Count)(hu:∀x∈u,InR x.Count):gathI (Mah (gathI s) (gathI u))=gathI (Mah s u):=ZV λk=>by
  rw[vak,vak];refine(tak hs _).trans (jal (λkey=>?_) _)
  match key with
  |[a,b,_]=>exact tak hu _
  |[]=>exact Eqm.refl _
  |[_]=>exact Eqm.refl _
  |[_,_]=>exact Eqm.refl _
  |_::_::_::_::_=>exact Eqm.refl _
theorem Bam{a b:List Row}(ha:∀x∈a,InR x.Diff)(hb:∀x∈b,InR x.Diff)(hj:∀x∈jc a b,InR x.Diff)(t:Time):Od (Ka (jc a b)) t=gathI (Mah (Od a t) (Od b t)):=by
 rw[uai hj];unfold Od;rw[gal,Aam (Wah ha t) (Wah hb t)]
def φK(k:Int):List Int->Bool
 |[a,_,_]=>decide (a=k)
 |_=>false
theorem kal(k:Int)(s:List Item):chI (s.filter λx=>decide (x.Key=k))=(chI s).filter λq=>φK k q.1:=by
 unfold chI;rw[List.filter_map];rfl
theorem Cam(k:Int){s:List Item}(hs:∀x∈s,InR x.Count):gathI (s.filter λx=>decide (x.Key=k))=(gathI s).filter λx=>decide (x.Key=k):=by
 rw[<-((EX s).filter _).gath];refine ZV λkey=>?_;rw[kal,kal,rak,rak];split
 .exact (fW hs key).symm
 .exact Eqm.refl _
theorem lal(k:Int)(t:Time):∀a:List Row,Za (va k a) t=(Za a t).filter λx=>decide (x.Key=k)
 |[]=>rfl
 |x::a=>by
  have ih:=lal k t a;rw[FX,List.filter_append,<-ih];unfold va;by_cases hk:x.Key=k
  .rw[List.filter_cons_of_pos (by simpa using hk),FX]
   congr 1
   by_cases hb:Rc x.At t=true
   .rw[if_pos hb];simp[rIt,hk]
   .rw[if_neg hb];rfl
  .rw[List.filter_cons_of_neg (by simpa using hk)];by_cases hb:Rc x.At t=true
   .rw[if_pos hb];simp[rIt,hk]
   .rw[if_neg hb];rfl
theorem Dam{k:Int}{a:List Row}(ha:∀x∈a,InR x.Diff)(t:Time):Od (va k a) t=(Od a t).filter λx=>decide (x.Key=k):=by
 unfold Od;rw[lal,Cam k (Wah ha t)]
theorem Eam(p:Time->Bool)(i:Int)(n:Nat):(rowP p i n).Pairwise λx y=>Rc y x=false:=by
 unfold rowP;rw[List.pairwise_map];refine(List.Pairwise.sublist List.filter_sublist List.pairwise_lt_range).imp λ{a b} h=>?_;simp[Rc];omega
theorem mal(p:Time->Bool):∀n,(yc p n).Pairwise λx y=>Rc y x=false
 |0=>.nil
 |n+1=>by
  simp only[yc];rw[List.pairwise_append];refine⟨mal p n,Eam p n 8,λx hx y hy=>?_⟩;have h1:=wC.1 hx;have h2:=Nag.1 hy;unfold Rc;rw[h2.2.1];simp;omega
theorem wak{kind k:Int}{own:List Row}:∀(ts:List Time) (m:List Row),∃e,ts.foldl (Kf kind k own) m=m++e/\∀x∈e,x.At∈ts
 |[],m=>⟨[],by simp,by simp⟩
 |t::r,m=>by
  obtain⟨e,h1,h2⟩:=wak r (Kf kind k own m t);refine⟨(Zi kind k own m t).map (rowT t)++e,?_,λx hx=>?_⟩
  .rw[List.foldl_cons,h1];unfold Kf;rw[List.append_assoc]
  .rcases List.mem_append.1 hx with hx|hx
   .obtain⟨y,_,rfl⟩:=List.mem_map.1 hx;simp[rowT]
   .simp[h2 x hx]
theorem xak{l:List Row}{t:Time}(h:∀x∈l,Rc x.At t=false):Za l t=[]:=by
 unfold Za;rw[List.filter_eq_nil_iff.2 λx hx=>by rw[h x hx];simp];rfl
theorem Fam(l:List Item)(t:Time):Za (l.map (rowT t)) t=l:=by
 unfold Za
 rw[List.filter_eq_self.2 λx hx=>by
  obtain⟨y,_,rfl⟩:=List.mem_map.1 hx;simp[Rc,rowT],List.map_map]
 have:(rIt ∘ rowT t)=id:=by funext x;cases x;rfl
 rw[this,List.map_id]
theorem nal{l:List Row}{s t:Time}(h:∀x∈l,Rc x.At s=Rc x.At t):Za l s=Za l t:=by
 unfold Za;rw[List.filter_congr λx hx=>h x hx]
theorem Gam{kind k:Int}{own:List Row}(ho:Cc k own){ts:List Time}(hp:ts.Pairwise λx y=>Rc y x=false)(hok:∀t∈ts,za t=true){s:Time}(hs:s∈ts)(key:List Int) :
  Eqm (sumT (chI (Za (Hb kind k own ts) s)) key) (sumT (chI (ab kind k (Od own s))) key):=by
 obtain⟨l1,l2,rfl⟩:=List.append_of_mem hs
 have h1:Hb kind k own (l1++s::l2)=l2.foldl (Kf kind k own) (Kf kind k own (Hb kind k own l1) s):=by
  unfold Hb;rw[List.foldl_append,List.foldl_cons]
 obtain⟨e,h2,h3⟩:=wak (kind:=kind) (k:=k) (own:=own) l2 (Kf kind k own (Hb kind k own l1) s);have hM:=(Mm (kind:=kind) ho l1 λt ht=>hok t (by simp[ht])).1;generalize Hb kind k own l1=M at *
 have h9:Za e s=[]:=xak λx hx=>by
  have:=(List.pairwise_append.1 hp).2.1;exact(List.pairwise_cons.1 this).1 x.At (h3 x hx)
 rw[h1,h2];unfold Kf;rw[qF,qF,Fam,h9,List.append_nil,fM]
 .unfold Zi;have hd:=tW (kind:=kind) (t:=s) ho hM;refine((Eqm.refl _).add (fW (λx hx=>(hd x hx).2.2.2) key)).trans ?_;rw[fM];have h4:=BF (Od M s) key;have h5:=fW (λx hx=>(hM.items s x hx).2.2.2) key;have h5:Eqm (sumT (chI (Od M s)) key) (sumT (chI (Za M s)) key):=h5;exact((Eqm.refl _).add ((Eqm.refl _).add (h4.trans h5.neg))).trans (Eqm.of (by omega))
theorem yak(f:Row->Int):∀l:List Row,l≠[]->∃x∈l,∀y∈l,f y<=f x
 |[],h=>absurd rfl h
 |[x],_=>⟨x,by simp,by simp⟩
 |x::y::r,_=>by
  obtain⟨z,h1,h2⟩:=yak f (y::r) (by simp);by_cases h:f z<=f x
  .exact⟨x,by simp,λw hw=>by
    rcases List.mem_cons.1 hw with rfl|hw
    .exact Int.le_refl _
    .exact Int.le_trans (h2 w hw) h⟩
  .exact⟨z,by simp only[List.mem_cons]at h1⊢;exact .inr h1,λw hw=>by
    rcases List.mem_cons.1 hw with rfl|hw
    .omega
    .exact h2 w hw⟩
theorem Ham{kind k:Int}{a:List Row}(hr:Gb a=true){t:Time}(key:List Int) :
  Eqm (sumT (chI (Za (Hb kind k (va k a) (db a k)) t)) key) (sumT (chI (ab kind k (Od (va k a) t))) key):=by
 have ht:=(bb hr).2;have ho:=aj (k:=k) ht;have hv:db a k=yc (jT a k) 8:=by unfold db;rw[if_pos hr]
 have hq:=(Nm (a:=a) (k:=k)).1;rw[hv]at hq⊢;obtain⟨e,hk,hl⟩:=wak (kind:=kind) (k:=k) (own:=va k a) (yc (jT a k) 8) [];have hp:Hb kind k (va k a) (yc (jT a k) 8)=e:=by unfold Hb;rw[hk];rfl
 have hJ:∀j∈yc (jT a k) 8,(∃x∈va k a,x.At.A=j.A/\x.At.B<=j.B)/\∃x∈va k a,x.At.B=j.B/\x.At.A<=j.A:=λj hj=>by
  obtain⟨⟨x,m1,k1,a1,b1⟩,y,n1,l1,c1,d1⟩:=nr.1 (wC.1 hj).1;exact⟨⟨x,List.mem_filter.2 ⟨m1,by simpa using k1⟩,a1,b1⟩,y,List.mem_filter.2 ⟨n1,by simpa using l1⟩,c1,d1⟩
 by_cases hn:(va k a).filter (λx=>Rc x.At t)=[]
 .have h0:∀x∈va k a,Rc x.At t=false:=λx hx=>by
   have:=List.filter_eq_nil_iff.1 hn x hx;simpa using this
  have h1:Od (va k a) t=[]:=by unfold Od;rw[xak h0];rfl
  rw[h1,HX,hp,xak λx hx=>?_]
  .exact Eqm.refl _
  .obtain⟨⟨y,m1,a1,b1⟩,_⟩:=hJ _ (hl x hx);have h2:=h0 y m1;cases hb:Rc x.At t with
   |false=>rfl
   |true=>
    simp only[Rc,Bool.and_eq_true,decide_eq_true_eq]at hb;have:Rc y.At t=true:=by simp only[Rc,Bool.and_eq_true,decide_eq_true_eq];omega
    rw[h2]at this;cases this
 .obtain⟨x,hx1,hw⟩:=yak (λr=>r.At.A) _ hn;obtain⟨y,hy,ha⟩:=yak (λr=>r.At.B) _ hn;obtain⟨hc,bx⟩:=List.mem_filter.1 hx1;obtain⟨hf,bY⟩:=List.mem_filter.1 hy;have he:=List.mem_filter.1 hc;have hg:=List.mem_filter.1 hf;simp only[Rc,Bool.and_eq_true,decide_eq_true_eq]at bx bY;have ox:=Lf (ht x he.1);have oy:=Lf (ht y hg.1);simp only[za,decide_eq_true_eq]at ox oy;have hh:y.At.A<=x.At.A:=hw y hy;have hi:x.At.B<=y.At.B:=ha x hx1
  have hs:(⟨x.At.A,y.At.B⟩ : Time)∈yc (jT a k) 8:=by
   refine wC.2 ⟨nr.2 ⟨⟨x,he.1,by simpa using he.2,rfl,hi⟩,y,hg.1,by simpa using hg.2,rfl,hh⟩,?_⟩;show 0<=x.At.A/\x.At.A<8/\0<=y.At.B/\y.At.B<8;omega
  have hu:∀r∈va k a,Rc r.At t=Rc r.At ⟨x.At.A,y.At.B⟩:=λr hr=>by
   rw[Bool.eq_iff_iff];constructor
   .intro h;have hm:r∈(va k a).filter (λx=>Rc x.At t):=List.mem_filter.2 ⟨hr,h⟩;have h1:r.At.A<=x.At.A:=hw r hm;have h2:r.At.B<=y.At.B:=ha r hm;simp only[Rc,Bool.and_eq_true,decide_eq_true_eq];exact⟨h1,h2⟩
   .intro h;simp only[Rc,Bool.and_eq_true,decide_eq_true_eq]at h⊢;omega
  have h1:Od (va k a) t=Od (va k a) ⟨x.At.A,y.At.B⟩:=by unfold Od;rw[nal hu]
  have h2:Za e t=Za e ⟨x.At.A,y.At.B⟩:=nal λz hz=>by
   obtain⟨⟨r1,m1,a1,b1⟩,r2,m2,a2,b2⟩:=hJ _ (hl z hz);have q1:=hu r1 m1;have q2:=hu r2 m2;rw[Bool.eq_iff_iff]at q1 q2⊢;simp only[Rc,Bool.and_eq_true,decide_eq_true_eq]at q1 q2⊢;constructor
   .intro h;have c1:=q1.1 (by omega);have c2:=q2.1 (by omega);omega
   .intro h;omega
  have h3:=Gam (kind:=kind) ho (mal (jT a k) 8) hq hs key;rw[hp]at h3⊢;rw[h1,h2];exact h3
theorem Iam{k:Int}{s:List Item}(hs:Canon s)(hk:∀x∈s,x.Key=k):Canon (Jc k s):=by
 refine⟨?_,λx hx=>?_⟩
 .unfold Jc;rw[List.pairwise_map];refine List.Pairwise.imp_of_mem (λ{x y} hx hy h=>?_) (hs.1.sublist List.filter_sublist);have h1:=hk x (List.mem_filter.1 hx).1;have h2:=hk y (List.mem_filter.1 hy).1;unfold kI at h⊢;rw[h1,h2]at h;exact h
 .obtain⟨y,_,rfl⟩:=List.mem_map.1 hx;exact⟨by simp,by unfold InR;simp⟩
theorem Jam{kind k:Int}{s:List Item}(hs:Canon s)(hk:∀x∈s,x.Key=k):Canon (ab kind k s):=by
 have h:=Iam hs hk;unfold ab;split
 .split
  .exact⟨.nil,by simp⟩
  .exact⟨by simp,by simp[InR]⟩
 .split
  .exact h
  .exact⟨h.1.sublist (List.take_sublist _ _),λx hx=>h.2 x (List.mem_of_mem_take hx)⟩
theorem Kam{kind k:Int}{s:List Item}{x:Item}(hx:x∈ab kind k s):x.Key=k:=by
 have hh:∀x∈Jc k s,x.Key=k:=λx hx=>by
  obtain⟨y,hy,rfl⟩:=List.mem_map.1 hx;rfl
 unfold ab at hx;split at hx
 .split at hx
  .cases hx
  .simp at hx;subst hx;rfl
 .split at hx
  .exact hh x hx
  .exact hh x (List.mem_of_mem_take hx)
theorem Lam{kind:Int}{s:List Item}(hs:Canon s):Canon (Pg kind s):=by
 have h:∀k:Nat,Canon (ab kind k (s.filter λx=>decide (x.Key=k))):=λk=>Jam (hs.filter _) λx hx=>by simpa using(List.mem_filter.1 hx).2
 have hk:∀(k:Nat) x,x∈ab kind k (s.filter λx=>decide (x.Key=k))->x.Key=k:=λk x hx=>Kam hx;unfold Pg;rw[bj,List.append_nil];refine(h 0).append ((h 1).append ((h 2).append (h 3) λx hx y hy=>?_) λx hx y hy=>?_) λx hx y hy=>?_
 .rw[hk 2 x hx,hk 3 y hy];decide
 .rw[hk 1 x hx];rcases List.mem_append.1 hy with hy|hy
  .rw[hk 2 y hy];decide
  .rw[hk 3 y hy];decide
 .rw[hk 0 x hx];rcases List.mem_append.1 hy with hy|hy
  .rw[hk 1 y hy];decide
  .rcases List.mem_append.1 hy with hy|hy
   .rw[hk 2 y hy];decide
   .rw[hk 3 y hy];decide
theorem Mam(f:Nat->List Row)(t:Time):Za ((List.range 4).flatMap f) t=(List.range 4).flatMap λk=>Za (f k) t:=by
 show Za (f 0++(f 1++(f 2++(f 3++[])))) t=Za (f 0) t++(Za (f 1) t++(Za (f 2) t++(Za (f 3) t++[])));rw[qF,qF,qF,qF];rfl
theorem Nam{kind:Int}{a:List Row}(hr:Gb a=true)(t:Time):Od (Ka (cf kind a)) t=Pg kind (Od a t):=by
 have hi:=(bb hr).2;have hh:∀x∈a,InR x.Diff:=λx hx=>Oe (hi x hx);rw[uai λx hx=>((EF (kind:=kind) hi).1 x hx).1];rw[<-(Lam (kind:=kind) (s:=Od a t) (EX _)).gath];refine ZV λkey=>?_
 have h:∀k:Nat,Eqm (sumT (chI (Za (Hb kind k (va k a) (db a k)) t)) key) (sumT (chI (ab kind k ((Od a t).filter λx=>decide (x.Key=k)))) key):=λk=>by
  rw[<-Dam hh];exact Ham hr key
 unfold cf Pg;rw[Mam,bj,bj];simp only[fM];exact(h 0).add ((h 1).add ((h 2).add ((h 3).add (Eqm.refl _))))
section
variable {a:List Row} (hr:Gb a=true) {kind:Int} (hkind:1<=kind/\kind<=3)
include hr hkind
end
def opS(kind num:Int)(ks ins:List (List Item)):List Item:=if kind=1 then ins.getD num.toNat [] else if kind=2 then gathI (Nah num (ks.getD 0 [])) else if kind=3 then gathI (ks.getD 0 []++ks.getD 1 []) else
 if kind=4 then(ks.getD 0 []).map Kb else if kind=5 then gathI (Mah (ks.getD 0 []) (ks.getD 1 [])) else Pg num (ks.getD 0 [])
theorem cal{a:List Row}(h:Gb a=true)(t:Time):∀x∈Od a t,-39999600<=x.Count/\x.Count<=39999600:=by
 obtain⟨h1,h2⟩:=bb h
 have hs:yF 99999 (Za a t):=λx hx=>by
  obtain⟨r,hr,rfl⟩:=List.mem_map.1 hx;have:=h2 r (List.mem_filter.1 hr).1;simp only[Ab,decide_eq_true_eq]at this;exact⟨this.2.2.2.2.2.1,this.2.2.2.2.2.2⟩
 have hl:(Za a t).length<=400:=by
  unfold Za;rw[List.length_map];exact Nat.le_trans (List.length_filter_le _ _) h1
 have h3:=mam hs (by omega);intro x hx;have:=h3 x hx;omega
theorem sam{P:List Row->Prop}(h0:P []){ks:List (List Row)}(h:∀x∈ks,P x)(n:Nat):P (ks.getD n []):=by
 rw[List.getD_eq_getElem?_getD];cases hn:ks[n]? with
 |none=>exact h0
 |some x=>exact h x (List.mem_of_getElem? hn)
theorem tam(ks:List (List Row))(t:Time)(n:Nat):(ks.map λx=>Od x t).getD n []=Od (ks.getD n []) t:=by
 rw[List.getD_eq_getElem?_getD,List.getD_eq_getElem?_getD,List.getElem?_map];cases ks[n]?<;>rfl
theorem uam{kind num:Int}{ks ins:List (List Row)}(hk:∀x∈ks,Ca x=true)(t:Time):Od (opR kind num ks ins) t=opS kind num (ks.map λx=>Od x t) (ins.map λx=>Od x t):=by
 have hr:∀n,Gb (ks.getD n [])=true:=sam (P:=λx=>Gb x=true) rfl λx hx=>je (hk x hx);have hm:=λn=>(bb (hr n)).2;have hi:∀n,∀x∈ks.getD n [],InR x.Diff:=λn x hx=>Oe (hm n x hx);unfold opR opS;simp only[tam];split
 .rfl
 .split
  .exact xam (hi 0) t
  .split
   .exact yam (hi 0) (hi 1) t
   .split
    .exact zam (hi 0) t λx hx=>by have:=cal (hr 0) t x hx;omega
    .split
     .exact Bam (hi 0) (hi 1) (λx hx=>(Kt (hm 0) (hm 1) x hx).1) t
     .exact Nam (hr 0) t
end
theorem qam{d:Nat}{p:Plan}(h:okM (d+1) p=true):Rd p=true:=by
 simp only[okM,Bool.and_eq_true]at h;exact h.1
theorem ram(d:Nat)(ins:List (List Row))(p:Plan):Sb (d+1) ins p=match Rb (Sb d ins) p.Kids with
 |none=>none
 |some ks=>if Ca (opR p.Kind p.Num ks ins)=true then some (opR p.Kind p.Num ks ins) else none:=rfl
section
open Go Tg
theorem Oam{x y:Item}(h1:x.Key=y.Key)(h2:x.Val=y.Val)(h3:x.Count=y.Count):x=y:=by
 obtain⟨a,b,c⟩:=x;obtain⟨a',b',c'⟩:=y;simp at h1 h2 h3;subst h1 h2 h3;rfl
theorem oal(x y:Item):(cmp .eql x.Key y.Key&&(cmp .eql x.Val y.Val&&(cmp .eql x.Count y.Count&&true)))=true↔x=y:=by
 rw[xb,xb,xb];simp only[Bool.and_eq_true,decide_eq_true_eq,and_true];constructor
 .rintro⟨h1,h2,h3⟩;exact Oam h1 h2 h3
 .rintro rfl;exact⟨rfl,rfl,rfl⟩
theorem pal(a b:List Item)(hl:a.length<1000000000):Tah a b/\(Zah a b=true↔a=b):=by
 by_cases hlen:a.length=b.length
 .have hz:(a.zip b).length=a.length:=by rw[List.length_zip];omega
  have key:∃q,Ea (λs:Int=>gai a b s) 0 q/\((q=.x ()/\a=b)\/(q=.r false/\a≠b)):=by
   refine la.list (a.zip b) (λi (_:Unit)=>(i:Int)) (λl _=>a.take l.length=b.take l.length) (b0:=()) rfl rfl ?_ ?_
   .rintro l ⟨u,v⟩ r ⟨⟩ hx hI;have ho:l.length<a.length:=by rw[<-hz,hx];simp
    have hg:(a.zip b)[l.length]? = some (u,v):=by rw[hx];simp
    rw[List.getElem?_zip_eq_some]at hg
    have hu:rd .item a (l.length:Int)=u:=by
     show a.getD (Int.toNat l.length) _=u;rw[Int.toNat_natCast,List.getD_eq_getElem?_getD,hg.1];rfl
    have hv:rd .item b (l.length:Int)=v:=by
     show b.getD (Int.toNat l.length) _=v;rw[Int.toNat_natCast,List.getD_eq_getElem?_getD,hg.2];rfl
    have hk:ba .item a=(a.length:Int):=rfl;have hm:ba .item b=(b.length:Int):=rfl;have hp:cmp .lss (l.length:Int) (ba .item a)=true:=by rw[Yb,hk];simp;omega
    have hi:inb (l.length:Int) (ba .item a):=⟨by omega,by omega⟩;have hj:inb (l.length:Int) (ba .item b):=⟨by omega,by omega⟩;refine⟨by simp[gai,hp,hi,hj,Tr.ob,da],?_⟩;show(∃b',ka (gai a b (l.length:Int)).val=_/\_)\/∃q,ka (gai a b (l.length:Int)).val=_/\_;simp only[gai,hp,hu,hv,Ia (l:=l) (by omega),Tr.val];by_cases he:u=v
    .left;subst he;rw[(oal u u).2 rfl];refine⟨(),rfl,?_⟩;rw[List.length_append,List.length_singleton,List.take_add_one,List.take_add_one,hI,hg.1,hg.2]
    .right
     have hq:(cmp .eql u.Key v.Key&&(cmp .eql u.Val v.Val&&(cmp .eql u.Count v.Count&&true)))=false:=by
      rw[<-Bool.not_eq_true,oal];exact he
     rw[hq];refine⟨.r false,rfl,.inr ⟨rfl,λhab=>he ?_⟩⟩;have:=hg.1;rw[hab,hg.2]at this;exact(Option.some.inj this).symm
   .rintro⟨⟩ hI;have hh:cmp .lss ((a.zip b).length:Int) (ba .item a)=false:=by rw[Yb,hz];simp[ba]
    rw[hz,List.take_length,hlen,List.take_length]at hI;simp only[gai,hh,Tr.val,Tr.ob,da];exact⟨by simp,_,rfl,.inl ⟨rfl,hI⟩⟩
  obtain⟨q,h1,h2⟩:=key;have b2:(kai a b).ob:=h1.t
  have hn:cmp .neq (ba .item a) (ba .item b)=false:=by
   show cmp .neq (a.length:Int) (b.length:Int)=false;rw[De,hlen];simp
  rcases h2 with⟨rfl,h2⟩|⟨rfl,h2⟩
  .have a2:(kai a b).o=.x ():=h1.v;simp only[Tah,Zah,mai,Iak,hn,a2,ocR,lai,pcT,Tr.val,Tr.ob];exact⟨by simp[b2],λ_=>h2,λ_=>trivial⟩
  .have a2:(kai a b).o=.r false:=h1.v;simp only[Tah,Zah,mai,Iak,hn,a2,ocR,lai,pcT,Tr.val,Tr.ob];exact⟨by simp[b2],(λh=>by cases h),λh=>absurd h h2⟩
 .have hn:cmp .neq (ba .item a) (ba .item b)=true:=by
   show cmp .neq (a.length:Int) (b.length:Int)=true;rw[De];simp;omega
  simp only[Tah,Zah,mai,hn,ocR,lai,pcT,Tr.val,Tr.ob];exact⟨by simp,(λh=>by cases h),λh=>absurd (by rw[h]) hlen⟩
theorem zak{a:List Row}(h:Gb a=true)(t:Time):(Od a t).length<=400:=by
 obtain⟨h1,h2⟩:=bb h;have hs:∀x∈Za a t,InR x.Count:=Wah (λx hx=>Oe (h2 x hx)) t
 have hl:(Za a t).length<=400:=by
  unfold Za;rw[List.length_map];exact Nat.le_trans (List.length_filter_le _ _) h1
 exact Nat.le_trans (nam hs) hl
structure PS(s:List Item):Prop where
 ok:Vai s=true
 kv:∀x∈s,(0<=x.Key/\x.Key<=3)/\0<=x.Val/\x.Val<=99
 cnt:∀x∈s,-39999600<=x.Count/\x.Count<=39999600
 can:Canon s
 len:s.length<=400
theorem Pam{x z:Item}(h:ltK (kI z) (kI x)=true):jai (some z) x=false:=by
 simp only[kI,ltK,Bool.or_eq_true,Bool.and_eq_true,decide_eq_true_eq]at h;simp only[jai,decide_eq_false_iff_not];rcases h with h|⟨h,h2|⟨_,h2⟩⟩
 .omega
 .omega
 .simp at h2
theorem qal:∀ {s:List Item}{y:Option Item},(∀x∈s,okI x=true)->s.Pairwise (λx y=>ltK (kI x) (kI y)=true)->(∀z,y=some z->∀x∈s,ltK (kI z) (kI x)=true)->okR y s=true
 |[],_,_,_,_=>rfl
 |x::r,y,h1,h2,h3=>by
  have h2':=List.pairwise_cons.1 h2;simp only[okR,Bool.and_eq_true,Bool.not_eq_true'];refine⟨h1 x (by simp),?_,qal (λz hz=>h1 z (by simp[hz])) h2'.2 λz hz u hu=>?_⟩
  .cases y with
   |none=>rfl
   |some z=>exact Pam (h3 z rfl x (by simp))
  .cases hz;exact h2'.1 u hu
theorem Wai{a:List Row}(h:Gb a=true)(t:Time):PS (Od a t):=by
 have hm:=(bb h).2;have hl:=zak h t
 have hh:∀x∈Od a t,(0<=x.Key/\x.Key<=3)/\0<=x.Val/\x.Val<=99:=λx hx=>by
  obtain⟨y,hy,e1,e2⟩:=CF hx;obtain⟨r,hr,rfl⟩:=List.mem_map.1 hy;have:=rk (hm r (List.mem_filter.1 hr).1);have e1:r.Key=x.Key:=e1;have e2:r.Val=x.Val:=e2;omega
 have hc:=cal h t;refine⟨?_,hh,hc,EX _,hl⟩;simp only[Vai,Bool.and_eq_true,decide_eq_true_eq];refine⟨qal (λx hx=>?_) (rM _) (λz hz=>by cases hz),hl⟩;have h1:=hh x hx;have h2:=hc x hx;have h3:=DX hx;simp only[okI,decide_eq_true_eq];omega
theorem Qam(h:Int)(l:List Item)(x:Item):Nah h (l++[x])=Nah h l++Sah h x:=by unfold Nah;rw[List.flatMap_append];simp
theorem Aak(h:Int):∀l:List Item,(Nah h l).length<=l.length
 |[]=>Nat.le_refl _
 |x::l=>by
  have:=Aak h l;unfold Nah at *;rw[List.flatMap_cons,List.length_append,List.length_cons];have:(Sah h x).length<=1:=by unfold Sah;split<;>simp
  omega
theorem Ram{s:List Item}(hs:PS s){h:Int}(hh:1<=h/\h<=7):Jaj s h/\Iaj s h=gathI (Nah h s):=by
 have hl:=hs.len
 have k:Ea (λq:LI×Int=>Faj h s (ba .item s) q.1 q.2) ([],0) (.x (Nah h s)):=by
  refine la.fold s (λi b=>(b,(i:Int))) (λl=>Nah h l) rfl (λl x r hx=>?_) ?_
  .obtain⟨hlen,hq,hj,hp⟩:=Qa (t:=.item) hx;have hk:=hs.kv x (by rw[hx];simp);obtain⟨e1,e2⟩:=EW hk.1 hk.2 hh;have hm:=Aak h l;have ho:∀y,lim (ba .item (Nah h l)) (ba .item [y]):=λy=>yb (t:=.item) (show(Nah h l).length<1099511627776 by omega);simp only[Faj,Eaj,Kal,pcT,Tr.val,Tr.ob,da,hp,hq,Ia (l:=l) (by omega),e2];rw[Qam];cases hb:(ic h x.Key x.Val).2.2 with
   |true=>exact⟨by simp[hj,ho,e1],by simp[ka,Sah,hb]⟩
   |false=>exact⟨by simp[hj,ho,e1],by simp[ka,Sah,hb]⟩
  .have hi:cmp .lss (s.length:Int) (ba .item s)=false:=Na (t:=.item);simp only[Faj,Tr.val,Tr.ob,hi];exact⟨by simp,rfl⟩
 have a2:(Iai h s (ba .item s)).o=.x (Nah h s):=k.v;have b2:(Iai h s (ba .item s)).ob:=k.t;have hn:=Aak h s;obtain⟨q1,q2⟩:=oX (Nah h s) (by omega);obtain⟨s1,s2⟩:=Vah s (by omega)
 have hw:Daj h/\Caj h=true:=by
  have e1:cmp .geq h 1=true:=decide_eq_true (by omega);have e2:cmp .leq h 7=true:=decide_eq_true (by omega);simp only[Daj,Caj,Baj,Tr.val,Tr.ob,e1,e2];exact⟨by simp,rfl⟩
 simp only[Jaj,Iaj,Haj,Gaj,Mal,pcT,Tr.val,Tr.ob,da,s2,hs.ok,hw.2,a2,q2];exact⟨by simp[s1,hw.1,b2,q1],rfl⟩
theorem Sam{s u:List Item}(hs:PS s)(hu:PS u):Maj s u/\Laj s u=gathI (s++u):=by
 have hl:=hs.len;have hh:=hu.len;obtain⟨s1,s2⟩:=Vah s (by omega);obtain⟨u1,u2⟩:=Vah u (by omega);obtain⟨q1,q2⟩:=oX (s++u) (by rw[List.length_append];omega);have h1:lim (ba .item ([]:List Item)) (ba .item s):=by simp only[lim,ba,List.length_nil];omega
 have h2:lim (ba .item s) (ba .item u):=lF (t:=.item) (by omega);simp only[Maj,Laj,Kaj,Tr.val,Tr.ob,da,s2,u2,hs.ok,hu.ok,List.nil_append,q2];exact⟨by simp[s1,u1,h1,h2,q1],rfl⟩
theorem Tam{s:List Item}(hs:PS s):Saj s/\Raj s=s.map Kb:=by
 have hl:=hs.len
 have k:Ea (λq:LI×Int=>Oaj s (ba .item s) q.1 q.2) (s,0) (.x (s.map Kb)):=by
  refine la.fold s (λi b=>(b,(i:Int))) (λl=>l.map Kb++s.drop l.length) (by simp) (λl x r hx=>?_) ?_
  .have hlen:s.length=l.length+(r.length+1):=by rw[hx];simp
   have hd:s.drop l.length=x::r:=by rw[hx];simp
   have hh:s.drop (l++[x]).length=r:=by rw[hx];simp
   have hn:(l.map Kb).length=l.length:=by simp
   have ho:rd .item (l.map Kb++x::r) (l.length:Int)=x:=by rw[<-hn];exact Xi
   have hj:inb (l.length:Int) (ba .item (l.map Kb++x::r)):=by rw[<-hn];exact Yi (t:=.item)
   have hm:cmp .lss (l.length:Int) (ba .item s)=true:=by rw[hx];exact WL
   have hp:List.set (l.map Kb++x::r) (Int.toNat (l.length:Int)) (Kb x)=(l++[x]).map Kb++r:=by
    rw[show Int.toNat (l.length:Int)=(l.map Kb).length by rw[hn];rfl,List.set_append_right _ _ (Nat.le_refl _),Nat.sub_self];simp
   simp only[hd,hh,Oaj,Tr.val,Tr.ob,da,hm,ho,Ia (l:=l) (by omega)];refine⟨by simp[hj],?_⟩;show Lp.go (List.set (l.map Kb++x::r) (Int.toNat (l.length:Int)) (Kb x),_)=_;rw[hp]
  .have hi:cmp .lss (s.length:Int) (ba .item s)=false:=Na (t:=.item);simp only[Oaj,Tr.val,Tr.ob,da,hi];exact⟨by simp,by simp[ka]⟩
 have a2:(Lai s (ba .item s)).o=.x (s.map Kb):=k.v;have b2:(Lai s (ba .item s)).ob:=k.t;obtain⟨s1,s2⟩:=Vah s (by omega);have hk:lim (ba .item ([]:List Item)) (ba .item s):=by simp only[lim,ba,List.length_nil];omega
 simp only[Saj,Raj,Qaj,Paj,Pal,pcT,Tr.val,Tr.ob,da,s2,hs.ok,List.nil_append,a2];exact⟨by simp[s1,b2,hk],rfl⟩
theorem Bak(x:Item):∀b:List Item,(b.flatMap (Pah x)).length<=b.length
 |[]=>Nat.le_refl _
 |y::b=>by
  have:=Bak x b;rw[List.flatMap_cons,List.length_append,List.length_cons];have:(Pah x y).length<=1:=by unfold Pah;split<;>simp
  omega
theorem ral(b:List Item):∀a:List Item,(Mah a b).length<=a.length*b.length
 |[]=>by simp[Mah]
 |x::a=>by
  have h1:=ral b a;have h2:=Bak x b;show((x::a).flatMap λx=>b.flatMap (Pah x)).length<=_;rw[List.flatMap_cons,List.length_append,List.length_cons,Nat.succ_mul];have:(Mah a b).length=(a.flatMap λx=>b.flatMap (Pah x)).length:=rfl;omega
theorem sal{a b:List Item}(ha:a.length<=400)(hb:b.length<=400):(Mah a b).length<=160000:=Nat.le_trans (ral b a) (Nat.mul_le_mul ha hb)
theorem Uam{x y:Int}(hx : -39999600<=x/\x<=39999600)(hy : -39999600<=y/\y<=39999600):ar .mul .i64 x y=x*y:=by
 have h1:x.natAbs<=39999600:=by omega
 have h2:y.natAbs<=39999600:=by omega
 have h3:(x*y).natAbs<=39999600*39999600:=by rw[Int.natAbs_mul];exact Nat.mul_le_mul h1 h2
 have h4:(39999600:Nat)*39999600=1599968000160000:=rfl;rw[h4]at h3;exact Lg (by omega)
theorem Vam{s u:List Item}(hs:PS s)(hu:PS u):aak s u/\Zaj s u=gathI (Mah s u):=by
 have hl:=hs.len;have hp:=hu.len
 have k4:∀(x:Item) (m0:List Item) (i:Int),x∈s->m0.length<=160000->Ea (λq:LI×Int=>Uaj u m0 x s (ba .item s) i (ba .item u) q.1 q.2) (m0,0) (.x (m0++u.flatMap (Pah x))):=by
  intro x m0 i hx hq;have hw:=hs.kv x hx;have hv:=hs.cnt x hx;refine la.fold u (λi b=>(b,(i:Int))) (λl=>m0++l.flatMap (Pah x)) (by simp) (λl y r hy=>?_) ?_
  .obtain⟨hlen,hr,hi,ho⟩:=Qa (t:=.item) hy;have hz:y∈u:=by rw[hy];simp
   obtain⟨v1,v2⟩:=JW hw.2 (hu.kv y hz).2;have hm:=Bak x l;have hn:∀z,lim (ba .item (m0++l.flatMap (Pah x))) (ba .item [z]):=λz=>yb (t:=.item) (show(m0++l.flatMap (Pah x)).length<1099511627776 by rw[List.length_append];omega);simp only[Uaj,Taj,Qal,pcT,Tr.val,Tr.ob,da,ho,hr,Ia (l:=l) (by omega),v2,Uam hv (hu.cnt y hz),xb];rw[List.flatMap_append,<-List.append_assoc];by_cases hk:x.Key=y.Key
   .exact⟨by simp[hi,hn,v1],by simp[ka,Pah,hk]⟩
   .exact⟨by simp[hi,hn,hk],by simp[ka,Pah,hk]⟩
  .have hh:cmp .lss (u.length:Int) (ba .item u)=false:=Na (t:=.item);simp only[Uaj,Tr.val,Tr.ob,hh];exact⟨by simp,rfl⟩
 have k:Ea (λq:LI×Int=>Waj u s (ba .item s) q.1 q.2) ([],0) (.x (Mah s u)):=by
  refine la.fold s (λi m=>(m,(i:Int))) (λl=>Mah l u) rfl (λl x r hx=>?_) ?_
  .obtain⟨hlen,hr,hi,ho⟩:=Qa (t:=.item) hx;have k:=k4 x (Mah l u) (l.length:Int) (by rw[hx];simp) (sal (a:=l) (b:=u) (by omega) hp);have c2:(Mai u (Mah l u) x s (ba .item s) (l.length:Int) (ba .item u)).o=.x (Mah l u++u.flatMap (Pah x)):=k.v;have c1:(Mai u (Mah l u) x s (ba .item s) (l.length:Int) (ba .item u)).ob:=k.t;have ht:Mah (l++[x]) u=Mah l u++u.flatMap (Pah x):=by unfold Mah;rw[List.flatMap_append];simp
   simp only[Waj,Vaj,Sal,pcT,Tr.val,Tr.ob,da,ho,hr,Ia (l:=l) (by omega),c2];rw[ht];exact⟨by simp[hi,c1],rfl⟩
  .have hh:cmp .lss (s.length:Int) (ba .item s)=false:=Na (t:=.item);simp only[Waj,Tr.val,Tr.ob,hh];exact⟨by simp,rfl⟩
 have a2:(Nai u s (ba .item s)).o=.x (Mah s u):=k.v;have b2:(Nai u s (ba .item s)).ob:=k.t;obtain⟨s1,s2⟩:=Vah s (by omega);obtain⟨u1,u2⟩:=Vah u (by omega);have hj:=sal (a:=s) (b:=u) hl hp;obtain⟨q1,q2⟩:=oX (Mah s u) (by omega);simp only[aak,Zaj,Yaj,Xaj,Ual,pcT,Tr.val,Tr.ob,da,s2,u2,hs.ok,hu.ok,a2,q2];exact⟨by simp[s1,u1,b2,q1],rfl⟩
theorem Wam(num:Int)(ks ins:List (List Item)):opS 1 num ks ins=ins.getD num.toNat []:=rfl
theorem Xam(num:Int)(ks ins:List (List Item)):opS 2 num ks ins=gathI (Nah num (ks.getD 0 [])):=rfl
theorem Yam(num:Int)(ks ins:List (List Item)):opS 3 num ks ins=gathI (ks.getD 0 []++ks.getD 1 []):=rfl
theorem Zam(num:Int)(ks ins:List (List Item)):opS 4 num ks ins=(ks.getD 0 []).map Kb:=rfl
theorem aan(num:Int)(ks ins:List (List Item)):opS 5 num ks ins=gathI (Mah (ks.getD 0 []) (ks.getD 1 [])):=rfl
theorem ban(num:Int)(ks ins:List (List Item)):opS 6 num ks ins=Pg num (ks.getD 0 []):=rfl
theorem Xah{ks:List (List Item)}{i:Int}(h0:0<=i)(h:i<ks.length):inb i (ba .litem ks):=by unfold inb ba;omega
theorem dan{ins:List (List Row)}(t:Time)(hlen:ins.length=2)(hins:∀a∈ins,Ca a=true):∀(d n:Nat),d<=n->∀(p:Plan) (x:List Row),okM d p=true->Sb d ins p=some x ->
  (Oah n).2 p (ins.map λa=>Od a t)/\(Oah n).1 p (ins.map λa=>Od a t)=(Od x t,true,()):=by
 intro d
 induction d with
 |zero=>intro n _ p x h;cases h
 |succ d ih=>
  intro n hn p x hp hx;obtain⟨m,rfl⟩ : ∃m,n=m+1:=⟨n - 1,by omega⟩;obtain⟨he,hk⟩:=UF hp;have hb:=AF hx;have hx:=(ram d ins p).symm.trans hx
  obtain⟨ks,io⟩ : ∃ks,Rb (Sb d ins) p.Kids=some ks:=by
   cases hA:Rb (Sb d ins) p.Kids with
   |none=>rw[hA]at hx;cases hx
   |some ks=>exact⟨ks,rfl⟩
  have kn:opR p.Kind p.Num ks ins=x:=by
   rw[io]at hx;simp only at hx;split at hx
   .exact Option.some.inj hx
   .cases hx
  have hc:∀x∈ks,Ca x=true:=λx hx=>by
   obtain⟨q,_,hq⟩:=zF io x hx;exact AF hq
  have ju:=uam (kind:=p.Kind) (num:=p.Num) (ks:=ks) (ins:=ins) hc t;rw[kn]at ju;generalize hJ:(ins.map λa=>Od a t)=J at ju ih⊢;have hh:J.length=2:=by rw[<-hJ,List.length_map];exact hlen
  have hi:∀s∈J,PS s:=λs hs=>by
   rw[<-hJ]at hs;obtain⟨a,ha,rfl⟩:=List.mem_map.1 hs;exact Wai (je (hins a ha)) t
  have hg:=Lm io;generalize hL:(ks.map λa=>Od a t)=L at ju;have hj:L.length=p.Kids.length:=by rw[<-hL,List.length_map];exact hg
  have hm:∀s∈L,PS s:=λs hs=>by
   rw[<-hL]at hs;obtain⟨a,ha,rfl⟩:=List.mem_map.1 hs;exact Wai (je (hc a ha)) t
  have k:∃q,Ea (λs:List LI×Int=>cak (Oah m).1 (Oah m).2 J p.Kind p.Num p.Kids (ba .plan p.Kids) s.1 s.2) ([],0) q/\q=.x L:=by
   refine la.list p.Kids (λi b=>(b,(i:Int))) (λl b=>∃ys,Rb (Sb d ins) l=some ys/\b=ys.map λa=>Od a t) (b0:=[]) rfl ⟨[],rfl,rfl⟩ (λl y r b hy hI=>?_) (λb hI=>?_)
   .obtain⟨ys,hI,rfl⟩:=hI;obtain⟨hlen2,kk,hw,ix⟩:=Qa (t:=.plan) hy;have ht:=Lm hI;have ho:=Km (Sb d ins) l (y::r);have hr:=Km (Sb d ins) l [y];rw[<-hy,io,hI]at ho;rw[hI]at hr;cases hf:Sb d ins y with
    |none=>simp[Rb,hf]at ho
    |some z=>
     simp only[Rb,hf]at hr;obtain⟨i1,i2⟩:=ih m (by omega) y z (hk y (by rw[hy];simp)) hf;have it:∀w,lim (ba .litem (ys.map λa=>Od a t)) (ba .litem [w]):=λw=>yb (t:=.litem) (show(ys.map λa=>Od a t).length<1099511627776 by rw[List.length_map];omega);simp only[cak,Tr.val,Tr.ob,da,ix,kk,od,i2,Ia (l:=l) (by omega)];exact⟨by simp[hw,i1,it],.inl ⟨_,rfl,ys++[z],hr,by rw[List.map_append];rfl⟩⟩
   .obtain⟨ys,hI,rfl⟩:=hI;rw[io]at hI;cases hI;have hu:cmp .lss (p.Kids.length:Int) (ba .plan p.Kids)=false:=Na (t:=.plan);simp only[cak,Tr.val,Tr.ob,da,hu];exact⟨by simp,_,rfl,by rw[hL]⟩
  obtain⟨q,kq,rfl⟩:=k;have a2:(Pai (Oah m).1 (Oah m).2 J p.Kind p.Num p.Kids (ba .plan p.Kids)).o=.x L:=kq.v;have b2:(Pai (Oah m).1 (Oah m).2 J p.Kind p.Num p.Kids (ba .plan p.Kids)).ob:=kq.t;have km:=qam hp;simp only[Rd,decide_eq_true_eq]at km;obtain⟨r1,r2,r3⟩:=km;have kj:=Wai (je hb) t;have ki:=kj.len;obtain⟨z1,z2⟩:=Vah (Od x t) (by omega)
  have hv:∀ {l:List (List Item)},(∀s∈l,PS s)->∀n,n<l.length->PS (l.getD n []):=λ{l} h n hn=>by
   rw[List.getD_eq_getElem?_getD,List.getElem?_eq_getElem hn];exact h _ (List.getElem_mem hn)
  obtain⟨K,M,kids⟩:=p;simp only at r1 r2 r3 b2 a2 hj ju⊢;have kp:∀l:List (List Item),rd .litem l 0=l.getD 0 []:=λ_=>rfl;have kr:∀l:List (List Item),rd .litem l 1=l.getD 1 []:=λ_=>rfl
  have key:(eak (Oah m).1 (Oah m).2 J K M kids L).ob/\(eak (Oah m).1 (Oah m).2 J K M kids L).val=.n (Od x t):=by
   simp only[eak,Tr.val,Tr.ob,da,xb,kp,kr,List.nil_append];rcases Jt K with rfl|rfl|rfl|rfl|rfl|rfl|⟨g1,g2,g3,g4,g5,g6⟩
   .simp only[kd]at r1 r2 r3;have hM:0<=M/\M<=1:=by simpa using And.intro r2 r3
    have kk:rd .litem J M=J.getD M.toNat []:=rfl;have jb:=hv hi M.toNat (by omega);have hw:=Xah (ks:=J) hM.1 (by omega);have hl:=jb.len;have it:lim (ba .item ([]:List Item)) (ba .item (J.getD M.toNat [])):=by simp only[lim,ba,List.length_nil];omega
    rw[ju,Wam];exact⟨by simp only[kk];simp[hw];exact it,by simp[kk]⟩
   .have ie:L.length=1:=by simp[kd]at r1;omega
    have hw:=Xah (ks:=L) (i:=0) (by omega) (by omega);simp only[kd]at r2 r3;have hM:1<=M/\M<=7:=by simpa using And.intro r2 r3
    obtain⟨c1,c2⟩:=Ram (hv hm 0 (by omega)) hM;rw[ju,Xam];exact⟨by simp[-List.getD_eq_getElem?_getD,hw,c1],by simp[-List.getD_eq_getElem?_getD,c2]⟩
   .have ie:L.length=2:=by simp[kd]at r1;omega
    have hw:=Xah (ks:=L) (i:=0) (by omega) (by omega);have hz:=Xah (ks:=L) (i:=1) (by omega) (by omega);obtain⟨c1,c2⟩:=Sam (hv hm 0 (by omega)) (hv hm 1 (by omega));rw[ju,Yam];exact⟨by simp[-List.getD_eq_getElem?_getD,hw,hz,c1],by simp[-List.getD_eq_getElem?_getD,c2]⟩
   .have ie:L.length=1:=by simp[kd]at r1;omega
    have hw:=Xah (ks:=L) (i:=0) (by omega) (by omega);obtain⟨c1,c2⟩:=Tam (hv hm 0 (by omega));rw[ju,Zam];exact⟨by simp[-List.getD_eq_getElem?_getD,hw,c1],by simp[-List.getD_eq_getElem?_getD,c2]⟩
   .have ie:L.length=2:=by simp[kd]at r1;omega
    have hw:=Xah (ks:=L) (i:=0) (by omega) (by omega);have hz:=Xah (ks:=L) (i:=1) (by omega) (by omega);obtain⟨c1,c2⟩:=Vam (hv hm 0 (by omega)) (hv hm 1 (by omega));rw[ju,aan];exact⟨by simp[-List.getD_eq_getElem?_getD,hw,hz,c1],by simp[-List.getD_eq_getElem?_getD,c2]⟩
   .have ie:L.length=1:=by simp[kd]at r1;omega
    have hw:=Xah (ks:=L) (i:=0) (by omega) (by omega);simp only[kd]at r2 r3;have hM:1<=M/\M<=3:=by simpa using And.intro r2 r3
    have jb:=hv hm 0 (by omega);have hl:=jb.len;obtain⟨c1,c2⟩:=cX (s:=L.getD 0 []) (by omega) jb.can (λx hx=>(jb.kv x hx).1) hM;rw[ju,ban];exact⟨by simp[-List.getD_eq_getElem?_getD,hw,c1],by simp[-List.getD_eq_getElem?_getD,c2]⟩
   .exfalso
    simp[kd,g1,g2,g3,g4,g5,g6]at r1
  obtain⟨c1,c2⟩:=key;simp only[Oah,sai,dak,Xal,fak,pcT,Tr.val,Tr.ob,da,a2,c2,z2,kj.ok];exact⟨by simp[b2,c1,c2,z1],rfl⟩
theorem ean{p:Plan}{ins:List (List Row)}{x:List Row}(f:RF p ins x)(t:Time):lak p (ins.map λa=>Od a t)/\kak p (ins.map λa=>Od a t)=(Od x t,true,()):=by
 obtain⟨p1,p2⟩:=BX p;obtain⟨q1,q2⟩:=dan t f.len f.every 4 gc (by decide) p x f.ok f.flow;have q1:Vak p (ins.map λa=>Od a t):=q1;have q2:Uak p (ins.map λa=>Od a t)=(Od x t,true,()):=q2;generalize hJ:(ins.map λa=>Od a t)=J at q1 q2⊢;have hh:J.length=2:=by rw[<-hJ,List.length_map];exact f.len
 have hi:∀s∈J,PS s:=λs hs=>by
  rw[<-hJ]at hs;obtain⟨a,ha,rfl⟩:=List.mem_map.1 hs;exact Wai (je (f.every a ha)) t
 have k:Ea (λs:Int=>hak J p.Kind p.Num p.Kids (ba .litem J) s) 0 (.x ()):=by
  refine la.fold J (λi (_:Unit)=>(i:Int)) (λ_=>()) rfl (λl y r hx=>?_) ?_
  .obtain⟨hlen,hn,hk,hl⟩:=Qa (t:=.litem) hx;have hy:=hi y (by rw[hx];simp);have ho:=hy.len;obtain⟨b1,b2⟩:=Vah y (by omega);simp only[hak,Tr.val,Tr.ob,da,hl,hn,b2,hy.ok,Ia (l:=l) (by omega)];exact⟨by simp[hk,b1],rfl⟩
  .have hj:cmp .lss (J.length:Int) (ba .litem J)=false:=Na (t:=.litem);simp only[hak,Tr.val,Tr.ob,da,hj];exact⟨by simp,rfl⟩
 have a2:(Rai J p.Kind p.Num p.Kids (ba .litem J)).o=.x ():=k.v;have b2:(Rai J p.Kind p.Num p.Kids (ba .litem J)).ob:=k.t;have hm:cmp .neq (ba .litem J) 2=false:=by rw[De];unfold ba;simp[hh]
 simp only[lak,kak,jak,iak,aam,pcT,Tr.val,Tr.ob,da,od,p2,f.ok,hm,a2,q2];exact⟨by simp[p1,b2,q1],rfl⟩
theorem tal(n:Nat):allT (n+1)=allT n++(List.range 8).map λb:Nat=>(⟨(n:Int),(b:Int)⟩ : Time):=by
 unfold allT;rw[List.range_succ (n:=n),List.flatMap_append];simp
theorem Cak:∀n,(allT n).length=8*n
 |0=>rfl
 |n+1=>by rw[tal,List.length_append,Cak n];simp;omega
theorem fan{t:Time}(h:t∈allT 8):za t=true:=by
 obtain⟨a,ha,h⟩:=List.mem_flatMap.1 h;obtain⟨b,hb,rfl⟩:=List.mem_map.1 h;have ha:=List.mem_range.1 ha;have hb:=List.mem_range.1 hb;simp only[za,decide_eq_true_eq];omega
theorem gan:raj/\qaj=allT 8:=by
 have k4:∀(m0:List Time) (n:Nat),m0.length<=64->Ea (λs:List Time×Int=>nai m0 (n:Int) s.1 s.2) (m0,0) (.x (m0++(List.range 8).map λb:Nat=>(⟨(n:Int),(b:Int)⟩ : Time))):=λm0 n hm=>by
  have h:=YM (step:=λs:List Time×Int=>ka (nai m0 (n:Int) s.1 s.2).val) (ob:=λs=>(nai m0 (n:Int) s.1 s.2).ob) (λk=>m0++(List.range k).map λb:Nat=>(⟨(n:Int),(b:Int)⟩ : Time)) (fin:=.x (m0++(List.range 8).map λb:Nat=>(⟨(n:Int),(b:Int)⟩ : Time))) (λi hi=>?_) ?_
  .simpa using h
  .have e:cmp .leq (i:Int) 7=true:=decide_eq_true (by omega);have hh:∀w,lim (ba .time (m0++(List.range i).map λb:Nat=>(⟨(n:Int),(b:Int)⟩ : Time))) (ba .time [w]):=λw=>yb (t:=.time) (show List.length _<1099511627776 by rw[List.length_append,List.length_map,List.length_range];omega);simp only[nai,Tr.val,Tr.ob,da,e];refine⟨by simp[hh],?_⟩;have ea:ar .add .i64 (i:Int) 1=((i+1:Nat):Int):=by rw[Zb (by omega)];omega
   rw[List.range_succ,List.map_append,<-List.append_assoc,ea];rfl
  .have e:cmp .leq ((8:Nat):Int) 7=false:=rfl;simp only[nai,Tr.val,Tr.ob,da,e];exact⟨by simp,rfl⟩
 have k:Ea (λs:List Time×Int=>oai s.1 s.2) ([],0) (.x (allT 8)):=by
  refine YM (step:=λs:List Time×Int=>ka (oai s.1 s.2).val) (ob:=λs=>(oai s.1 s.2).ob) allT (λi hi=>?_) ?_
  .have e:cmp .leq (i:Int) 7=true:=decide_eq_true (by omega);have k:=k4 (allT i) i (by rw[Cak];omega);have a4:(Bai (allT i) (i:Int)).o=.x (allT (i+1)):=by rw[tal];exact k.v
   have b4:(Bai (allT i) (i:Int)).ob:=k.t;have ea:ar .add .i64 (i:Int) 1=((i+1:Nat):Int):=by rw[Zb (by omega)];omega
   simp only[oai,naj,Cal,pcT,Tr.val,Tr.ob,e,a4,ea];exact⟨by simp[b4],rfl⟩
  .have e:cmp .leq ((8:Nat):Int) 7=false:=rfl;simp only[oai,Tr.val,Tr.ob,e];exact⟨by simp,rfl⟩
 have a2:Cai.o=.x (allT 8):=k.v;have b2:Cai.ob:=k.t;simp only[raj,qaj,paj,oaj,Eal,pcT,Tr.val,Tr.ob,a2];exact⟨by simp[b2],rfl⟩
theorem han{ins:List (List Row)}(hl:ins.length<=2)(hr:∀a∈ins,Gb a=true){t:Time}(ht:za t=true):xaj ins t/\waj ins t=ins.map λa=>Od a t:=by
 have k:Ea (λs:List LI×Int=>taj ins t s.1 s.2) ([],0) (.x (ins.map λa=>Od a t)):=by
  refine la.fold ins (λi b=>(b,(i:Int))) (λl=>l.map λa=>Od a t) rfl (λl y r hx=>?_) ?_
  .obtain⟨hlen,hm,hi,hk⟩:=Qa (t:=.lrow) hx;have hy:=hr y (by rw[hx];simp);have hn:=(bb hy).1;obtain⟨b1,b2⟩:=pam y t (by omega);rw[if_pos ⟨hy,ht⟩]at b2;have hj:∀w,lim (ba .litem (l.map λa=>Od a t)) (ba .litem [w]):=λw=>yb (t:=.litem) (show(l.map λa=>Od a t).length<1099511627776 by rw[List.length_map];omega);simp only[taj,Tr.val,Tr.ob,da,hk,hm,b2,Ia (l:=l) (by omega)];exact⟨by simp[hi,b1,hj],by rw[List.map_append];rfl⟩
  .have hh:cmp .lss (ins.length:Int) (ba .lrow ins)=false:=Na (t:=.lrow);simp only[taj,Tr.val,Tr.ob,da,hh];exact⟨by simp,rfl⟩
 have a2:(Eai ins t).o=.x (ins.map λa=>Od a t):=k.v;have b2:(Eai ins t).ob:=k.t;simp only[xaj,waj,vaj,uaj,Gal,pcT,Tr.val,Tr.ob,a2];exact⟨by simp[b2],rfl⟩
theorem uap(f:List Time)(x:List Row):(Wa f x).Sublist x:=List.filter_sublist
noncomputable def atV(s:Sess)(t:Time):List Item×Bool×Unit:=cond (fd s&&(za t&&!Fb s.Front t)) (Od s.Told t,true,()) ([],false,())
theorem fam{s:Sess}(h:fd s=true):Gb s.Told=true:=by
 obtain⟨x,hx⟩:=wI.1 h;rw[hx.told];exact je (qag (Vm hx.flow).batch (uap _ x))
theorem gam{s:Sess}(hs:Sm s)(t:Time):zai s t/\yai s t=atV s t:=by
 have h3:=hs.front;have h4:=hs.told;obtain⟨o1,o2⟩:=Bah hs;obtain⟨b1,b2⟩:=bag s.Front t (by omega);obtain⟨p1,p2⟩:=AM s.Told t (by omega);have tp:=Eah t;have tv:ai t=za t:=Bt t;simp only[zai,yai,iaj,Tr.val,Tr.ob,da,Fl,o2,b2,p2,tv,atV];refine⟨by simp[o1,b1,p1,tp],?_⟩;cases fd s<;>cases za t<;>cases Fb s.Front t<;>rfl
theorem vap{s:Sess}(hs:Sm s)(t:Time):gaj s t/\faj s t=atV s t:=by
 have h3:=hs.front;have h4:=hs.told;obtain⟨o1,o2⟩:=vI hs;obtain⟨c1,_⟩:=JX s.Front t (by omega);obtain⟨p1,p2⟩:=zW s.Told t (by omega);have tp:=ng t;have tv:oe t=za t:=Fh t;simp only[gaj,faj,eaj,Tr.val,Tr.ob,da,Fl,o2,tv,atV];refine⟨by simp[o1,c1,p1,tp],?_⟩;cases hok:fd s with
 |false=>rfl
 |true=>
  cases ht:za t with
  |false=>rfl
  |true=>
   obtain⟨x,hx⟩:=wI.1 hok;rw[(zS hx.front ht (by omega)).2,p2,if_pos ⟨fam hok,ht⟩];cases Fb s.Front t<;>rfl
theorem wap{b:List Int}(hb:Sc b){p:Int}(hp:0<=p/\p<=300000){s:Sess}(hs:Sm s)(i:Int) :
  (vai b p s.Plan.Kind s.Plan.Num s.Plan.Kids s.Ins s.Front s.Told i).ob /\
  ((∃p' s',(vai b p s.Plan.Kind s.Plan.Num s.Plan.Kids s.Ins s.Front s.Told i).val=.n (tS p' s')/\p<=p'/\p'<=p+5/\Sm s') \/
    ∃t,(vai b p s.Plan.Kind s.Plan.Num s.Plan.Kids s.Ins s.Front s.Told i).val=.r (s,t,())):=by
 have hk:=hs.front;obtain⟨a1,a2⟩:=zt hb (p:=p) (by omega);obtain⟨c1,_⟩:=JX s.Front (Jh (b,p)).1 (by omega);obtain⟨x1,x2,_,_⟩:=Eb hb (p:=p+3) (n:=4) (by omega) (by omega);obtain⟨y1,y2,_,_⟩:=Eb hb (p:=p+3+1) (n:=3) (by omega) (by omega);have hB:∀u,dv s.Front [u]/\(cv s.Front [u]).length<=64:=λu=>uag hk (by simp);have hO:∀u,zy s (cv s.Front [u])/\tg s (cv s.Front [u])=onV s (cv s.Front [u]):=λu=>sag hs (by have:=(hB u).2;omega);have hi:=λu=>(hO u).1;have hj:=λu=>(hO u).2;have hh:=λu=>(hB u).1;simp only[vai,Xai,Dak,Yai,Eak,pcT,Tr.val,Tr.ob,da,Fl,a2,x2,y2,hj];cases Mk s.Front (Jh (b,p)).1 with
 |false=>exact⟨by simp[a1,c1],.inr ⟨_,rfl⟩⟩
 |true=>
  refine⟨by simp[a1,c1,x1,y1,hh,hi],.inl ?_⟩;simp only[Bool.not_true,onV];cases yI s (cv s.Front [Time.mk (ar .add .i64 2 (ia (b,p+3) 4).1) (ia (b,p+3+1) 3).1]) with
  |true=>exact⟨_,onS s _,rfl,by omega,by omega,Dah hs (by have:=(hB (Time.mk (ar .add .i64 2 (ia (b,p+3) 4).1) (ia (b,p+3+1) 3).1)).2;omega)⟩
  |false=>exact⟨_,s,rfl,by omega,by omega,hs⟩
theorem xap{c:List Int}(hc:∀x∈c,0<=x/\x<=255):daj c/\∃s t,caj c=(s,t,())/\Sm s:=by
 obtain⟨o1,b,o2,hb⟩:=xah hc;obtain⟨s1,s2,s3,s4⟩:=Cah hb;generalize hv:Up (b,0)=sv at s2 s3 s4;obtain⟨s,q0⟩:=sv;simp only[]at s2 s3 s4
 have key:∃q,la (λt:Int×Int×Int×LP×(List LR)×(List Time)×LR×Int=>ka (wai b q0 s.Plan.Kind s.Plan.Num s.Plan.Kids s.Ins s.Front s.Told t.1 t.2.1 t.2.2.1 t.2.2.2.1 t.2.2.2.2.1 t.2.2.2.2.2.1 t.2.2.2.2.2.2.1 t.2.2.2.2.2.2.2).val)
   (λt=>(wai b q0 s.Plan.Kind s.Plan.Num s.Plan.Kids s.Ins s.Front s.Told t.1 t.2.1 t.2.2.1 t.2.2.2.1 t.2.2.2.2.1 t.2.2.2.2.2.1 t.2.2.2.2.2.2.1 t.2.2.2.2.2.2.2).ob)
   (q0,s.Plan.Kind,s.Plan.Num,s.Plan.Kids,s.Ins,s.Front,s.Told,0) q/\((∃p' s',q=.x (tS p' s')/\0<=p'/\p'<=1000/\Sm s')\/∃s' t,q=.r (s',t,())/\Sm s'):=by
  refine la.list (List.range 5) (λi (t:Int×Sess)=>(t.1,t.2.Plan.Kind,t.2.Plan.Num,t.2.Plan.Kids,t.2.Ins,t.2.Front,t.2.Told,(i:Int))) (λl t=>0<=t.1/\t.1<=400+6*l.length/\Sm t.2) (b0:=(q0,s)) rfl ⟨s2,by simpa using s3,s4⟩ ?_ ?_
  .rintro l x r ⟨p,t⟩ hx ⟨i1,i2,i3⟩;simp only[]at i1 i2 i3;have hlen:5=l.length+(r.length+1):=by have:=congrArg List.length hx;simpa using this
   have hl:cmp .lss (l.length:Int) 5=true:=by rw[Yb];simp;omega
   obtain⟨x1,x2,_,_⟩:=Eb hb (p:=p) (n:=10) (by omega) (by omega);obtain⟨c1,c2⟩:=wap hb (p:=p+1) (by omega) i3 (l.length:Int);simp only[wai,Zai,pcT,Tr.val,Tr.ob,da,hl,x2,cond_true,Bool.true_and,Ia (l:=l) (by omega)];cases cmp .gtr (ia (b,p) 10).1 0 with
   |false=>exact⟨by simp[x1],.inr ⟨_,rfl,.inl ⟨p+1,t,rfl,by omega,by omega,i3⟩⟩⟩
   |true=>
    rcases c2 with⟨p',t',c2,c3,c4,c5⟩|⟨u,c2⟩
    .rw[c2];exact⟨by simp[x1,c1],.inl ⟨(p',t'),rfl,by simp only[];omega,by simp only[List.length_append,List.length_singleton];omega,c5⟩⟩
    .rw[c2];exact⟨by simp[x1,c1],.inr ⟨_,rfl,.inr ⟨t,u,rfl,i3⟩⟩⟩
  .rintro⟨p,t⟩ ⟨i1,i2,i3⟩;have hl:cmp .lss ((List.range 5).length:Int) 5=false:=rfl;simp only[List.length_range]at i2;simp only[wai,Tr.val,Tr.ob,da,hl];exact⟨by simp,_,rfl,.inl ⟨p,t,rfl,i1,by omega,i3⟩⟩
 obtain⟨q,k1,k2⟩:=key;have a2:(xai b q0 s.Plan.Kind s.Plan.Num s.Plan.Kids s.Ins s.Front s.Told).o=q:=k1.v;have b2:(xai b q0 s.Plan.Kind s.Plan.Num s.Plan.Kids s.Ins s.Front s.Told).ob:=k1.t;simp only[daj,caj,baj,aaj,wal,pcT,Tr.val,Tr.ob,da,o2,hv,a2];rcases k2 with⟨p',s',rfl,h1,h2,h3⟩|⟨s',t,rfl,h3⟩
 .have w:=UX hb (p:=p') (by omega);exact⟨by simp[o1,s1,b2,tS,w],s',(Qp (b,p')).1,by simp only[tS,ocR,Fl],h3⟩
 .exact⟨by simp[o1,s1,b2],s',t,rfl,h3⟩
theorem yap{a:List Item}(hl:a.length<=1000):Tah a a/\Zah a a=true:=by
 obtain⟨h1,h2⟩:=pal a a (by omega);exact⟨h1,h2.2 rfl⟩
theorem zap(s:Sess)(t:Time):(atV s t).1.length<=1000:=by
 unfold atV;cases h:fd s with
 |false=>exact Nat.zero_le _
 |true=>
  have:=zak (fam h) t;cases (za t&&!Fb s.Front t)<;>simp<;>omega
theorem Aap{f:List Time}{t:Time}(h:Fb f t=false)(x:List Row):Za (Wa f x) t=Za x t:=by
 unfold Za Wa;rw[List.filter_filter];refine congrArg _ (List.filter_congr λz _=>?_);cases hz:Rc z.At t with
 |false=>simp
 |true=>
  have:Fb f z.At=false:=by
   rw[<-Bool.not_eq_true];intro hh;unfold Fb at hh h;rw[List.any_eq_true]at hh;obtain⟨u,hu,hk⟩:=hh;have:=List.any_eq_false.1 h u hu;exact this (mag hk hz)
  simp[this]
theorem Bap(c:List Int)(hc:∀x∈c,0<=x/\x<=255):qak c/\pak c=true:=by
 by_cases hh:cmp .gtr (ba .byte c) 1048576=true
 .simp only[qak,pak,Uai,hh,ocR,Tr.val,Tr.ob,da];exact⟨by simp,trivial⟩
 .have hh:cmp .gtr (ba .byte c) 1048576=false:=by simpa using hh
  obtain⟨d1,s,t0,d2,hs⟩:=xap hc;obtain⟨e1,e2⟩:=vap hs t0;obtain⟨f1,f2⟩:=gam hs t0;obtain⟨o1,o2⟩:=vI hs;obtain⟨l1,l2⟩:=yap (zap s t0);obtain⟨w1,w2⟩:=gan;simp only[qak,pak,Uai,Tr.val,Tr.ob,da,hh,d2,Fl,e2,f2,o2,l2,w2];cases hok:fd s with
  |false=>simp[d1,e1,f1,l1,o1,ocR]
  |true=>
   obtain⟨x,hx⟩:=wI.1 hok;have f:=Vm hx.flow;have hn:∀a∈s.Ins,Gb a=true:=λa ha=>je (f.every a ha);have ho:=je f.batch
   have k:Ea (λj:Int=>nak s.Plan.Kind s.Plan.Num s.Plan.Kids s.Ins s.Front s.Told (allT 8) j) 0 (.x ()):=by
    refine la.fold (allT 8) (λi (_:Unit)=>(i:Int)) (λ_=>()) rfl (λl t r hx'=>?_) ?_
    .have hlen:(allT 8).length=l.length+(r.length+1):=by rw[hx'];simp
     rw[Cak]at hlen;have hm:rd .time (allT 8) (l.length:Int)=t:=by rw[hx'];exact Xi
     have hj:inb (l.length:Int) (ba .time (allT 8)):=by rw[hx'];exact Yi (t:=.time)
     have hk:cmp .lss (l.length:Int) (ba .time (allT 8))=true:=by rw[hx'];exact WL
     have ht:za t=true:=fan (by rw[hx'];simp);obtain⟨a1,a2⟩:=han (by rw[f.len];omega) hn ht;obtain⟨s1,s2⟩:=ean f t;obtain⟨b1,b2⟩:=gam hs t;have hl:=zak ho t;obtain⟨i1,i2⟩:=pal (Od x t) (Od x t) (by omega);simp only[nak,Tr.val,Tr.ob,da,hk,hm,od,a2,s2,b2,Ia (l:=l) (by omega)];cases hcv:Fb s.Front t with
     |true=>
      have ha:atV s t=([],false,()):=by unfold atV;rw[hok,ht,hcv];rfl
      rw[ha];exact⟨by simp[hj,a1,s1,b1],rfl⟩
     |false=>
      have ha:atV s t=(Od x t,true,()):=by
       unfold atV;rw[hok,ht,hcv,hx.told];show(Od (Wa s.Front x) t,true,())=_;unfold Od;rw[Aap hcv]
      rw[ha];simp only[i2.2 rfl];exact⟨by simp[hj,a1,s1,b1,i1],rfl⟩
    .have hi:cmp .lss ((allT 8).length:Int) (ba .time (allT 8))=false:=Na (t:=.time);simp only[nak,Tr.val,Tr.ob,da,hi];exact⟨by simp,rfl⟩
   have a2:(Tai s.Plan.Kind s.Plan.Num s.Plan.Kids s.Ins s.Front s.Told (allT 8)).o=.x ():=k.v;have b2:(Tai s.Plan.Kind s.Plan.Num s.Plan.Kids s.Ins s.Front s.Told (allT 8)).ob:=k.t;simp only[oak,cam,pcT,Tr.val,Tr.ob,a2];simp[d1,e1,f1,l1,o1,w1,b2,ocR]
end
theorem dap:CP 15 Fak:=qan (.cons yah (.cons zah (.cons eh (.cons rI (.cons nS (.cons eaf (.cons waf (.cons Baf g0))))))))
theorem eap:CP 16 Gak:=uan (.cons oS (.cons Dl (.cons nS (.cons oaf g0))))
theorem fap:CP 17 Hak:=yan (.cons Aah (.cons tI (.cons Yaf (.cons Raf g0))))
theorem gap:CP 18 Jak:=Ean (g0)
theorem iap:CP 20 Kak:=Ian (.cons Iaf (.cons tI (.cons Raf g0)))
theorem jap:CP 38 Lak:=Ran (g0)
theorem kap:CP 40 Mak:=Xan (.cons iap g0)
theorem tai:CP 82 cai:=dao (g0)
theorem lap:CP 138 Oak:=hao (g0)
theorem nap:CP 115 Pak:=oao (.cons tai (.cons lap (.cons Kaf (.cons UL g0))))
theorem oap:CP 116 Rak:=sao (.cons tai (.cons UL g0))
theorem pap:CP 117 Sak:=yao (.cons tai g0)
theorem qap:CP 118 Tak:=Iao (.cons tai (.cons Oaf (.cons UL g0)))
theorem eam:∀n,CP 83 (bak (Oah n).1 (Oah n).2)
 |0=>Wj (fn:=Tryz.f83) (c:=ee Tryz.f83) (by kernel_rfl) (by kernel_rfl) (by kernel_rfl) λ_ h=>h
 |n+1=>Pao (.cons (eam n) (.cons nap (.cons oap (.cons pap (.cons qap (.cons Uaf (.cons tai g0)))))))
theorem rap:CP 83 Yal:=(eam gc)
theorem sap:CP 39 Wak:=Vao (.cons Faf (.cons tai (.cons rap g0)))
theorem tap:CP 12 dam:=bap (.cons dap (.cons eap (.cons fap (.cons gap (.cons oS (.cons jap (.cons kap (.cons sap g0))))))))
end Go.Proofs.YtiiidenbemkihaaGreat
