/-
  How the abstract state follows the machine's: what a new value, or more memory, leaves as it was. Each operation's run, as the abstract evaluator tells it: those that make no memory. Each operation's run, as the abstract evaluator tells it: addresses, loads, indices. Each operation's run, as the abstract evaluator tells it: indices, slices, lengths, conversions. Each operation's run, as the abstract evaluator tells it: those that make memory. Each operation's run, as the abstract evaluator tells it: all but the calls, in one theorem. Contracts of functions, and a call by a contract. One operation, whichever it is, as the machine runs it. One operation of the simple kind moves the abstract state as the evaluator tells it. One operation of the simple kind, guards and all. Rights that go from slot to slot. 'append': in place, or into a new block. No statement is proved here.
-/
import Derived.Test.YtiiidenbemkihaaGreatB2
import Derived.Laws.IdiomCopy
import Derived.Laws.AppendOwn
import Derived.Laws.MakeOwn
import Derived.Laws.StructEq
import Derived.Laws.Slices
import Derived.Tactics
import Derived.Test.YtiiidenbemkihaaGreatProg
import Derived.Shelf.SlSortFuncK.WholeK
import Derived.Shelf.GgSortFunc.Tiny
import Derived.Tactics2
import Derived.IntWalk
namespace Go.Proofs.YtiiidenbemkihaaGreat
open Go
section
variable {F F':Fz}{w w':World} (hg:Pa F w F' w') (hl:Live F w)
include hg hl
end
section
variable {P:Program}{F:Fz}{B:Nat}{w:World}{a:Act}{ge g:Get}{ow:Nat->Option Nat->Option Nat}
end
section
variable {P:Program}{w:World}
variable {F:Fz}{B:Nat}{a:Act}{ge g:Get}{ow:Nat->Option Nat->Option Nat}
end
section
variable {P:Program}{tt:TT} (htt:Ub P tt)
include htt
end
section
variable {P:Program}{w:World}{F:Fz}{B:Nat}
variable {a:Act}{ge g:Get}{ow:Nat->Option Nat->Option Nat}
end
section
variable {P:Program}{w:World}{F:Fz}{B:Nat}
variable {a:Act}{ge g:Get}{ow:Nat->Option Nat->Option Nat}
end
section
variable {P:Program}{w:World}{F:Fz}{B:Nat}{a:Act}{ge raw:Get}{ow:Nat->Option Nat->Option Nat}
end
section
variable {P:Program}{w:World}{F:Fz}{B:Nat}{a:Act}{ge g:Get}{ow:Nat->Option Nat->Option Nat}
end
section
variable {P:Program}{w:World}{F:Fz}{B:Nat}{a:Act}{ge raw:Get}{ow:Nat->Option Nat->Option Nat}
end
section
variable {w w1:World}{F:Fz}{B:Nat}{b:Nat} (hp:Pk w b w1) (hF:Ke F w w1)
include hp hF
end
section
variable {P:Program}{tt:TT} (htt:Ub P tt) {sp:SP} (hsp:∀f s,spk sp f=some s->Con P f s)
include htt hsp
end
section
variable {B:Nat}{IoB:List Nat}{F0 F:Fz}{e:Env}{tm:Nat->Value}{w:World}{ow:Nat->Option Nat->Option Nat}
end
section
variable {P:Program}
end
section
variable {B:Nat}{IoB:List Nat}{F0 F:Fz}{e:Env}{tm:Nat->Value}{w:World}{ow:Nat->Option Nat->Option Nat}
end
section
variable {P:Program}{B:Nat}{IoB:List Nat}{F0 F:Fz}{e:Env}{tm:Nat->Value}{w:World}{ow:Nat->Option Nat->Option Nat}
end
section
variable {B:Nat}{IoB:List Nat}{F0 F:Fz}{e:Env}{tm:Nat->Value}{w:World}{ow:Nat->Option Nat->Option Nat}
end
section
variable {P:Program}{B:Nat}{IoB:List Nat}{F0 F:Fz}{e:Env}{w:World}{ow:Nat->Option Nat->Option Nat}{a:Act}
end
section
variable {P:Program}
variable {B:Nat}{IoB:List Nat}{F0 F:Fz}{e:Env}{w:World}{ow:Nat->Option Nat->Option Nat}{a:Act}
end
section
variable {P:Program}{tt:TT}{B:Nat}{IoB:List Nat}{F0 F:Fz}{e:Env}{w:World}{ow:Nat->Option Nat->Option Nat}{a:Act}
variable {sp:SP}
end
section
variable {E:Nat->Env}{W:Nat->List Nat}{L:Nat->Bool}
end
section
variable {P:Program}{tt:TT}{sp:SP}{B:Nat}{IoB:List Nat}{F0:Fz}{N:NP}{W0:World}
end
section
variable {B:Nat}{IoB:List Nat}{F0 F:Fz}{e:Env}{tm:Nat->Value}{w:World}{ow:Nat->Option Nat->Option Nat}
end
section
variable {P:Program}{tt:TT}{sp:SP}{B:Nat}{IoB:List Nat}{F0:Fz}{N:NP}{W0:World}
end
section
variable {P:Program}{tt:TT}{sp:SP}{N:NP}{fr:Fr}{c:Code}{e:Env}{n r:Env->Prop}{x:Nat->Env->Prop}
end
open Classical in
section
variable {P:Program}{N:NP}{fr:Fr}{c:Code}{n r:Env->Prop}{x:Nat->Env->Prop}
end
section
variable {P:Program}{tt:TT}{N:NP}{fr:Fr}{c:Code}{e:Env}{n r:Env->Prop}{x:Nat->Env->Prop}
end
section
variable {P:Program}{N:NP}{fr:Fr}{c:Code}{e:Env}{n r:Env->Prop}{x:Nat->Env->Prop}
end
section
variable {P:Program}{tt:TT}{B:Nat}{IoB:List Nat}{F0 F:Fz}{e:Env}{w:World}{ow:Nat->Option Nat->Option Nat}{a:Act}
end
section
variable {P:Program}{tt:TT}{N:NP}{fr:Fr}{c:Code}{e:Env}{n r:Env->Prop}{x:Nat->Env->Prop}
end
section
variable {R A X Y Z:Type}
end
section
variable (tt:TT) (sp:SP) (N:NP) (F:Fnn) (kp:List (Nat×List Nat)) (tb:List (Nat×Nat)) (af:List (Nat×Bool×Nat)) {R:Type} (subs:Ch R)
end
section
variable {P:Program}{tt:TT}{sp:SP}{N:NP}{F:Fnn}{kp:List (Nat×List Nat)}{tb:List (Nat×Nat)}{af:List (Nat×Bool×Nat)}{R:Type}{subs:Ch R}{fr:Fr}{C:Code}{n:Env->Prop}{r:RV->Prop}{x:Nat->Env->Prop}
end
section
variable {P:Program}
end
section
variable {w w':World}{F:Fz}{r:Nat}{B:Nat} (hp:Pk w r w') {o0:Obj} (ho:w.heap[r]? = some o0) (hc:isC o0=false)
include hp ho hc
end
section
variable {P:Program}{N:NP}{B:Nat}{IoB:List Nat}{W0:World}{F0:Fz}{obs:List (Nat×Obj)}{e:Env}{a:Act}{w:World}
end
section
variable {P:Program}{ops:Array Oper}{Q:Exit->Act->World->Prop}
end
section
variable {P:Program}{K n:Nat}
variable {T E:Nat} (M:kE P T K E n) {w:World}{r:Nat}{m:MP} (hr:w.heap[r]? = some (oa m)) (hm:Db n m) {ks:List Int} (hk:ks.length=n)
include M hr
include hm hk
omit hm hk in
end
section
variable {P:Program}{w:World}{r it:Nat}{m:MP} (hr:w.heap[r]? = some (oa m)) {S:List Nat} (hit:w.heap[it]? = some (vb r m S))
include hr hit
end
section
variable {P:Program}
end
section
variable {P:Program}{a:Act}{w:World}{o:Oper}
end
section
variable {P:Program}{N:NP}{B:Nat}{IoB:List Nat}{W0:World}{F0:Fz}{obs:List (Nat×Obj)}{e:Env}{a:Act}{w:World}{Q:Exit->Act->World->Prop}
end
section
variable {P:Program}{tt:TT}{sp:SP}{B:Nat}{IoB:List Nat}{F0:Fz}{N:NP}{W0:World}
end
section
variable {P:Program}{N:NP}{B:Nat}{IoB:List Nat}{W0:World}{F0:Fz}{obs:List (Nat×Obj)}{e:Env}{a:Act}{w:World}
end
section
variable {P:Program}{tt:TT}{N:NP}{sp:SP}{fr:Fr}{C:Code}{F:Fnn}{R:Type}
section
variable {A X Y Z:Type} [Dft A] [Dft X] [Dft Y] [Dft Z] {t:Tr R A X Y Z}{path:List Nat}{env:Env}{rv:R->RV}{pn:A->Env}{px:X->Nat×Env}{py:Y->Nat×Env}{pz:Z->Nat×Env}
end
end
section
variable {P:Program}{tt:TT}{sp:SP}
end
section
variable {N:NP}{B:Nat}{IoB:List Nat}{W0:World}{F0:Fz}{obs:List (Nat×Obj)}{e:Env}{a:Act}{w:World}
end
section
variable {F:Fz}{B:Nat}{w w1:World}{b:Nat}{o:Option Nat->Option Nat}
end
section
variable {P:Program}{tt:TT}{sp:SP}{a:Act}{w:World}
end
section
variable {P:Program}{tt:TT}{sp:SP}{B:Nat}{IoB:List Nat}{F0:Fz}{N:NP}{W0:World}
end
section
open Go Go.Shelf Go.RowKit Go.Lib Go.Sort
section
variable {P:Program}{α:Type} [Inhabited α] {enc:α->List Value}{k:Nat}{w w0 W:World}{blk off:Nat}{d dk X:Array α}
variable {g:Nat}{lb:Array Value}{lt:α->α->Bool}{size:Nat}
end
end
section
open Go Go.Shelf Go.RowKit Go.Lib Go.Sort
variable {P:Program}{ρ:Ren}{α:Type} [Inhabited α]
end
section
open Go Go.Shelf Go.RowKit Go.Lib Go.Sort
variable {P:Program}{ρ:Ren}{α:Type} [Inhabited α]
end
section
open Go Go.Shelf Go.RowKit Go.Lib Go.Sort
variable {P:Program}{ρ:Ren}{α:Type} [Inhabited α]
end
section
open Go Go.Shelf Go.RowKit Go.Lib Go.Sort
variable {P:Program}{ρ:Ren}{α:Type} [Inhabited α]
end
section
open Go Go.Shelf Go.RowKit Go.Lib Go.Sort
variable {P:Program}{ρ:Ren}{α:Type} [Inhabited α]
end
section
open Go Go.Shelf Go.RowKit Go.Lib Go.Sort
variable {P:Program}{ρ:Ren}{α:Type} [Inhabited α]
end
section
open Go Go.Shelf Go.RowKit Go.Lib Go.Sort
variable {P:Program}{ρ:Ren}{α:Type} [Inhabited α]
end
noncomputable section
set_option maxRecDepth 100000
def yal:SP:=[(27,XR),(51,jl),(52,mI),(53,YH)]
abbrev F17:Fnn:=⟨[.tmp 4,.tmp 5],.tup [(false,(.lst .item)),(true,.bool)],none,[]⟩
abbrev van:=@OkP Tryz.f17 F17
def iaj(y:Sess)(x:Time):TN (LI×Bool×Unit):=.k (lC (sE y)) λz=>.w [mC (sE y),((!(!z))&&true)=true->(ci x),((!(cond (!z) true (!(ai x))))&&true)=true->(ZB y.Front x)] (.c (cond (cond (!z) true (!(ai x))) true (YB y.Front x)) (.l (.r ([],(false,()))))
 (.w [Eq y.Told x] (.l (.r ((Dq y.Told x),(true,()))))))
def wan:=λx y=>pcT (iaj x y) [] [(0,.agg false [.i x.Plan.Kind,.i x.Plan.Num,.lst .plan x.Plan.Kids,.lst .lrow x.Ins,.lst .time x.Front,.lst .row x.Told]),(1,.agg true [.i y.A,.i y.B])] (rvF F17)
theorem xan(G:Gd yal){fr x y}:van fr (wan x y):=ja G
def yai(x:Sess)(y:Time):LI×Bool×Unit:=ocR (iaj x y).val
def zai(x:Sess)(y:Time):Prop:=(iaj x y).ob
def Hak:Spec:=spF [(.st .sess),(.st .time)] (.tup [(false,(.lst .item)),(true,.bool)]) yai zai
theorem yan(G:Gd yal):CP 17 Hak:=ua (pts:=[(.st .sess),(.st .time)]) (F:=F17) G λ_ _=>xan G
def Aai:SP:=[]
abbrev F18:Fnn:=⟨[.tmp 4],.one .fr .bool,none,[]⟩
abbrev jaj:=@OkP Tryz.f18 F18
def gai(y z:LI)(x:Int):TX Bool Int Unit:=.c (cmp .lss x (ba .item y)) (.w [inb x (ba .item y),inb x (ba .item z)] (.c (!(cmp .eql (rd .item y x).Key (rd .item z x).Key&&(cmp .eql (rd .item y x).Val (rd .item z x).Val&&(cmp .eql (rd .item y x).Count (rd .item z x).Count&&true)))) (.l (.r false))
 (.l (.n (ar .add .i64 x 1)))))
 (.l (.x ()))
def zal:=λx y z=>pcR (gai x y z) [0,0,1,0,1,1] (λq=>[(0,.S .item x),(1,.S .item y),(5,.I q)]) z (rvF F18) (λ_=>(0,[]))
theorem zan(G:Gd Aai){fr x y z}:jaj fr (zal x y z):=ja G
def kai:=λx y=>pcL (λs:Int=>zal x y s) 0
theorem Aan(G:Gd Aai){fr x y}:jaj fr (kai x y):=Aa λ_=>zan G
def Iak(x y:LI):TA Bool Unit:=.sx (kai x y) (λ_=>.l (.n ()))
def lai:=λx y=>pcT (Iak x y) [0,1,1] [(0,.S .item x),(1,.S .item y)] (rvF F18) (λ_=>[])
theorem Ban(G:Gd Aai){fr x y}:jaj fr (lai x y):=fa G (λe=>⟨kai (gL .item e 0 0) (gL .item e 1 0)⟩) λ_=>Aan G
def mai(x y:LI):TN Bool:=.c (cmp .neq (ba .item x) (ba .item y)) (.l (.r false))
 (.sn (lai x y) (λ_=>.l (.r true)))
def Can:=λx y=>pcT (mai x y) [] [(0,.S .item x),(1,.S .item y)] (rvF F18)
theorem Dan(G:Gd Aai){fr x y}:jaj fr (Can x y):=fa G (λe=>⟨lai (gL .item e 0 0) (gL .item e 1 0)⟩) λ_=>Ban G
def Zah(x:LI)(y:LI):Bool:=ocR (mai x y).val
def Tah(x:LI)(y:LI):Prop:=(mai x y).ob
def Jak:Spec:=spF [(.lst .item),(.lst .item)] (.one .fr .bool) Zah Tah
theorem Ean(G:Gd Aai):CP 18 Jak:=ua (pts:=[(.lst .item),(.lst .item)]) (F:=F18) G λ_ _=>Dan G
abbrev iaq:=Plan->Plan
abbrev jaq:=Plan->Prop
def Vaq(v:iaq)(p:jaq):Spec:=⟨[(.st .plan)],.one .fr (.st .plan),false,λx=>(v x.1,0),λx=>p x.1⟩
def Gaq(x:iaq)(y:jaq):SP:=[(103,Vaq x y)]
abbrev Haq:Fnn:=⟨[.cell 2 25],.one .fr (.st .plan),none,[]⟩
abbrev Waq:=@OkP Tryz.f103 Haq
def Xaq(b:iaq)(c:jaq)(_ _:Int)(y:LP)(d:Int)(z:LP)(x:Int):TX Plan (LP×Int) LP:=.c (cmp .lss x d) (.w [inb x (ba .plan y)] (.k (b (pE (rd .plan y x))) λa=>.w [c (pE (rd .plan y x)),lim (ba .plan z) (ba .plan [(pE a)])] (.l (.n ((z++[(pE a)]),(ar .add .i64 x 1))))))
 (.l (.x z))
def Has:=λd f x y z a b c=>pcR (Xaq d f x y z a b c) [0,0,1,0,1,1] (λq=>[(2,.box [(.fr,.i 0),(.fr,.i 0),(.fr,.nl .plan)]),(3,.box [(.fr,.i x),(.fr,.i y),((.acc true),.lst .plan q.1)]),(12,.S .plan z),(13,.I a),(14,.I q.2)]) (b,c) (rvF Haq) (λq=>(0,[(2,.box [(.fr,.i 0),(.fr,.i 0),(.fr,.nl .plan)]),(3,.box [(.fr,.i x),(.fr,.i y),((.acc true),.lst .plan q)])]))
theorem vat{x:iaq}{y:jaq}(G:Gd (Gaq x y)){fr z a b c d f}:Waq fr (Has x y z a b c d f):=ja G
def Iaq:=λx y z a b c=>pcL (λs:LP×Int=>Has x y z a b c s.1 s.2) ([],0)
theorem wat{x:iaq}{y:jaq}(G:Gd (Gaq x y)){fr z a b c}:Waq fr (Iaq x y z a b c):=Aa λ_=>vat G
def Ias(y:iaq)(z:jaq)(a b:Int)(x:LP):TA Plan LP:=.sx (Iaq y z a b x (ba .plan x)) (λc=>.l (.n c))
def Yaq:=λa b x y z=>pcT (Ias a b x y z) [0,1,1] [(1,.box [(.fr,.i x),(.fr,.i y),(.sh,.lst .plan z)]),(2,.box [(.fr,.i 0),(.fr,.i 0),(.fr,.nl .plan)]),(3,.box [(.fr,.i x),(.fr,.i y),(.fr,.nl .plan)])] (rvF Haq) (λq=>[(2,.box [(.fr,.i 0),(.fr,.i 0),(.fr,.nl .plan)]),(3,.box [(.fr,.i x),(.fr,.i y),((.acc true),.lst .plan q)])])
theorem xat{x:iaq}{y:jaq}(G:Gd (Gaq x y)){fr z a b}:Waq fr (Yaq x y z a b):=fa G (λe=>⟨Iaq x y (gI e 3 0) (gI e 3 1) (gL .plan e 12 0) (gI e 13 0)⟩) λ_=>wat G
def yaq(y:iaq)(z:jaq)(x:Plan):TN Plan:=.sn (Yaq y z x.Kind x.Num x.Kids) (λa=>.l (.r (Plan.mk x.Kind x.Num a)))
def yat:=λy z x=>pcT (yaq y z x) [] [(0,.agg false [.i x.Kind,.i x.Num,.lst .plan x.Kids])] (rvF Haq)
theorem zat{x:iaq}{y:jaq}(G:Gd (Gaq x y)){fr z}:Waq fr (yat x y z):=fa G (λe=>⟨Yaq x y (gI e 1 0) (gI e 1 1) (gL .plan e 1 2)⟩) λ_=>xat G
theorem Aat{x:iaq}{y:jaq}(G:Gd (Gaq x y)):CP 103 (Vaq (λz=>ocR (yaq x y z).val) (λz=>(yaq x y z).ob)):=ua (pts:=[(.st .plan)]) (F:=Haq) G λ_ _=>zat G
def eaq:Nat->iaq×jaq
 |0=>(λ_=>default,λ_=>False)
 |n+1=>(λx=>ocR (yaq (eaq n).1 (eaq n).2 x).val,λx=>(yaq (eaq n).1 (eaq n).2 x).ob)
def faq:iaq:=(eaq gc).1
def Zaq:jaq:=(eaq gc).2
def Jas:Spec:=Vaq faq Zaq
def Kas:SP:=[]
abbrev F64:Fnn:=⟨[.tmp 2],.one (.acc false) (.lst .time),none,[2]⟩
abbrev Bat:=@OkP Tryz.f64 F64
def aar(x:List Time):TN (List Time):=.w [rr (ba .time x) (ba .time x)] (.l (.r (List.take (List.length (List.replicate (Int.toNat (ba .time x)) (Time.mk 0 0))) x++List.drop (List.length x) (List.replicate (Int.toNat (ba .time x)) (Time.mk 0 0)))))
def Cat:=λx=>pcT (aar x) [] [(0,.S .time x)] (rvF F64)
theorem Dat(G:Gd Kas){fr x}:Bat fr (Cat x):=ja G
def paq(x:List Time):List Time:=ocR (aar x).val
def zaq(x:List Time):Prop:=(aar x).ob
def bar:Spec:=spF [(.lst .time)] (.one (.acc false) (.lst .time)) paq zaq
theorem Eat(G:Gd Kas):CP 64 bar:=ua (pts:=[(.lst .time)]) (F:=F64) G λ_ _=>Dat G
def Aaq:SP:=[(103,Jas),(64,bar),(104,GH)]
abbrev F63:Fnn:=⟨[.cell 2 30],.one .sh (.st .sess),none,[]⟩
abbrev car:=@OkP Tryz.f63 F63
def Jaq(_ _:Int)(_:LP)(_:List Time)(_:LR)(y:List LR)(b:Int)(z:List LR)(x:Int):TX Sess ((List LR)×Int) ((List LR)):=.c (cmp .lss x b) (.w [inb x (ba .lrow y)] (.k (Tz (rd .lrow y x)) λa=>.w [Uz (rd .lrow y x),lim (ba .lrow z) (ba .lrow [a])] (.l (.n ((z++[a]),(ar .add .i64 x 1))))))
 (.l (.x z))
def las:=λx y z a b c d f g=>pcR (Jaq x y z a b c d f g) [0,0,1,0,1,1] (λq=>[(2,.box [(.fr,.i 0),(.fr,.i 0),(.fr,.nl .plan),(.fr,.nl .lrow),(.fr,.nl .time),(.fr,.nl .row)]),(3,.box [(.fr,.i x),(.fr,.i y),(.sh,.lst .plan z),((.acc false),.lst .lrow q.1),(.sh,.lst .time a),(.sh,.lst .row b)]),(17,.S .lrow c),(18,.I d),(19,.I q.2)]) (f,g) (rvF F63) (λq=>(0,[(2,.box [(.fr,.i 0),(.fr,.i 0),(.fr,.nl .plan),(.fr,.nl .lrow),(.fr,.nl .time),(.fr,.nl .row)]),(3,.box [(.fr,.i x),(.fr,.i y),(.sh,.lst .plan z),((.acc false),.lst .lrow q),(.sh,.lst .time a),(.sh,.lst .row b)])]))
theorem Fat(G:Gd Aaq){fr x y z a b c d f g}:car fr (las x y z a b c d f g):=ja G
def Baq:=λx y z a b c d=>pcL (λs:(List LR)×Int=>las x y z a b c d s.1 s.2) ([],0)
theorem Gat(G:Gd Aaq){fr x y z a b c d}:car fr (Baq x y z a b c d):=Aa λ_=>Fat G
def dar(_ _:Int)(_:LP)(x:List LR)(_:List Time)(_:LR)(y z:Int)(a:LP)(b:List Time)(c:LR):TA Sess ((List LR)):=.sx (Baq y z a b c x (ba .lrow x)) (λd=>.l (.n d))
def Kaq:=λc d f g h i x y z a b=>pcT (dar c d f g h i x y z a b) [0,1,1] [(1,.box [(.fr,.i c),(.fr,.i d),(.sh,.lst .plan f),(.sh,.lst .lrow g),(.sh,.lst .time h),(.sh,.lst .row i)]),(2,.box [(.fr,.i 0),(.fr,.i 0),(.fr,.nl .plan),(.fr,.nl .lrow),(.fr,.nl .time),(.fr,.nl .row)]),(3,.box [(.fr,.i x),(.fr,.i y),(.sh,.lst .plan z),(.sh,.nl .lrow),(.sh,.lst .time a),(.sh,.lst .row b)])] (rvF F63) (λq=>[(2,.box [(.fr,.i 0),(.fr,.i 0),(.fr,.nl .plan),(.fr,.nl .lrow),(.fr,.nl .time),(.fr,.nl .row)]),(3,.box [(.fr,.i x),(.fr,.i y),(.sh,.lst .plan z),((.acc false),.lst .lrow q),(.sh,.lst .time a),(.sh,.lst .row b)])])
theorem Las(G:Gd Aaq){fr x y z a b c d f g h i}:car fr (Kaq x y z a b c d f g h i):=fa G (λe=>⟨Baq (gI e 3 0) (gI e 3 1) (gL .plan e 3 2) (gL .time e 3 4) (gL .row e 3 5) (gL .lrow e 17 0) (gI e 18 0)⟩) λ_=>Gat G
def Caq(x:Sess):TN Sess:=.k (faq (pE x.Plan)) λy=>.k (paq x.Front) λz=>.k (Tz x.Told) λa=>.w [Zaq (pE x.Plan),zaq x.Front,Uz x.Told] (.sn (Kaq x.Plan.Kind x.Plan.Num x.Plan.Kids x.Ins x.Front x.Told y.Kind y.Num y.Kids z a) (λb=>.l (.r (Sess.mk (pE y) b z a))))
def Hat:=λx=>pcT (Caq x) [] [(0,.agg false [.i x.Plan.Kind,.i x.Plan.Num,.lst .plan x.Plan.Kids,.lst .lrow x.Ins,.lst .time x.Front,.lst .row x.Told])] (rvF F63)
theorem Iat(G:Gd Aaq){fr x}:car fr (Hat x):=fa G (λe=>⟨Kaq (gI e 1 0) (gI e 1 1) (gL .plan e 1 2) (gL .lrow e 1 3) (gL .time e 1 4) (gL .row e 1 5) (gI e 3 0) (gI e 3 1) (gL .plan e 3 2) (gL .time e 3 4) (gL .row e 3 5)⟩) λ_=>Las G
def caq(x:Sess):Sess:=ocR (Caq x).val
def gaq(x:Sess):Prop:=(Caq x).ob
def ear:Spec:=spF [(.st .sess)] (.one .sh (.st .sess)) caq gaq
theorem Jat(G:Gd Aaq):CP 63 ear:=ua (pts:=[(.st .sess)]) (F:=F63) G λ_ _=>Iat G
def qaq:SP:=[(27,XR),(54,vH),(52,mI),(29,lI),(63,ear),(64,bar),(65,nI)]
abbrev F23:Fnn:=⟨[.cell 4 30,.tmp 5,.tmp 6],.tup [(false,(.st .sess)),(false,(.lst .row)),(true,.bool)],none,[]⟩
abbrev saq:=@OkP Tryz.f23 F23
def gar(y:List Time)(_ _:Int)(_:LP)(_:List LR)(z:List Time)(_:LR)(a x:Int):TX (Sess×LR×Bool×Unit) Int Unit:=.c (cmp .lss x a) (.w [inb x (ba .time y)] (.w [ZB z (rd .time y x)] (.c (!(YB z (rd .time y x))) (.l (.r ((Sess.mk (Plan.mk 0 0 []) [] [] []),([],(false,())))))
 (.l (.n (ar .add .i64 x 1))))))
 (.l (.x ()))
def Mas:=λx y z a b c d f g=>pcR (gar x y z a b c d f g) [0,0,1,0,1,1] (λq=>[(1,.S .time x),(2,.box [(.fr,.i y),(.fr,.i z),(.sh,.lst .plan a),(.sh,.lst .lrow b),(.sh,.lst .time c),(.sh,.lst .row d)]),(4,.box [(.fr,.i 0),(.fr,.i 0),(.fr,.nl .plan),(.fr,.nl .lrow),(.fr,.nl .time),(.fr,.nl .row)]),(24,.S .time x),(25,.I f),(26,.I q)]) g (rvF F23) (λ_=>(0,[(1,.S .time x),(2,.box [(.fr,.i y),(.fr,.i z),(.sh,.lst .plan a),(.sh,.lst .lrow b),(.sh,.lst .time c),(.sh,.lst .row d)]),(4,.box [(.fr,.i 0),(.fr,.i 0),(.fr,.nl .plan),(.fr,.nl .lrow),(.fr,.nl .time),(.fr,.nl .row)])]))
theorem Kat(G:Gd qaq){fr x y z a b c d f g}:saq fr (Mas x y z a b c d f g):=ja G
def Laq:=λx y z a b c d f=>pcL (λs:Int=>Mas x y z a b c d f s) 0
theorem Lat(G:Gd qaq){fr x y z a b c d f}:saq fr (Laq x y z a b c d f):=Aa λ_=>Kat G
def Nas(x:List Time)(y z:Int)(a:LP)(b:List LR)(c:List Time)(d:LR):TA (Sess×LR×Bool×Unit) Unit:=.sx (Laq x y z a b c d (ba .time x)) (λ_=>.l (.n ()))
def har:=λx y z a b c d=>pcT (Nas x y z a b c d) [0,1,1] [(1,.S .time x),(2,.box [(.fr,.i y),(.fr,.i z),(.sh,.lst .plan a),(.sh,.lst .lrow b),(.sh,.lst .time c),(.sh,.lst .row d)]),(4,.box [(.fr,.i 0),(.fr,.i 0),(.fr,.nl .plan),(.fr,.nl .lrow),(.fr,.nl .time),(.fr,.nl .row)])] (rvF F23) (λ_=>[(1,.S .time x),(2,.box [(.fr,.i y),(.fr,.i z),(.sh,.lst .plan a),(.sh,.lst .lrow b),(.sh,.lst .time c),(.sh,.lst .row d)]),(4,.box [(.fr,.i 0),(.fr,.i 0),(.fr,.nl .plan),(.fr,.nl .lrow),(.fr,.nl .time),(.fr,.nl .row)])])
theorem Mat(G:Gd qaq){fr x y z a b c d}:saq fr (har x y z a b c d):=fa G (λe=>⟨Laq (gL .time e 1 0) (gI e 2 0) (gI e 2 1) (gL .plan e 2 2) (gL .lrow e 2 3) (gL .time e 2 4) (gL .row e 2 5) (gI e 25 0)⟩) λ_=>Lat G
def iar(_ _:Int)(_:LP)(_:List LR)(a:List Time)(_:LR)(_ _:Int)(_:LP)(_:List LR)(_:List Time)(x z:LR)(_ y:Int):TA (Sess×LR×Bool×Unit) LR:=.w [inb y (ba .row x)] (.w [ZB a (rd .row x y).At] (.c (YB a (rd .row x y).At) (.w [lim (ba .row z) (ba .row [(rd .row x y)])] (.l (.n (z++[(rd .row x y)]))))
 (.l (.n z))))
def jar:=λy z a b c d f g h i j x m k l=>pcT (iar y z a b c d f g h i j x m k l) [0,1,1,0,0,1,0,1,1,1,1,1,1,1,1] [(2,.box [(.fr,.i y),(.fr,.i z),(.sh,.lst .plan a),(.sh,.lst .lrow b),(.sh,.lst .time c),(.sh,.lst .row d)]),(4,.box [(.fr,.i 0),(.fr,.i 0),(.fr,.nl .plan),(.fr,.nl .lrow),(.fr,.nl .time),(.fr,.nl .row)]),(11,.box [(.fr,.i f),(.fr,.i g),(.sh,.lst .plan h),(.sh,.lst .lrow i),((.acc false),.lst .time j),(.fr,.lst .row x)]),(12,.A .row m),(56,.v .fr (.lst .row x)),(57,.I k),(58,.I l)] (rvF F23) (λq=>[(2,.box [(.fr,.i y),(.fr,.i z),(.sh,.lst .plan a),(.sh,.lst .lrow b),(.sh,.lst .time c),(.sh,.lst .row d)]),(4,.box [(.fr,.i 0),(.fr,.i 0),(.fr,.nl .plan),(.fr,.nl .lrow),(.fr,.nl .time),(.fr,.nl .row)]),(11,.box [(.fr,.i f),(.fr,.i g),(.sh,.lst .plan h),(.sh,.lst .lrow i),((.acc false),.lst .time j),(.fr,.lst .row x)]),(12,.A .row q),(56,.v .fr (.lst .row x)),(57,.I k),(58,.I l)])
theorem Oat(G:Gd qaq){fr x y z a b c d f g h i j k l m}:saq fr (jar x y z a b c d f g h i j k l m):=ja G
def kar(a b:Int)(c:LP)(d:List LR)(f:List Time)(g:LR)(h i:Int)(j:LP)(k:List LR)(l:List Time)(m:LR)(y:Int)(z:LR)(x:Int):TX (Sess×LR×Bool×Unit) (LR×Int) LR:=.c (cmp .lss x y) (.sn (jar a b c d f g h i j k l m z y x) (λn=>.l (.n (n,(ar .add .i64 x 1)))))
 (.l (.x z))
def Oas:=λd f g h i j y z a b c x k l m=>pcR (kar d f g h i j y z a b c x k l m) [0,0,1,0,1,1,1,1,1,1,1,1] (λq=>[(2,.box [(.fr,.i d),(.fr,.i f),(.sh,.lst .plan g),(.sh,.lst .lrow h),(.sh,.lst .time i),(.sh,.lst .row j)]),(4,.box [(.fr,.i 0),(.fr,.i 0),(.fr,.nl .plan),(.fr,.nl .lrow),(.fr,.nl .time),(.fr,.nl .row)]),(11,.box [(.fr,.i y),(.fr,.i z),(.sh,.lst .plan a),(.sh,.lst .lrow b),((.acc false),.lst .time c),(.fr,.lst .row x)]),(12,.A .row q.1),(56,.v .fr (.lst .row x)),(57,.I k),(58,.I q.2)]) (l,m) (rvF F23) (λq=>(2,[(4,.box [(.fr,.i 0),(.fr,.i 0),(.fr,.nl .plan),(.fr,.nl .lrow),(.fr,.nl .time),(.fr,.nl .row)]),(11,.box [(.fr,.i y),(.fr,.i z),(.sh,.lst .plan a),(.sh,.lst .lrow b),((.acc false),.lst .time c),(.fr,.lst .row x)]),(12,.A .row q)]))
theorem Pat(G:Gd qaq){fr x y z a b c d f g h i j k l m}:saq fr (Oas x y z a b c d f g h i j k l m):=fa G (λe=>⟨jar (gI e 2 0) (gI e 2 1) (gL .plan e 2 2) (gL .lrow e 2 3) (gL .time e 2 4) (gL .row e 2 5) (gI e 11 0) (gI e 11 1) (gL .plan e 11 2) (gL .lrow e 11 3) (gL .time e 11 4) (gL .row e 11 5) (gL .row e 12 0) (gI e 57 0) (gI e 58 0)⟩) λ_=>Oat G
def Maq:=λx y z a b c d f g h i j k=>pcL (λs:LR×Int=>Oas x y z a b c d f g h i j k s.1 s.2) ([],0)
theorem Qat(G:Gd qaq){fr x y z a b c d f g h i j k}:saq fr (Maq x y z a b c d f g h i j k):=Aa λ_=>Pat G
def Pas(y z:Int)(a:LP)(b:List LR)(c:List Time)(d:LR)(f g:Int)(h:LP)(i:List LR)(j:List Time)(x:LR):TA (Sess×LR×Bool×Unit) LR:=.sx (Maq y z a b c d f g h i j x (ba .row x)) (λk=>.l (.n k))
def lar:=λd f g h i j x y z a b c=>pcT (Pas d f g h i j x y z a b c) [0,1,1,1,1,1,1,1,1] [(2,.box [(.fr,.i d),(.fr,.i f),(.sh,.lst .plan g),(.sh,.lst .lrow h),(.sh,.lst .time i),(.sh,.lst .row j)]),(4,.box [(.fr,.i 0),(.fr,.i 0),(.fr,.nl .plan),(.fr,.nl .lrow),(.fr,.nl .time),(.fr,.nl .row)]),(11,.box [(.fr,.i x),(.fr,.i y),(.sh,.lst .plan z),(.sh,.lst .lrow a),((.acc false),.lst .time b),(.fr,.lst .row c)]),(12,.A .row [])] (rvF F23) (λq=>[(4,.box [(.fr,.i 0),(.fr,.i 0),(.fr,.nl .plan),(.fr,.nl .lrow),(.fr,.nl .time),(.fr,.nl .row)]),(11,.box [(.fr,.i x),(.fr,.i y),(.sh,.lst .plan z),(.sh,.lst .lrow a),((.acc false),.lst .time b),(.fr,.lst .row c)]),(12,.A .row q)])
theorem Rat(G:Gd qaq){fr x y z a b c d f g h i j}:saq fr (lar x y z a b c d f g h i j):=fa G (λe=>⟨Maq (gI e 2 0) (gI e 2 1) (gL .plan e 2 2) (gL .lrow e 2 3) (gL .time e 2 4) (gL .row e 2 5) (gI e 11 0) (gI e 11 1) (gL .plan e 11 2) (gL .lrow e 11 3) (gL .time e 11 4) (gL .row e 11 5) (gI e 57 0)⟩) λ_=>Qat G
def mar(x:Sess)(y:List Time):TN (Sess×LR×Bool×Unit):=.k (lC (sE x)) λa=>.w [mC (sE x),((!(!a))&&true)=true->(qz y)] (.c (cond (!a) true (!(oz y))) (.l (.r ((Sess.mk (Plan.mk 0 0 []) [] [] []),([],(false,())))))
 (.sn (har y x.Plan.Kind x.Plan.Num x.Plan.Kids x.Ins x.Front x.Told) (λ_=>.k (SB (pE x.Plan) x.Ins) λb=>.w [TB (pE x.Plan) x.Ins] (.k (caq (sE x)) λz=>.w [gaq (sE x)] (.k (paq y) λc=>.w [zaq y] (.k (fC b.1 y) λd=>.w [gC b.1 y] (.sn (lar x.Plan.Kind x.Plan.Num x.Plan.Kids x.Ins x.Front x.Told z.Plan.Kind z.Plan.Num z.Plan.Kids z.Ins c d) (λf=>.l (.r ((Sess.mk (pE z.Plan) z.Ins c d),(f,(true,()))))))))))))
def Sat:=λx y=>pcT (mar x y) [] [(0,.agg false [.i x.Plan.Kind,.i x.Plan.Num,.lst .plan x.Plan.Kids,.lst .lrow x.Ins,.lst .time x.Front,.lst .row x.Told]),(1,.S .time y)] (rvF F23)
theorem Tat(G:Gd qaq){fr x y}:saq fr (Sat x y):=Nd G [λe=>⟨har (gL .time e 1 0) (gI e 2 0) (gI e 2 1) (gL .plan e 2 2) (gL .lrow e 2 3) (gL .time e 2 4) (gL .row e 2 5)⟩,λe=>⟨lar (gI e 2 0) (gI e 2 1) (gL .plan e 2 2) (gL .lrow e 2 3) (gL .time e 2 4) (gL .row e 2 5) (gI e 11 0) (gI e 11 1) (gL .plan e 11 2) (gL .lrow e 11 3) (gL .time e 11 4) (gL .row e 11 5)⟩] ⟨λ_=>Mat G,λ_=>Rat G,trivial⟩
def naq(x:Sess)(y:List Time):Sess×LR×Bool×Unit:=ocR (mar x y).val
def nar(x:Sess)(y:List Time):Prop:=(mar x y).ob
def mas:Spec:=spF [(.st .sess),(.lst .time)] (.tup [(false,(.st .sess)),(false,(.lst .row)),(true,.bool)]) naq nar
theorem Uat(G:Gd qaq):CP 23 mas:=ua (pts:=[(.st .sess),(.lst .time)]) (F:=F23) G λ_ _=>Tat G
def vaw:SP:=[]
abbrev F24:Fnn:=⟨[.tmp 4],.one .fr .bool,none,[]⟩
abbrev Law:=@OkP Tryz.f24 F24
def jaw(y z:LR)(x:Int):TX Bool Int Unit:=.c (cmp .lss x (ba .row y)) (.w [inb x (ba .row y),inb x (ba .row z)] (.c (!(cmp .eql (rd .row y x).Key (rd .row z x).Key&&(cmp .eql (rd .row y x).Val (rd .row z x).Val&&(cmp .eql (rd .row y x).At.A (rd .row z x).At.A&&(cmp .eql (rd .row y x).At.B (rd .row z x).At.B&&(cmp .eql (rd .row y x).Diff (rd .row z x).Diff&&true)))))) (.l (.r false))
 (.l (.n (ar .add .i64 x 1)))))
 (.l (.x ()))
def vax:=λx y z=>pcR (jaw x y z) [0,0,1,0,1,1] (λq=>[(0,.S .row x),(1,.S .row y),(5,.I q)]) z (rvF F24) (λ_=>(0,[]))
theorem Vax(G:Gd vaw){fr x y z}:Law fr (vax x y z):=ja G
def waw:=λx y=>pcL (λs:Int=>vax x y s) 0
theorem Wax(G:Gd vaw){fr x y}:Law fr (waw x y):=Aa λ_=>Vax G
def iax(x y:LR):TA Bool Unit:=.sx (waw x y) (λ_=>.l (.n ()))
def xaw:=λx y=>pcT (iax x y) [0,1,1] [(0,.S .row x),(1,.S .row y)] (rvF F24) (λ_=>[])
theorem Xax(G:Gd vaw){fr x y}:Law fr (xaw x y):=fa G (λe=>⟨waw (gL .row e 0 0) (gL .row e 1 0)⟩) λ_=>Wax G
def yaw(x y:LR):TN Bool:=.c (cmp .neq (ba .row x) (ba .row y)) (.l (.r false))
 (.sn (xaw x y) (λ_=>.l (.r true)))
def Yax:=λx y=>pcT (yaw x y) [] [(0,.S .row x),(1,.S .row y)] (rvF F24)
theorem Zax(G:Gd vaw){fr x y}:Law fr (Yax x y):=fa G (λe=>⟨xaw (gL .row e 0 0) (gL .row e 1 0)⟩) λ_=>Xax G
def iaw(x:LR)(y:LR):Bool:=ocR (yaw x y).val
def haw(x:LR)(y:LR):Prop:=(yaw x y).ob
def zaw:Spec:=spF [(.lst .row),(.lst .row)] (.one .fr .bool) iaw haw
theorem aay(G:Gd vaw):CP 24 zaw:=ua (pts:=[(.lst .row),(.lst .row)]) (F:=F24) G λ_ _=>Zax G
abbrev V73:=Plan->Plan->Bool
abbrev Q73:=Plan->Plan->Prop
def Paw(v:V73)(p:Q73):Spec:=⟨[(.st .plan),(.st .plan)],.one .fr .bool,false,λx=>(v x.1 x.2.1,0),λx=>p x.1 x.2.1⟩
def Aaw(x:V73)(y:Q73):SP:=[(73,Paw x y)]
abbrev F73:Fnn:=⟨[.tmp 4],.one .fr .bool,none,[]⟩
abbrev Qaw:=@OkP Tryz.f73 F73
def Raw(a:V73)(b:Q73)(_ _:Int)(y:LP)(_ _:Int)(z:LP)(x:Int):TX Bool Int Unit:=.c (cmp .lss x (ba .plan y)) (.w [inb x (ba .plan y),inb x (ba .plan z),b (pE (rd .plan y x)) (pE (rd .plan z x))] (.c (!(a (pE (rd .plan y x)) (pE (rd .plan z x)))) (.l (.r false))
 (.l (.n (ar .add .i64 x 1)))))
 (.l (.x ()))
def xax:=λf g x y z a b c d=>pcR (Raw f g x y z a b c d) [0,0,1,0,1,1] (λq=>[(2,.box [(.fr,.i x),(.fr,.i y),(.sh,.lst .plan z)]),(3,.box [(.fr,.i a),(.fr,.i b),(.sh,.lst .plan c)]),(5,.I q)]) d (rvF F73) (λ_=>(0,[]))
theorem fay{x:V73}{y:Q73}(G:Gd (Aaw x y)){fr z a b c d f g}:Qaw fr (xax x y z a b c d f g):=ja G
def Baw:=λx y z a b c d f=>pcL (λs:Int=>xax x y z a b c d f s) 0
theorem gay{x:V73}{y:Q73}(G:Gd (Aaw x y)){fr z a b c d f}:Qaw fr (Baw x y z a b c d f):=Aa λ_=>fay G
def yax(x:V73)(y:Q73)(z a:Int)(b:LP)(c d:Int)(f:LP):TA Bool Unit:=.sx (Baw x y z a b c d f) (λ_=>.l (.n ()))
def Saw:=λd f x y z a b c=>pcT (yax d f x y z a b c) [0,1,1] [(2,.box [(.fr,.i x),(.fr,.i y),(.sh,.lst .plan z)]),(3,.box [(.fr,.i a),(.fr,.i b),(.sh,.lst .plan c)])] (rvF F73) (λ_=>[])
theorem hay{x:V73}{y:Q73}(G:Gd (Aaw x y)){fr z a b c d f}:Qaw fr (Saw x y z a b c d f):=fa G (λe=>⟨Baw x y (gI e 2 0) (gI e 2 1) (gL .plan e 2 2) (gI e 3 0) (gI e 3 1) (gL .plan e 3 2)⟩) λ_=>gay G
def oaw(z:V73)(a:Q73)(x y:Plan):TN Bool:=.c (cond (cond (cmp .neq x.Kind y.Kind) true (cmp .neq x.Num y.Num)) true (cmp .neq (ba .plan x.Kids) (ba .plan y.Kids))) (.l (.r false))
 (.sn (Saw z a x.Kind x.Num x.Kids y.Kind y.Num y.Kids) (λ_=>.l (.r true)))
def iay:=λz a x y=>pcT (oaw z a x y) [] [(0,.agg false [.i x.Kind,.i x.Num,.lst .plan x.Kids]),(1,.agg false [.i y.Kind,.i y.Num,.lst .plan y.Kids])] (rvF F73)
theorem jay{x:V73}{y:Q73}(G:Gd (Aaw x y)){fr z a}:Qaw fr (iay x y z a):=fa G (λe=>⟨Saw x y (gI e 2 0) (gI e 2 1) (gL .plan e 2 2) (gI e 3 0) (gI e 3 1) (gL .plan e 3 2)⟩) λ_=>hay G
theorem kay{x:V73}{y:Q73}(G:Gd (Aaw x y)):CP 73 (Paw (λz a=>ocR (oaw x y z a).val) (λz a=>(oaw x y z a).ob)):=ua (pts:=[(.st .plan),(.st .plan)]) (F:=F73) G λ_ _=>jay G
def gaw:Nat->V73×Q73
 |0=>(λ_ _=>default,λ_ _=>False)
 |n+1=>(λx y=>ocR (oaw (gaw n).1 (gaw n).2 x y).val,λx y=>(oaw (gaw n).1 (gaw n).2 x y).ob)
def kax:V73:=(gaw gc).1
def lax:Q73:=(gaw gc).2
def zax:Spec:=Paw kax lax
def Caw:SP:=[(24,zaw)]
abbrev F74:Fnn:=⟨[.tmp 4],.one .fr .bool,none,[]⟩
abbrev Taw:=@OkP Tryz.f74 F74
def Uaw(y z:List LR)(x:Int):TX Bool Int Unit:=.c (cmp .lss x (ba .lrow y)) (.w [inb x (ba .lrow y),inb x (ba .lrow z),haw (rd .lrow y x) (rd .lrow z x)] (.c (!(iaw (rd .lrow y x) (rd .lrow z x))) (.l (.r false))
 (.l (.n (ar .add .i64 x 1)))))
 (.l (.x ()))
def Aax:=λx y z=>pcR (Uaw x y z) [0,0,1,0,1,1] (λq=>[(0,.S .lrow x),(1,.S .lrow y),(5,.I q)]) z (rvF F74) (λ_=>(0,[]))
theorem nay(G:Gd Caw){fr x y z}:Taw fr (Aax x y z):=ja G
def Daw:=λx y=>pcL (λs:Int=>Aax x y s) 0
theorem oay(G:Gd Caw){fr x y}:Taw fr (Daw x y):=Aa λ_=>nay G
def Bax(x y:List LR):TA Bool Unit:=.sx (Daw x y) (λ_=>.l (.n ()))
def Vaw:=λx y=>pcT (Bax x y) [0,1,1] [(0,.S .lrow x),(1,.S .lrow y)] (rvF F74) (λ_=>[])
theorem pay(G:Gd Caw){fr x y}:Taw fr (Vaw x y):=fa G (λe=>⟨Daw (gL .lrow e 0 0) (gL .lrow e 1 0)⟩) λ_=>oay G
def Waw(x y:List LR):TN Bool:=.c (cmp .neq (ba .lrow x) (ba .lrow y)) (.l (.r false))
 (.sn (Vaw x y) (λ_=>.l (.r true)))
def qay:=λx y=>pcT (Waw x y) [] [(0,.S .lrow x),(1,.S .lrow y)] (rvF F74)
theorem ray(G:Gd Caw){fr x y}:Taw fr (qay x y):=fa G (λe=>⟨Vaw (gL .lrow e 0 0) (gL .lrow e 1 0)⟩) λ_=>pay G
def Xaw(x:List LR)(y:List LR):Bool:=ocR (Waw x y).val
def Yaw(x:List LR)(y:List LR):Prop:=(Waw x y).ob
def nax:Spec:=spF [(.lst .lrow),(.lst .lrow)] (.one .fr .bool) Xaw Yaw
theorem tay(G:Gd Caw):CP 74 nax:=ua (pts:=[(.lst .lrow),(.lst .lrow)]) (F:=F74) G λ_ _=>ray G
def Eaw:SP:=[]
abbrev F32:Fnn:=⟨[.tmp 4],.one .fr .bool,none,[]⟩
abbrev Zaw:=@OkP Tryz.f32 F32
def Faw(y z:List Time)(x:Int):TX Bool Int Unit:=.c (cmp .lss x (ba .time y)) (.w [inb x (ba .time y),inb x (ba .time z)] (.c (!(cmp .eql (rd .time y x).A (rd .time z x).A&&(cmp .eql (rd .time y x).B (rd .time z x).B&&true))) (.l (.r false))
 (.l (.n (ar .add .i64 x 1)))))
 (.l (.x ()))
def Cax:=λx y z=>pcR (Faw x y z) [0,0,1,0,1,1] (λq=>[(0,.S .time x),(1,.S .time y),(5,.I q)]) z (rvF F32) (λ_=>(0,[]))
theorem uay(G:Gd Eaw){fr x y z}:Zaw fr (Cax x y z):=ja G
def paw:=λx y=>pcL (λs:Int=>Cax x y s) 0
theorem vay(G:Gd Eaw){fr x y}:Zaw fr (paw x y):=Aa λ_=>uay G
def oax(x y:List Time):TA Bool Unit:=.sx (paw x y) (λ_=>.l (.n ()))
def qaw:=λx y=>pcT (oax x y) [0,1,1] [(0,.S .time x),(1,.S .time y)] (rvF F32) (λ_=>[])
theorem xay(G:Gd Eaw){fr x y}:Zaw fr (qaw x y):=fa G (λe=>⟨paw (gL .time e 0 0) (gL .time e 1 0)⟩) λ_=>vay G
def taw(x y:List Time):TN Bool:=.c (cmp .neq (ba .time x) (ba .time y)) (.l (.r false))
 (.sn (qaw x y) (λ_=>.l (.r true)))
def yay:=λx y=>pcT (taw x y) [] [(0,.S .time x),(1,.S .time y)] (rvF F32)
theorem zay(G:Gd Eaw){fr x y}:Zaw fr (yay x y):=fa G (λe=>⟨qaw (gL .time e 0 0) (gL .time e 1 0)⟩) λ_=>xay G
def kaw(x:List Time)(y:List Time):Bool:=ocR (taw x y).val
def maw(x:List Time)(y:List Time):Prop:=(taw x y).ob
def pax:Spec:=spF [(.lst .time),(.lst .time)] (.one .fr .bool) kaw maw
theorem Aay(G:Gd Eaw):CP 32 pax:=ua (pts:=[(.lst .time),(.lst .time)]) (F:=F32) G λ_ _=>zay G
def Dax:SP:=[(73,zax),(74,nax),(32,pax),(24,zaw)]
abbrev F31:Fnn:=⟨[.tmp 4],.one .fr .bool,none,[]⟩
abbrev Bay:=@OkP Tryz.f31 F31
def aax(x y:Sess):TN Bool:=.k (kax (pE x.Plan) (pE y.Plan)) λz=>.k (Xaw x.Ins y.Ins) λa=>.k (kaw x.Front y.Front) λb=>.w [lax (pE x.Plan) (pE y.Plan),(z&&true)=true->(Yaw x.Ins y.Ins),((cond z a false)&&true)=true->(maw x.Front y.Front),((cond (cond z a false) b false)&&true)=true->(haw x.Told y.Told)] (.l (.r (cond (cond (cond z a false) b false) (iaw x.Told y.Told) false)))
def Cay:=λx y=>pcT (aax x y) [] [(0,.agg false [.i x.Plan.Kind,.i x.Plan.Num,.lst .plan x.Plan.Kids,.lst .lrow x.Ins,.lst .time x.Front,.lst .row x.Told]),(1,.agg false [.i y.Plan.Kind,.i y.Plan.Num,.lst .plan y.Plan.Kids,.lst .lrow y.Ins,.lst .time y.Front,.lst .row y.Told])] (rvF F31)
theorem Day(G:Gd Dax){fr x y}:Bay fr (Cay x y):=ja G
def uaw(x:Sess)(y:Sess):Bool:=ocR (aax x y).val
def naw(x:Sess)(y:Sess):Prop:=(aax x y).ob
def qax:Spec:=spF [(.st .sess),(.st .sess)] (.one .fr .bool) uaw naw
theorem Eay(G:Gd Dax):CP 31 qax:=ua (pts:=[(.st .sess),(.st .sess)]) (F:=F31) G λ_ _=>Day G
def oar:SP:=[(42,sN),(43,oQ),(44,Of),(75,kH),(76,lH)]
abbrev F33:Fnn:=⟨[.cell 2 30,.tmp 3,.tmp 4],.tup [(false,(.st .sess)),(true,(.int .i64)),(false,(.lst .row))],none,[]⟩
abbrev nas:=@OkP Tryz.f33 F33
def par(x:LB)(a _ _:Int)(_:LP)(_:List LR)(_:List Time)(_:LR)(b:Int):TA (Sess×Int×LR×Unit) (Int×Int):=.k (ia (x,a) 24) λy=>.w [Lb (x,a) 24] (.c (cmp .eql y.1 0) (.k (ia (x,y.2) 2) λz=>.w [Lb (x,y.2) 2,inb z.1 (ba .int [(-1),2])] (.l (.n (z.2,(rd .int [(-1),2] z.1)))))
 (.l (.n (y.2,b))))
def qar:=λx f y z a b c d g=>pcT (par x f y z a b c d g) [0,1,1,1,1] [(2,.box [(.fr,.i 0),(.fr,.i 0),(.fr,.nl .plan),(.fr,.nl .lrow),(.fr,.nl .time),(.fr,.nl .row)]),(5,.R x f),(6,.box [(.fr,.i y),(.fr,.i z),(.sh,.lst .plan a),(.sh,.lst .lrow b),(.sh,.lst .time c),(.sh,.lst .row d)]),(7,.I g)] (rvF F33) (λq=>[(2,.box [(.fr,.i 0),(.fr,.i 0),(.fr,.nl .plan),(.fr,.nl .lrow),(.fr,.nl .time),(.fr,.nl .row)]),(5,.R x q.1),(6,.box [(.fr,.i y),(.fr,.i z),(.sh,.lst .plan a),(.sh,.lst .lrow b),(.sh,.lst .time c),(.sh,.lst .row d)]),(7,.I q.2)])
theorem Vat(G:Gd oar){fr x y z a b c d f g}:nas fr (qar x y z a b c d f g):=ja G
def rar(x:LB)(a _ _:Int)(_:LP)(_:List LR)(b:List Time)(_:LR)(_:Int)(y:LR):TA (Sess×Int×LR×Unit) LR:=.k (ia (x,a) 6) λz=>.w [Lb (x,a) 6] (.c (cmp .gtr z.1 0) (.w [Qy (x,z.2) y b] (.l (.n (Zd (x,z.2) y b).1)))
 (.l (.n y)))
def sar:=λf g x y z a b c d h=>pcT (rar f g x y z a b c d h) [0,1,1,1,1,1,1] [(2,.box [(.fr,.i 0),(.fr,.i 0),(.fr,.nl .plan),(.fr,.nl .lrow),(.fr,.nl .time),(.fr,.nl .row)]),(5,.R f g),(6,.box [(.fr,.i x),(.fr,.i y),(.sh,.lst .plan z),(.sh,.lst .lrow a),(.sh,.lst .time b),(.sh,.lst .row c)]),(7,.I d),(8,.S .row h)] (rvF F33) (λq=>[(2,.box [(.fr,.i 0),(.fr,.i 0),(.fr,.nl .plan),(.fr,.nl .lrow),(.fr,.nl .time),(.fr,.nl .row)]),(6,.box [(.fr,.i x),(.fr,.i y),(.sh,.lst .plan z),(.sh,.lst .lrow a),(.sh,.lst .time b),(.sh,.lst .row c)]),(7,.I d),(8,.S .row q)])
theorem Wat(G:Gd oar){fr x y z a b c d f g h}:nas fr (sar x y z a b c d f g h):=ja G
def tar(a:LB):TN (Sess×Int×LR×Unit):=.k (bG a) λy=>.w [cG a] (.k (Up (y.1,y.2)) λx=>.w [uH (y.1,y.2)] (.k (ia (y.1,x.2) 2) λb=>.w [Lb (y.1,x.2) 2] (.sn (qar y.1 b.2 x.1.Plan.Kind x.1.Plan.Num x.1.Plan.Kids x.1.Ins x.1.Front x.1.Told b.1) (λz=>.k (Mb (y.1,z.1) 4) λc=>.w [Ky (y.1,z.1) 4] (.sn (sar y.1 c.2 x.1.Plan.Kind x.1.Plan.Num x.1.Plan.Kids x.1.Ins x.1.Front x.1.Told z.2 c.1) (λd=>.l (.r ((sE x.1),(z.2,(d,()))))))))))
def Xat:=λx=>pcT (tar x) [] [(0,.S .byte x)] (rvF F33)
theorem Yat(G:Gd oar){fr x}:nas fr (Xat x):=Nd G [λe=>⟨qar (gL .byte e 5 0) (gI e 5 1) (gI e 6 0) (gI e 6 1) (gL .plan e 6 2) (gL .lrow e 6 3) (gL .time e 6 4) (gL .row e 6 5) (gI e 7 0)⟩,λe=>⟨sar (gL .byte e 5 0) (gI e 5 1) (gI e 6 0) (gI e 6 1) (gL .plan e 6 2) (gL .lrow e 6 3) (gL .time e 6 4) (gL .row e 6 5) (gI e 7 0) (gL .row e 8 0)⟩] ⟨λ_=>Vat G,λ_=>Wat G,trivial⟩
def uar(x:LB):Sess×Int×LR×Unit:=ocR (tar x).val
def var(x:LB):Prop:=(tar x).ob
def oas:Spec:=spF [(.lst .byte)] (.tup [(false,(.st .sess)),(true,(.int .i64)),(false,(.lst .row))]) uar var
theorem Zat(G:Gd oar):CP 33 oas:=ua (pts:=[(.lst .byte)]) (F:=F33) G λ_ _=>Yat G
def uaq:SP:=[(27,XR),(25,Rz),(52,mI),(63,ear),(72,LH),(71,kl)]
abbrev F35:Fnn:=⟨[.cell 6 30,.tmp 7],.tup [(false,(.st .sess)),(true,.bool)],none,[]⟩
abbrev Daq:=@OkP Tryz.f35 F35
def war(_:Int)(y:LR)(_ _:Int)(_:LP)(_:List LR)(z:List Time)(_:LR)(a x:Int):TX (Sess×Bool×Unit) Int Unit:=.c (cmp .lss x a) (.w [inb x (ba .row y)] (.w [ZB z (rd .row y x).At] (.c (!(YB z (rd .row y x).At)) (.l (.r ((Sess.mk (Plan.mk 0 0 []) [] [] []),(false,()))))
 (.l (.n (ar .add .i64 x 1))))))
 (.l (.x ()))
def Qas:=λy x z a b c d f g h=>pcR (war y x z a b c d f g h) [0,0,1,0,1,1] (λq=>[(1,.I y),(2,.S .row x),(3,.box [(.fr,.i z),(.fr,.i a),(.sh,.lst .plan b),(.sh,.lst .lrow c),(.sh,.lst .time d),(.sh,.lst .row f)]),(6,.box [(.fr,.i 0),(.fr,.i 0),(.fr,.nl .plan),(.fr,.nl .lrow),(.fr,.nl .time),(.fr,.nl .row)]),(30,.S .row x),(31,.I g),(32,.I q)]) h (rvF F35) (λ_=>(0,[(1,.I y),(2,.S .row x),(3,.box [(.fr,.i z),(.fr,.i a),(.sh,.lst .plan b),(.sh,.lst .lrow c),(.sh,.lst .time d),(.sh,.lst .row f)]),(6,.box [(.fr,.i 0),(.fr,.i 0),(.fr,.nl .plan),(.fr,.nl .lrow),(.fr,.nl .time),(.fr,.nl .row)])]))
theorem aau(G:GdB uaq 63 caq gaq){fr x y z a b c d f g h}:Daq fr (Qas x y z a b c d f g h):=ja G.g
def Naq:=λx y z a b c d f g=>pcL (λs:Int=>Qas x y z a b c d f g s) 0
theorem bau(G:GdB uaq 63 caq gaq){fr x y z a b c d f g}:Daq fr (Naq x y z a b c d f g):=Aa λ_=>aau G
def Ras(y:Int)(x:LR)(z a:Int)(b:LP)(c:List LR)(d:List Time)(f:LR):TA (Sess×Bool×Unit) Unit:=.sx (Naq y x z a b c d f (ba .row x)) (λ_=>.l (.n ()))
def xar:=λx y z a b c d f=>pcT (Ras x y z a b c d f) [0,1,1] [(1,.I x),(2,.S .row y),(3,.box [(.fr,.i z),(.fr,.i a),(.sh,.lst .plan b),(.sh,.lst .lrow c),(.sh,.lst .time d),(.sh,.lst .row f)]),(6,.box [(.fr,.i 0),(.fr,.i 0),(.fr,.nl .plan),(.fr,.nl .lrow),(.fr,.nl .time),(.fr,.nl .row)])] (rvF F35) (λ_=>[(1,.I x),(2,.S .row y),(3,.box [(.fr,.i z),(.fr,.i a),(.sh,.lst .plan b),(.sh,.lst .lrow c),(.sh,.lst .time d),(.sh,.lst .row f)]),(6,.box [(.fr,.i 0),(.fr,.i 0),(.fr,.nl .plan),(.fr,.nl .lrow),(.fr,.nl .time),(.fr,.nl .row)])])
theorem cau(G:GdB uaq 63 caq gaq){fr x y z a b c d f}:Daq fr (xar x y z a b c d f):=fa G.g (λe=>⟨Naq (gI e 1 0) (gL .row e 2 0) (gI e 3 0) (gI e 3 1) (gL .plan e 3 2) (gL .lrow e 3 3) (gL .time e 3 4) (gL .row e 3 5) (gI e 31 0)⟩) λ_=>bau G
def pas(_:Int)(_:LR)(x y:Int)(z:LP)(a:List LR)(b:List Time)(c:LR):TA (Sess×Bool×Unit) (Int×Int×LP×(List LR)×(List Time)×LR):=.w [gaq (Sess.mk (Plan.mk x y z) a b c)] (.l (.n ((caq (Sess.mk (Plan.mk x y z) a b c)).Plan.Kind,(caq (Sess.mk (Plan.mk x y z) a b c)).Plan.Num,(caq (Sess.mk (Plan.mk x y z) a b c)).Plan.Kids,(caq (Sess.mk (Plan.mk x y z) a b c)).Ins,(caq (Sess.mk (Plan.mk x y z) a b c)).Front,(caq (Sess.mk (Plan.mk x y z) a b c)).Told)))
def yar:=λx y z a b c d f=>pcT (pas x y z a b c d f) [0,1,1,1] [(1,.I x),(2,.S .row y),(3,.box [(.fr,.i z),(.fr,.i a),(.sh,.lst .plan b),(.sh,.lst .lrow c),(.sh,.lst .time d),(.sh,.lst .row f)]),(6,.box [(.fr,.i 0),(.fr,.i 0),(.fr,.nl .plan),(.fr,.nl .lrow),(.fr,.nl .time),(.fr,.nl .row)])] (rvF F35) (λq=>[(1,.I x),(2,.S .row y),(3,.box [(.fr,.i z),(.fr,.i a),(.sh,.lst .plan b),(.sh,.lst .lrow c),(.sh,.lst .time d),(.sh,.lst .row f)]),(6,.box [(.fr,.i 0),(.fr,.i 0),(.fr,.nl .plan),(.fr,.nl .lrow),(.fr,.nl .time),(.fr,.nl .row)]),(10,.box [(.fr,.i q.1),(.fr,.i q.2.1),(.sh,.lst .plan q.2.2.1),((.acc false),.lst .lrow q.2.2.2.1),(.sh,.lst .time q.2.2.2.2.1),(.sh,.lst .row q.2.2.2.2.2)])])
theorem dau(G:GdB uaq 63 caq gaq){fr f g x z a b c d}:Daq fr (yar f g x z a b c d):=IV G.g G.b 30 3 44 45 10 [(1,.same),(2,.same),(3,.same),(6,.same),(10,.same)] (pas f g x z a b c d) (y:=Sess.mk (Plan.mk x z a) b c d)
def qas(x _ _:Int)(_:LP)(y:List LR)(_:List Time)(_ z:LR):TA (Sess×Bool×Unit) ((List LR)):=.w [inb x (ba .lrow y)] (.l (.n (List.set y (Int.toNat x) z)))
def zar:=λc x y z d a b f=>pcT (qas c x y z d a b f) [0,1,1,1,1,1,1] [(1,.I c),(6,.box [(.fr,.i 0),(.fr,.i 0),(.fr,.nl .plan),(.fr,.nl .lrow),(.fr,.nl .time),(.fr,.nl .row)]),(10,.box [(.fr,.i x),(.fr,.i y),(.sh,.lst .plan z),((.acc false),.lst .lrow d),(.sh,.lst .time a),(.sh,.lst .row b)]),(11,.S .row f)] (rvF F35) (λq=>[(6,.box [(.fr,.i 0),(.fr,.i 0),(.fr,.nl .plan),(.fr,.nl .lrow),(.fr,.nl .time),(.fr,.nl .row)]),(10,.box [(.fr,.i x),(.fr,.i y),(.sh,.lst .plan z),((.acc false),.lst .lrow q),(.sh,.lst .time a),(.sh,.lst .row b)])])
theorem eau(G:GdB uaq 63 caq gaq){fr h x a b c d f g}:Daq fr (zar h x a b c d f g):=LV G.g 30 26 28 10 1 11 60 61 62 63 64 [(0,3),(3,1),(4,1),(5,1)] 1 [(6,.same),(10,.same)] (qas h x a b c d f g) (y:=Sess.mk (Plan.mk x a b) c d f) (kr:=.sh) (z:=g)
def Aar(y:Sess)(z:Int)(a:LR):TN (Sess×Bool×Unit):=.k (lC (sE y)) λd=>.w [mC (sE y),((!(cond (cond (!d) true (cmp .lss z 0)) true (cmp .geq z 2)))&&true)=true->(qq a)] (.c (cond (cond (cond (!d) true (cmp .lss z 0)) true (cmp .geq z 2)) true (!(pq a))) (.l (.r ((Sess.mk (Plan.mk 0 0 []) [] [] []),(false,()))))
 (.sn (xar z a y.Plan.Kind y.Plan.Num y.Plan.Kids y.Ins y.Front y.Told) (λ_=>.sn (yar z a y.Plan.Kind y.Plan.Num y.Plan.Kids y.Ins y.Front y.Told) (λx=>.k (iA (rd .lrow y.Ins z) a) λb=>.w [inb z (ba .lrow y.Ins),jA (rd .lrow y.Ins z) a,gi b] (.c (!(Re b).2.1) (.l (.r ((Sess.mk (Plan.mk 0 0 []) [] [] []),(false,()))))
 (.sn (zar z x.1 x.2.1 x.2.2.1 x.2.2.2.1 x.2.2.2.2.1 x.2.2.2.2.2 (Re b).1) (λc=>.w [mC (Sess.mk (Plan.mk x.1 x.2.1 x.2.2.1) c x.2.2.2.2.1 x.2.2.2.2.2)] (.c (!(lC (Sess.mk (Plan.mk x.1 x.2.1 x.2.2.1) c x.2.2.2.2.1 x.2.2.2.2.2))) (.l (.r ((Sess.mk (Plan.mk 0 0 []) [] [] []),(false,()))))
 (.l (.r ((Sess.mk (Plan.mk x.1 x.2.1 x.2.2.1) c x.2.2.2.2.1 x.2.2.2.2.2),(true,()))))))))))))
def fau:=λx y z=>pcT (Aar x y z) [] [(0,.agg false [.i x.Plan.Kind,.i x.Plan.Num,.lst .plan x.Plan.Kids,.lst .lrow x.Ins,.lst .time x.Front,.lst .row x.Told]),(1,.I y),(2,.S .row z)] (rvF F35)
theorem gau(G:GdB uaq 63 caq gaq){fr x y z}:Daq fr (fau x y z):=Nd G.g [λe=>⟨xar (gI e 1 0) (gL .row e 2 0) (gI e 3 0) (gI e 3 1) (gL .plan e 3 2) (gL .lrow e 3 3) (gL .time e 3 4) (gL .row e 3 5)⟩,λe=>⟨yar (gI e 1 0) (gL .row e 2 0) (gI e 3 0) (gI e 3 1) (gL .plan e 3 2) (gL .lrow e 3 3) (gL .time e 3 4) (gL .row e 3 5)⟩,λe=>⟨zar (gI e 1 0) (gI e 10 0) (gI e 10 1) (gL .plan e 10 2) (gL .lrow e 10 3) (gL .time e 10 4) (gL .row e 10 5) (gL .row e 11 0)⟩] ⟨λ_=>cau G,λ_=>dau G,λ_=>eau G,trivial⟩
def Bar(x:Sess)(y:Int)(z:LR):Sess×Bool×Unit:=ocR (Aar x y z).val
def Car(x:Sess)(y:Int)(z:LR):Prop:=(Aar x y z).ob
def ras:Spec:=spF [(.st .sess),(.int .i64),(.lst .row)] (.tup [(false,(.st .sess)),(true,.bool)]) Bar Car
theorem hau(G:GdB uaq 63 caq gaq):CP 35 ras:=ua (pts:=[(.st .sess),(.int .i64),(.lst .row)]) (F:=F35) G.g λ_ _=>gau G
def aai:SP:=[]
abbrev F38:Fnn:=⟨[.tmp 0],.one (.acc true) (.lst .time),none,[]⟩
abbrev iai:=@OkP Tryz.f38 F38
def nai(_:List Time)(z:Int)(y:List Time)(x:Int):TX (List Time) ((List Time)×Int) ((List Time)):=.c (cmp .leq x 7) (.w [lim (ba .time y) (ba .time [(Time.mk z x)])] (.l (.n ((y++[(Time.mk z x)]),(ar .add .i64 x 1)))))
 (.l (.x y))
def Bal:=λa x y z=>pcR (nai a x y z) [0,0,1,0,0,1,0,0,1,0,1,1] (λq=>[(1,.A .time q.1),(2,.I x),(3,.I q.2)]) (y,z) (rvF F38) (λq=>(2,[(1,.A .time q),(2,.I x)]))
theorem Jan(G:Gd aai){fr x y z a}:iai fr (Bal x y z a):=ja G
def Bai:=λx y=>pcL (λs:(List Time)×Int=>Bal x y s.1 s.2) (x,0)
theorem Kan(G:Gd aai){fr x y}:iai fr (Bai x y):=Aa λ_=>Jan G
def Cal(x:List Time)(y:Int):TA (List Time) ((List Time)):=.sx (Bai x y) (λz=>.l (.n z))
def naj:=λy x=>pcT (Cal y x) [0,1,0,0,1,0,1,1] [(1,.A .time y),(2,.I x)] (rvF F38) (λq=>[(1,.A .time q),(2,.I x)])
theorem Lan(G:Gd aai){fr x y}:iai fr (naj x y):=fa G (λe=>⟨Bai (gL .time e 1 0) (gI e 2 0)⟩) λ_=>Kan G
def oai(y:List Time)(x:Int):TX (List Time) ((List Time)×Int) ((List Time)):=.c (cmp .leq x 7) (.sn (naj y x) (λz=>.l (.n (z,(ar .add .i64 x 1)))))
 (.l (.x y))
def Dal:=λx y=>pcR (oai x y) [0,0,1,0,1,1] (λq=>[(1,.A .time q.1),(2,.I q.2)]) (x,y) (rvF F38) (λq=>(0,[(1,.A .time q)]))
theorem Man(G:Gd aai){fr x y}:iai fr (Dal x y):=fa G (λe=>⟨naj (gL .time e 1 0) (gI e 2 0)⟩) λ_=>Lan G
def Cai:=pcL (λs:(List Time)×Int=>Dal s.1 s.2) ([],0)
theorem Nan(G:Gd aai){fr}:iai fr (Cai):=Aa λ_=>Man G
def Eal:TA (List Time) ((List Time)):=.sx Cai (λx=>.l (.n x))
def oaj:=pcT (Eal) [0,1,1] [(1,.A .time [])] (rvF F38) (λq=>[(1,.A .time q)])
theorem Oan(G:Gd aai){fr}:iai fr (oaj):=fa G (λe=>⟨Cai⟩) λ_=>Nan G
def paj:TN (List Time):=.sn oaj (λx=>.l (.r x))
def Pan:=pcT (paj) [] [] (rvF F38)
theorem Qan(G:Gd aai){fr}:iai fr (Pan):=fa G (λe=>⟨oaj⟩) λ_=>Oan G
def qaj  : List Time:=ocR (paj).val
def raj  : Prop:=(paj).ob
def Lak:Spec:=spF [] (.one (.acc true) (.lst .time)) qaj raj
theorem Ran(G:Gd aai):CP 38 Lak:=ua (pts:=[]) (F:=F38) G λ_ _=>Qan G
end
section
namespace Ds
open Go
set_option maxRecDepth 100000
section
variable {P:Program}{tt:TT}{N:NP}{fr:Fr}{Cd:Code}{F:Fnn}{R A X Y Z:Type}
end
noncomputable def CI:Code:=ee Tryz.f63
theorem conI(G:Gd Aaq):ut Tryz.prog 63 caq gaq:=by
 refine⟨⟨Tryz.f63,by kernel_rfl,by kernel_rfl,by kernel_rfl⟩,λy hy W0 F0 us hl hus=>?_⟩;have hh:ye F0 W0 [.st .sess] (y,()) [.agg us.toArray] none:=⟨_,[],rfl,⟨us,rfl,hus⟩,rfl,rfl⟩;refine calls_of_wp (fn:=Tryz.f63) (c:=CI) (by kernel_rfl) (by kernel_rfl) ?_;have hs:=iK (nt:=(Tryz.f63).ntmps) [] hl hh (Nat.le_of_ble_eq_true (by kernel_rfl));obtain⟨⟨q1,q2,q3,_⟩,h3,_⟩:=(show(Caq y).ob from hy)
 obtain⟨l,hi⟩ : ∃l,(dar y.Plan.Kind y.Plan.Num y.Plan.Kids y.Ins y.Front y.Told (faq (Plan.mk y.Plan.Kind y.Plan.Num y.Plan.Kids)).Kind (faq (Plan.mk y.Plan.Kind y.Plan.Num y.Plan.Kids)).Num (faq (Plan.mk y.Plan.Kind y.Plan.Num y.Plan.Kids)).Kids (paq y.Front) (Tz y.Told)).val=.n l:=by
  obtain⟨h4,_⟩:=h3
  have h5:=uT (G:=λr=>∃l,r=Oc.x l) h4 (λs r hr=>by
   obtain⟨s1,s2⟩:=s
   revert hr
   simp only[las,pcR,Jaq,Tr.val];cases cmp .lss s2 (ba .lrow y.Ins) with
   |true=>intro hr;cases hr
   |false=>intro hr;cases hr;exact⟨_,rfl⟩)
  obtain⟨l,h5⟩:=h5;refine⟨l,?_⟩;have h6:(Baq (faq (Plan.mk y.Plan.Kind y.Plan.Num y.Plan.Kids)).Kind (faq (Plan.mk y.Plan.Kind y.Plan.Num y.Plan.Kids)).Num (faq (Plan.mk y.Plan.Kind y.Plan.Num y.Plan.Kids)).Kids (paq y.Front) (Tz y.Told) y.Ins (ba .lrow y.Ins)).o=.x l:=h5;simp only[dar,Tr.val,h6]
 have hv:caq y=⟨⟨(faq (Plan.mk y.Plan.Kind y.Plan.Num y.Plan.Kids)).Kind,(faq (Plan.mk y.Plan.Kind y.Plan.Num y.Plan.Kids)).Num,(faq (Plan.mk y.Plan.Kind y.Plan.Num y.Plan.Kids)).Kids⟩,l,paq y.Front,Tz y.Told⟩:=by
  simp only[caq,Caq,Kaq,pcT,Tr.val,hi,ocR]
 have hj:=MS.of hs rfl;refine ma (c1:=nav CI [0]) (c2:=nav CI [1]) (by kernel_rfl) ?_;refine MS.regC G (keep:=[1,2]) (e':=[(1,boxS y),(2,um)]) (ps:=[]) (by kernel_rfl) trivial hj (λa w hs=>?_);show(nav CI [1]).wp _ _ a w;refine ma (c1:=nav CI [1,0]) (c2:=nav CI [1,1]) (by kernel_rfl) ?_
 refine MS.regC G (keep:=[1,2,3]) (e':=[(1,boxS y),(2,um),(3,.box [(.fr,.i (faq (Plan.mk y.Plan.Kind y.Plan.Num y.Plan.Kids)).Kind),(.fr,.i (faq (Plan.mk y.Plan.Kind y.Plan.Num y.Plan.Kids)).Num),(.sh,.lst .plan (faq (Plan.mk y.Plan.Kind y.Plan.Num y.Plan.Kids)).Kids),(.sh,.nl .lrow),(.sh,.lst .time (paq y.Front)),(.sh,.lst .row (Tz y.Told))])])
  (ps:=[Zaq (Plan.mk y.Plan.Kind y.Plan.Num y.Plan.Kids),zaq y.Front,Uz y.Told]) (by kernel_rfl) ⟨q1,q2,q3,trivial⟩ hs (λa w hs=>?_)
 show(nav CI [1,1]).wp _ _ a w;refine ma (c1:=nav CI [1,1,0]) (c2:=nav CI [1,1,1]) (by kernel_rfl) ?_;refine go (fr:=⟨W0.heap.size,[],W0,F0⟩) (Las G) h3 hi (by kernel_rfl) hs.to (λa w hs=>?_);show(nav CI [1,1,1]).wp _ _ a w
 refine HV G.htt (t:=30) (d:=(lk tt 30).get (by kernel_rfl)) (X:=3) (R:=2) (d0:=31) (fn:=Tryz.f63) (c:=nav CI [1,1,1]) (c1:=nav CI [1,1,1,0]) (c2:=nav CI [1,1,1,1]) (o0:=opN (opsOf (nav CI [1,1,1,0])) 0) (o1:=opN (opsOf (nav CI [1,1,1,0])) 1)
  (by kernel_rfl) (by kernel_rfl) (by kernel_rfl) (by kernel_rfl) (by decide) (by decide) (by decide) (by kernel_rfl) (by kernel_rfl) (by kernel_rfl) (by kernel_rfl) (by kernel_rfl) (by kernel_rfl) (by kernel_rfl) (by kernel_rfl) (by kernel_rfl) (by kernel_rfl) (by kernel_rfl) (by kernel_rfl)
  (y:=caq y) (by rw[hv];exact hs) (by rw[hs.tmps.size];exact Nat.lt_of_succ_le (Nat.le_of_ble_eq_true (by kernel_rfl))) (λa w hd ⟨vs,F',ob,r1,r2,r3,r4,r5⟩=>⟨hd,_,r1,vs,F',ob,rfl,r2,r3,r4,r5⟩)
end Ds
end
theorem nam{xs:List Item}(h:∀x∈xs,InR x.Count):(gathI xs).length<=xs.length:=by
 rw[<-oW,List.length_map];have:=vF (xs:=xs.map itR) (λy hy=>by obtain⟨x,hx,rfl⟩:=List.mem_map.1 hy;exact h x hx);simpa using this
section
variable {P:Program}{K n:Nat}
variable {T E:Nat} (M:bT P T K E n) {w:World}{r:Nat}{S:wa} (hr:w.heap[r]? = some (Oa S)) (hm:dc n S) {ks:List Int} (hk:ks.length=n)
include M hr hm hk
end
theorem Oax(a b:List Row)(hl:a.length<1000000000):haw a b:=by
 simp only[haw,yaw,xaw,iax,Tr.ob,pcT];refine⟨λ_=>trivial,λhne=>?_⟩
 have hh:a.length=b.length:=by
  have h1:ba .row a=(a.length:Int):=rfl;have h2:ba .row b=(b.length:Int):=rfl;rw[De,h1,h2]at hne;simp at hne;omega
 obtain⟨q,h1,_⟩:=la.list (step:=λs:Int=>ka (jaw a b s).val) (ob:=λs=>(jaw a b s).ob) (Q:=λ_=>True) a (λi (_:Unit)=>(i:Int)) (λ_ _=>True) (b0:=()) rfl trivial
  (λl x r _ hx _=>by
    obtain⟨hlen,_,hj,_⟩:=Qa (t:=.row) hx
    have hk:inb (l.length:Int) (ba .row b):=by
     have h2:ba .row b=(b.length:Int):=rfl;rw[h2];unfold inb;omega
    have hm:cmp .lss (l.length:Int) (ba .row a)=true:=by rw[hx];exact WL
    simp only[jaw,Tr.val,Tr.ob,da,hm,Ia (l:=l) (by omega)];refine⟨by simp[hj,hk],?_⟩;generalize (!(cmp .eql (rd .row a (l.length:Int)).Key (rd .row b (l.length:Int)).Key&&(cmp .eql (rd .row a (l.length:Int)).Val (rd .row b (l.length:Int)).Val&&(cmp .eql (rd .row a (l.length:Int)).At.A (rd .row b (l.length:Int)).At.A&&(cmp .eql (rd .row a (l.length:Int)).At.B (rd .row b (l.length:Int)).At.B&&(cmp .eql (rd .row a (l.length:Int)).Diff (rd .row b (l.length:Int)).Diff&&true))))))=c;cases c with
    |true=>exact .inr ⟨_,rfl,trivial⟩
    |false=>exact .inl ⟨(),rfl,trivial⟩)
  (λ_ _=>by
    have hi:cmp .lss (a.length:Int) (ba .row a)=false:=Na (t:=.row);simp only[jaw,Tr.val,Tr.ob,da,hi];exact⟨by simp,_,rfl,trivial⟩)
 have b2:(waw a b).ob:=h1.t;simp[b2]
theorem Pax(a:List Row)(hl:a.length<1000000000):iaw a a=true:=by
 have k2:Ea (λs:Int=>jaw a a s) 0 (if ub (λ_ (_:Row)=>false) none a=true then .x () else .r false):=by
  refine la.scan a _ (λl x r hx=>?_) ?_
  .obtain⟨hlen,_,hi,hj⟩:=Qa (t:=.row) hx;simp only[jaw,Tr.val,Tr.ob,da,hj,Ia (l:=l) (by omega),xb,decide_true,Bool.and_true,Bool.not_true];exact⟨by simp[hi],rfl⟩
  .have hh:cmp .lss (a.length:Int) (ba .row a)=false:=Na (t:=.row);simp only[jaw,Tr.val,Tr.ob,da,hh];exact⟨by simp,rfl⟩
 have a2:(waw a a).o=_:=k2.v
 have hs:ub (λ_ (_:Row)=>false) none a=true:=by
  exact(Og (λ_:Row=>true) a none).trans (List.all_eq_true.2 λ_ _=>rfl)
 rw[hs]at a2;simp only[iaw,yaw,xaw,iax,pcT,Tr.val,a2,De,decide_true,Bool.not_true,if_true];rfl
section
open Go Tg
theorem Wah{xs:List Row}(h:∀x∈xs,InR x.Diff)(t:Time):∀x∈Za xs t,InR x.Count:=λx hx=>by
 obtain⟨r,hr,rfl⟩:=List.mem_map.1 hx;exact h r ((List.mem_filter.1 hr).1)
section
variable {a:List Row} (hr:Gb a=true) {kind:Int} (hkind:1<=kind/\kind<=3)
include hr hkind
end
theorem Oam{x y:Item}(h1:x.Key=y.Key)(h2:x.Val=y.Val)(h3:x.Count=y.Count):x=y:=by
 obtain⟨a,b,c⟩:=x;obtain⟨a',b',c'⟩:=y;simp at h1 h2 h3;subst h1 h2 h3;rfl
theorem oal(x y:Item):(cmp .eql x.Key y.Key&&(cmp .eql x.Val y.Val&&(cmp .eql x.Count y.Count&&true)))=true↔x=y:=by
 rw[xb,xb,xb];simp only[Bool.and_eq_true,decide_eq_true_eq,and_true];constructor
 .rintro⟨h1,h2,h3⟩;exact Oam h1 h2 h3
 .rintro rfl;exact⟨rfl,rfl,rfl⟩
theorem pal(a b:List Item)(hl:a.length<1000000000):Tah a b/\(Zah a b=true↔a=b):=by
 by_cases hlen:a.length=b.length
 .have hz:(a.zip b).length=a.length:=by rw[List.length_zip];omega
  have key:∃q,Ea (λs:Int=>gai a b s) 0 q/\((q=.x ()/\a=b)\/(q=.r false/\a≠b)):=by
   refine la.list (a.zip b) (λi (_:Unit)=>(i:Int)) (λl _=>a.take l.length=b.take l.length) (b0:=()) rfl rfl ?_ ?_
   .rintro l ⟨u,v⟩ r ⟨⟩ hx hI;have ho:l.length<a.length:=by rw[<-hz,hx];simp
    have hg:(a.zip b)[l.length]? = some (u,v):=by rw[hx];simp
    rw[List.getElem?_zip_eq_some]at hg
    have hu:rd .item a (l.length:Int)=u:=by
     show a.getD (Int.toNat l.length) _=u;rw[Int.toNat_natCast,List.getD_eq_getElem?_getD,hg.1];rfl
    have hv:rd .item b (l.length:Int)=v:=by
     show b.getD (Int.toNat l.length) _=v;rw[Int.toNat_natCast,List.getD_eq_getElem?_getD,hg.2];rfl
    have hk:ba .item a=(a.length:Int):=rfl;have hm:ba .item b=(b.length:Int):=rfl;have hp:cmp .lss (l.length:Int) (ba .item a)=true:=by rw[Yb,hk];simp;omega
    have hi:inb (l.length:Int) (ba .item a):=⟨by omega,by omega⟩;have hj:inb (l.length:Int) (ba .item b):=⟨by omega,by omega⟩;refine⟨by simp[gai,hp,hi,hj,Tr.ob,da],?_⟩;show(∃b',ka (gai a b (l.length:Int)).val=_/\_)\/∃q,ka (gai a b (l.length:Int)).val=_/\_;simp only[gai,hp,hu,hv,Ia (l:=l) (by omega),Tr.val];by_cases he:u=v
    .left;subst he;rw[(oal u u).2 rfl];refine⟨(),rfl,?_⟩;rw[List.length_append,List.length_singleton,List.take_add_one,List.take_add_one,hI,hg.1,hg.2]
    .right
     have hq:(cmp .eql u.Key v.Key&&(cmp .eql u.Val v.Val&&(cmp .eql u.Count v.Count&&true)))=false:=by
      rw[<-Bool.not_eq_true,oal];exact he
     rw[hq];refine⟨.r false,rfl,.inr ⟨rfl,λhab=>he ?_⟩⟩;have:=hg.1;rw[hab,hg.2]at this;exact(Option.some.inj this).symm
   .rintro⟨⟩ hI;have hh:cmp .lss ((a.zip b).length:Int) (ba .item a)=false:=by rw[Yb,hz];simp[ba]
    rw[hz,List.take_length,hlen,List.take_length]at hI;simp only[gai,hh,Tr.val,Tr.ob,da];exact⟨by simp,_,rfl,.inl ⟨rfl,hI⟩⟩
  obtain⟨q,h1,h2⟩:=key;have b2:(kai a b).ob:=h1.t
  have hn:cmp .neq (ba .item a) (ba .item b)=false:=by
   show cmp .neq (a.length:Int) (b.length:Int)=false;rw[De,hlen];simp
  rcases h2 with⟨rfl,h2⟩|⟨rfl,h2⟩
  .have a2:(kai a b).o=.x ():=h1.v;simp only[Tah,Zah,mai,Iak,hn,a2,ocR,lai,pcT,Tr.val,Tr.ob];exact⟨by simp[b2],λ_=>h2,λ_=>trivial⟩
  .have a2:(kai a b).o=.r false:=h1.v;simp only[Tah,Zah,mai,Iak,hn,a2,ocR,lai,pcT,Tr.val,Tr.ob];exact⟨by simp[b2],(λh=>by cases h),λh=>absurd h h2⟩
 .have hn:cmp .neq (ba .item a) (ba .item b)=true:=by
   show cmp .neq (a.length:Int) (b.length:Int)=true;rw[De];simp;omega
  simp only[Tah,Zah,mai,hn,ocR,lai,pcT,Tr.val,Tr.ob];exact⟨by simp,(λh=>by cases h),λh=>absurd (by rw[h]) hlen⟩
theorem zak{a:List Row}(h:Gb a=true)(t:Time):(Od a t).length<=400:=by
 obtain⟨h1,h2⟩:=bb h;have hs:∀x∈Za a t,InR x.Count:=Wah (λx hx=>Oe (h2 x hx)) t
 have hl:(Za a t).length<=400:=by
  unfold Za;rw[List.length_map];exact Nat.le_trans (List.length_filter_le _ _) h1
 exact Nat.le_trans (nam hs) hl
theorem tal(n:Nat):allT (n+1)=allT n++(List.range 8).map λb:Nat=>(⟨(n:Int),(b:Int)⟩ : Time):=by
 unfold allT;rw[List.range_succ (n:=n),List.flatMap_append];simp
theorem Cak:∀n,(allT n).length=8*n
 |0=>rfl
 |n+1=>by rw[tal,List.length_append,Cak n];simp;omega
theorem fan{t:Time}(h:t∈allT 8):za t=true:=by
 obtain⟨a,ha,h⟩:=List.mem_flatMap.1 h;obtain⟨b,hb,rfl⟩:=List.mem_map.1 h;have ha:=List.mem_range.1 ha;have hb:=List.mem_range.1 hb;simp only[za,decide_eq_true_eq];omega
theorem gan:raj/\qaj=allT 8:=by
 have k4:∀(m0:List Time) (n:Nat),m0.length<=64->Ea (λs:List Time×Int=>nai m0 (n:Int) s.1 s.2) (m0,0) (.x (m0++(List.range 8).map λb:Nat=>(⟨(n:Int),(b:Int)⟩ : Time))):=λm0 n hm=>by
  have h:=YM (step:=λs:List Time×Int=>ka (nai m0 (n:Int) s.1 s.2).val) (ob:=λs=>(nai m0 (n:Int) s.1 s.2).ob) (λk=>m0++(List.range k).map λb:Nat=>(⟨(n:Int),(b:Int)⟩ : Time)) (fin:=.x (m0++(List.range 8).map λb:Nat=>(⟨(n:Int),(b:Int)⟩ : Time))) (λi hi=>?_) ?_
  .simpa using h
  .have e:cmp .leq (i:Int) 7=true:=decide_eq_true (by omega);have hh:∀w,lim (ba .time (m0++(List.range i).map λb:Nat=>(⟨(n:Int),(b:Int)⟩ : Time))) (ba .time [w]):=λw=>yb (t:=.time) (show List.length _<1099511627776 by rw[List.length_append,List.length_map,List.length_range];omega);simp only[nai,Tr.val,Tr.ob,da,e];refine⟨by simp[hh],?_⟩;have ea:ar .add .i64 (i:Int) 1=((i+1:Nat):Int):=by rw[Zb (by omega)];omega
   rw[List.range_succ,List.map_append,<-List.append_assoc,ea];rfl
  .have e:cmp .leq ((8:Nat):Int) 7=false:=rfl;simp only[nai,Tr.val,Tr.ob,da,e];exact⟨by simp,rfl⟩
 have k:Ea (λs:List Time×Int=>oai s.1 s.2) ([],0) (.x (allT 8)):=by
  refine YM (step:=λs:List Time×Int=>ka (oai s.1 s.2).val) (ob:=λs=>(oai s.1 s.2).ob) allT (λi hi=>?_) ?_
  .have e:cmp .leq (i:Int) 7=true:=decide_eq_true (by omega);have k:=k4 (allT i) i (by rw[Cak];omega);have a4:(Bai (allT i) (i:Int)).o=.x (allT (i+1)):=by rw[tal];exact k.v
   have b4:(Bai (allT i) (i:Int)).ob:=k.t;have ea:ar .add .i64 (i:Int) 1=((i+1:Nat):Int):=by rw[Zb (by omega)];omega
   simp only[oai,naj,Cal,pcT,Tr.val,Tr.ob,e,a4,ea];exact⟨by simp[b4],rfl⟩
  .have e:cmp .leq ((8:Nat):Int) 7=false:=rfl;simp only[oai,Tr.val,Tr.ob,e];exact⟨by simp,rfl⟩
 have a2:Cai.o=.x (allT 8):=k.v;have b2:Cai.ob:=k.t;simp only[raj,qaj,paj,oaj,Eal,pcT,Tr.val,Tr.ob,a2];exact⟨by simp[b2],rfl⟩
theorem uat{s t:Time}(hs:za s=true)(ht:za t=true):za (gb s t)=true:=by
 simp only[za,decide_eq_true_eq]at hs ht⊢;unfold gb;simp only[Bj];constructor
 .split<;>omega
 .refine⟨?_,?_,?_⟩<;>split<;>omega
theorem OkS.uniq{s:Sess}{x y:List Row}(h:OkS s x)(k:OkS s y):x=y:=by
 have:=h.flow;rw[k.flow]at this;exact(Option.some.inj this).symm
open Classical in
theorem jav:∀(d n:Nat),d<=n->∀p:Plan,okM d p=true->(eaq n).2 p/\(eaq n).1 p=p:=by
 intro d
 induction d with
 |zero=>intro n _ p h;cases h
 |succ d ih=>
  intro n hn p hp;obtain⟨m,rfl⟩ : ∃m,n=m+1:=⟨n - 1,by omega⟩;obtain⟨hlen,hk⟩:=UF hp
  have k:Ea (λs:LP×Int=>Xaq (eaq m).1 (eaq m).2 p.Kind p.Num p.Kids (ba .plan p.Kids) s.1 s.2) ([],0) (.x p.Kids):=by
   refine la.fold p.Kids (λi b=>(b,(i:Int))) (λl=>l) rfl (λl x r hx=>?_) ?_
   .obtain⟨hlen2,hm,hi,hl⟩:=Qa (t:=.plan) hx;obtain⟨i1,i2⟩:=ih m (by omega) x (hk x (by rw[hx];simp));have hj:∀y,lim (ba .plan l) (ba .plan [y]):=λy=>yb (t:=.plan) (show l.length<1099511627776 by omega);simp only[Xaq,Tr.val,Tr.ob,da,hl,hm,od,i2,Ia (l:=l) (by omega)];exact⟨by simp[hi,i1,hj],rfl⟩
   .have hh:cmp .lss (p.Kids.length:Int) (ba .plan p.Kids)=false:=Na (t:=.plan);simp only[Xaq,Tr.val,Tr.ob,da,hh];exact⟨by simp,rfl⟩
  have a2:(Iaq (eaq m).1 (eaq m).2 p.Kind p.Num p.Kids (ba .plan p.Kids)).o=.x p.Kids:=k.v;have b2:(Iaq (eaq m).1 (eaq m).2 p.Kind p.Num p.Kids (ba .plan p.Kids)).ob:=k.t;simp only[eaq,yaq,Yaq,Ias,pcT,Tr.val,Tr.ob,a2,ocR,od];exact⟨by simp[b2],trivial⟩
def smM:Nat->Plan->Bool
 |0,_=>false
 |d+1,p=>decide (p.Kids.length<=2)&&p.Kids.all (smM d)
theorem Qay{d:Nat}{p:Plan}(h:smM (d+1) p=true):p.Kids.length<=2/\∀x∈p.Kids,smM d x=true:=by
 simp only[smM,Bool.and_eq_true,List.all_eq_true,decide_eq_true_eq]at h;exact h
theorem Hax:∀ {d:Nat}{p:Plan},okM d p=true->smM d p=true
 |0,_,h=>by cases h
 |d+1,p,h=>by
  obtain⟨h1,h2⟩:=UF h;simp only[smM,Bool.and_eq_true,List.all_eq_true,decide_eq_true_eq];exact⟨h1,λx hx=>Hax (h2 x hx)⟩
theorem Ray:∀(d n:Nat),d<=n->∀p:Plan,smM d p=true->(gaw n).2 p p/\(gaw n).1 p p=true:=by
 intro d
 induction d with
 |zero=>intro n _ p h;cases h
 |succ d ih=>
  intro n hn p hp;obtain⟨m,rfl⟩ : ∃m,n=m+1:=⟨n - 1,by omega⟩;obtain⟨hlen,hk⟩:=Qay hp
  have k:Ea (λs:Int=>Raw (gaw m).1 (gaw m).2 p.Kind p.Num p.Kids p.Kind p.Num p.Kids s) 0 (.x ()):=by
   refine la.fold p.Kids (λi (_:Unit)=>(i:Int)) (λ_=>()) rfl (λl x r hx=>?_) ?_
   .obtain⟨hlen2,hl,hi,hj⟩:=Qa (t:=.plan) hx;obtain⟨i1,i2⟩:=ih m (by omega) x (hk x (by rw[hx];simp));simp only[Raw,Tr.val,Tr.ob,da,hj,hl,od,i2,Bool.not_true,Ia (l:=l) (by omega)];exact⟨by simp[hi,i1],rfl⟩
   .have hh:cmp .lss (p.Kids.length:Int) (ba .plan p.Kids)=false:=Na (t:=.plan);simp only[Raw,Tr.val,Tr.ob,da,hh];exact⟨by simp,rfl⟩
  have a2:(Baw (gaw m).1 (gaw m).2 p.Kind p.Num p.Kids p.Kind p.Num p.Kids).o=.x ():=k.v;have b2:(Baw (gaw m).1 (gaw m).2 p.Kind p.Num p.Kids p.Kind p.Num p.Kids).ob:=k.t;have hc:cond (cond (cmp .neq p.Kind p.Kind) true (cmp .neq p.Num p.Num)) true (cmp .neq (ba .plan p.Kids) (ba .plan p.Kids))=false:=by simp[De]
  simp only[gaw,oaw,Saw,yax,pcT,Tr.val,Tr.ob,hc,a2,ocR];exact⟨by simp[b2],trivial⟩
theorem kav{p:Plan}(h:okM 4 p=true):Zaq p/\faq p=p:=jav 4 gc (by decide) p h
theorem Say{p:Plan}(h:smM 4 p=true):lax p p/\kax p p=true:=Ray 4 gc (by decide) p h
theorem jat{f:List Time}(hl:f.length<1000000000):zaq f/\paq f=f:=by
 simp only[zaq,paq,aar,Tr.val,Tr.ob,da,ocR];refine⟨⟨⟨⟨rfl,by unfold ba;omega,by unfold ba;omega⟩,trivial⟩,trivial⟩,?_⟩;unfold ba;simp
theorem kat{s:Sess}(hs:Sm s)(hp:okM 4 s.Plan=true):gaq s/\caq s=s:=by
 have h1:=hs.ins;have h2:=hs.each;have h3:=hs.front;have h4:=hs.told;obtain⟨c1,c2⟩:=kav hp;obtain⟨t1,t2⟩:=jat (f:=s.Front) (by omega);obtain⟨r1,r2⟩:=SW (a:=s.Told) (by omega)
 have k:Ea (λx:List LR×Int=>Jaq s.Plan.Kind s.Plan.Num s.Plan.Kids s.Front s.Told s.Ins (ba .lrow s.Ins) x.1 x.2) ([],0) (.x s.Ins):=by
  refine la.fold s.Ins (λi b=>(b,(i:Int))) (λl=>l) rfl (λl x r hx=>?_) ?_
  .obtain⟨hlen,hl,hi,hk⟩:=Qa (t:=.lrow) hx;obtain⟨x1,x2⟩:=SW (a:=x) (by have:=h2 x (by rw[hx];simp);omega);have hj:∀w,lim (ba .lrow l) (ba .lrow [w]):=λw=>yb (t:=.lrow) (show l.length<1099511627776 by omega);simp only[Jaq,Tr.val,Tr.ob,da,hk,hl,x2,Ia (l:=l) (by omega)];exact⟨by simp[hi,x1,hj],rfl⟩
  .have hh:cmp .lss (s.Ins.length:Int) (ba .lrow s.Ins)=false:=Na (t:=.lrow);simp only[Jaq,Tr.val,Tr.ob,hh];exact⟨by simp,rfl⟩
 have a2:(Baq s.Plan.Kind s.Plan.Num s.Plan.Kids s.Front s.Told s.Ins (ba .lrow s.Ins)).o=.x s.Ins:=k.v;have b2:(Baq s.Plan.Kind s.Plan.Num s.Plan.Kids s.Front s.Told s.Ins (ba .lrow s.Ins)).ob:=k.t;simp only[gaq,caq,Caq,Kaq,dar,pcT,Tr.val,Tr.ob,da,od,c2,t2,r2,a2,ocR];exact⟨by simp[c1,t1,r1,b2],trivial⟩
theorem lav{s:Sess}(hs:Sm s)(i:Int){rows:List Row}(hr:rows.length<=1000):Car s i rows/\Bar s i rows=xI (inS s i rows):=by
 have h1:=hs.ins;have h2:=hs.each;have h3:=hs.front;have h4:=hs.told;obtain⟨o1,o2⟩:=Bah hs;obtain⟨b1,b2⟩:=zM rows (by omega)
 have k2:Ea (λj:Int=>war i rows s.Plan.Kind s.Plan.Num s.Plan.Kids s.Ins s.Front s.Told (ba .row rows) j) 0 (if ub (λ_ x=>!Fb s.Front x.At) none rows=true then .x () else .r (mr,(false,()))):=by
  refine la.scan rows _ (λl x r hx=>?_) ?_
  .obtain⟨hlen,ho,hl,hm⟩:=Qa (t:=.row) hx;obtain⟨y1,y2⟩:=bag s.Front x.At (by omega);simp only[war,Tr.val,Tr.ob,da,hm,ho,y2,Ia (l:=l) (by omega)];refine⟨by simp[hl,y1],?_⟩;cases Fb s.Front x.At<;>rfl
  .have hk:cmp .lss (rows.length:Int) (ba .row rows)=false:=Na (t:=.row);simp only[war,Tr.val,Tr.ob,da,hk];exact⟨by simp,rfl⟩
 rw[Og]at k2;have a2:(Naq i rows s.Plan.Kind s.Plan.Num s.Plan.Kids s.Ins s.Front s.Told (ba .row rows)).o=_:=k2.v;have d2:(Naq i rows s.Plan.Kind s.Plan.Num s.Plan.Kids s.Ins s.Front s.Told (ba .row rows)).ob:=k2.t
 have hh:cond (cond (!true) true (cmp .lss i 0)) true (cmp .geq i 2)=!decide (0<=i/\i<2):=by
  rw[Yb,Kg,Bool.eq_iff_iff];by_cases hA:i<0<;>simp[hA]<;>omega
 simp only[Car,Bar,Aar,xar,Ras,yar,pas,zar,qas,pcT,Tr.val,Tr.ob,da,Fl,o2,b2,a2,inS];cases hok:fd s with
 |false=>exact⟨by simp[o1],rfl⟩
 |true=>
  rw[hh];by_cases hi:0<=i/\i<2
  .have hj:decide (0<=i/\i<2)=true:=by simp[hi]
   have k:=jag (rows:=rows) hok hi;rw[hj];cases hb:Ca rows with
   |false=>exact⟨by simp[o1,b1],rfl⟩
   |true=>
    have hp:=je hb;obtain⟨c1,c2⟩:=kat hs k.plan;have hn:=je (k.each _ k.at');obtain⟨bi,bl⟩:=kag hn hp;obtain⟨t1,t2⟩:=RW (a:=rd .lrow s.Ins i) (b:=rows) (by have:=(bb hn).1;omega) (by omega);obtain⟨v1,v2⟩:=Qm (xs:=rd .lrow s.Ins i++rows) (by rw[List.length_append];have:=(bb hn).1;omega) bi;obtain⟨w1,w2⟩:=Bah (hs.setIn i (b:=Ka (rd .lrow s.Ins i++rows)) (by omega));have hq:mC (Sess.mk (Plan.mk s.Plan.Kind s.Plan.Num s.Plan.Kids) (List.set s.Ins (Int.toNat i) (Ka (rd .lrow s.Ins i++rows))) s.Front s.Told):=w1;have ht:lC (Sess.mk (Plan.mk s.Plan.Kind s.Plan.Num s.Plan.Kids) (List.set s.Ins (Int.toNat i) (Ka (rd .lrow s.Ins i++rows))) s.Front s.Told)=fd (setIn s i (Ka (rd .lrow s.Ins i++rows))):=w2;simp only[c2,t2,v2];cases (rows.all λx=>Fb s.Front x.At) with
    |false=>exact⟨by simp[o1,b1,d2],rfl⟩
    |true=>
     cases hg:Ca (Ka (rd .lrow s.Ins i++rows)) with
     |false=>exact⟨by simp[o1,b1,d2,c1,k.inb,t1,v1],by simp[ocR,xI,mr]⟩
     |true=>
      simp only[if_true,ht];cases hw:fd (setIn s i (Ka (rd .lrow s.Ins i++rows))) with
      |false=>exact⟨by simp[o1,b1,d2,c1,k.inb,t1,v1,hq],by simp[ocR,xI,mr]⟩
      |true=>exact⟨by simp[o1,b1,d2,c1,k.inb,t1,v1,hq],by simp[ocR,xI,setIn,od]⟩
  .have hj:decide (0<=i/\i<2)=false:=by simpa using hi
   rw[hj];exact⟨by simp[o1],rfl⟩
theorem mav{s:Sess}(hs:Sm s){f:List Time}(hf:f.length<=1000):nar s f/\naq s f=onV s f:=by
 have h1:=hs.ins;have h2:=hs.each;have h3:=hs.front;have h4:=hs.told;obtain⟨o1,o2⟩:=Bah hs;obtain⟨q1,q2⟩:=IX f (by omega);obtain⟨g1,g2⟩:=xX s.Plan s.Ins (by omega) (λa ha=>by have:=h2 a ha;omega);simp only[nar,naq,mar,har,Nas,lar,Pas,pcT,Tr.val,Tr.ob,da,od,Fl,o2,q2,g2,onV,yI];cases hok:fd s with
 |false=>exact⟨by simp[o1],rfl⟩
 |true=>
  obtain⟨x,hx⟩:=wI.1 hok;cases hfo:Sd f with
  |false=>exact⟨by simp[o1,q1],rfl⟩
  |true=>
   have k2:Ea (λj:Int=>gar f s.Plan.Kind s.Plan.Num s.Plan.Kids s.Ins s.Front s.Told (ba .time f) j) 0 (if ub (λ_ t=>!Fb s.Front t) none f=true then .x () else .r (mr,([],(false,())))):=by
    refine la.scan f _ (λl t r ht=>?_) ?_
    .obtain⟨hlen,ho,hk,hm⟩:=Qa (t:=.time) ht;obtain⟨y1,y2⟩:=bag s.Front t (by omega);simp only[gar,Tr.val,Tr.ob,da,hm,ho,y2,Ia (l:=l) (by omega)];refine⟨by simp[hk,y1],?_⟩;cases Fb s.Front t<;>rfl
    .have hi:cmp .lss (f.length:Int) (ba .time f)=false:=Na (t:=.time);simp only[gar,Tr.val,Tr.ob,da,hi];exact⟨by simp,rfl⟩
   rw[Og]at k2;have a2:(Laq f s.Plan.Kind s.Plan.Num s.Plan.Kids s.Ins s.Front s.Told (ba .time f)).o=_:=k2.v;have d2:(Laq f s.Plan.Kind s.Plan.Num s.Plan.Kids s.Ins s.Front s.Told (ba .time f)).ob:=k2.t;have hj:=Vm hx.flow;have hp:=hj.short;obtain⟨c1,c2⟩:=kat hs hj.ok;obtain⟨t1,t2⟩:=jat (f:=f) (by omega);obtain⟨l1,l2⟩:=cag x f (by omega) (by omega);have hh:=El f x
   have k4:∀w:LR,Ea (λq:LR×Int=>kar s.Plan.Kind s.Plan.Num s.Plan.Kids s.Ins s.Front s.Told s.Plan.Kind s.Plan.Num s.Plan.Kids s.Ins f (Wa f x) (ba .row (Wa f x)) q.1 q.2) ([],0) (.x ((Wa f x).filter λz=>Fb s.Front z.At)):=by
    intro _;refine la.fold (Wa f x) (λi b=>(b,(i:Int))) (λl=>l.filter λz=>Fb s.Front z.At) rfl (λl z r hz=>?_) ?_
    .obtain⟨hlen,ho,hk,hm⟩:=Qa (t:=.row) hz;obtain⟨b1,b2⟩:=bag s.Front z.At (by omega);have hl:∀w,lim (ba .row (l.filter λz=>Fb s.Front z.At)) (ba .row [w]):=λw=>yb (t:=.row) (show(l.filter λz=>Fb s.Front z.At).length<1099511627776 by have:(l.filter λz=>Fb s.Front z.At).length<=l.length:=List.length_filter_le _ _;omega)
     have hn:(l++[z]).filter (λz=>Fb s.Front z.At)=if Fb s.Front z.At=true then(l.filter λz=>Fb s.Front z.At)++[z] else l.filter λz=>Fb s.Front z.At:=by
      rw[List.filter_append];cases h:Fb s.Front z.At<;>simp[h]
     have e:(iar s.Plan.Kind s.Plan.Num s.Plan.Kids s.Ins s.Front s.Told s.Plan.Kind s.Plan.Num s.Plan.Kids s.Ins f (Wa f x) (l.filter λz=>Fb s.Front z.At) (ba .row (Wa f x)) l.length).ob/\(iar s.Plan.Kind s.Plan.Num s.Plan.Kids s.Ins s.Front s.Told s.Plan.Kind s.Plan.Num s.Plan.Kids s.Ins f (Wa f x) (l.filter λz=>Fb s.Front z.At) (ba .row (Wa f x)) l.length).val=.n ((l++[z]).filter λz=>Fb s.Front z.At):=by
      simp only[iar,Tr.val,Tr.ob,da,ho,b2];refine⟨by simp[hk,b1,hl],?_⟩;rw[hn];cases Fb s.Front z.At<;>rfl
     obtain⟨e1,e2⟩:=e;simp only[kar,jar,pcT,Tr.val,Tr.ob,hm,e2,Ia (l:=l) (by omega)];exact⟨by simp[e1],rfl⟩
    .have hi:cmp .lss ((Wa f x).length:Int) (ba .row (Wa f x))=false:=Na (t:=.row);simp only[kar,Tr.val,Tr.ob,hi];exact⟨by simp,rfl⟩
   have a4:(Maq s.Plan.Kind s.Plan.Num s.Plan.Kids s.Ins s.Front s.Told s.Plan.Kind s.Plan.Num s.Plan.Kids s.Ins f (Wa f x) (ba .row (Wa f x))).o=_:=(k4 []).v;have d4:(Maq s.Plan.Kind s.Plan.Num s.Plan.Kids s.Ins s.Front s.Told s.Plan.Kind s.Plan.Num s.Plan.Kids s.Ins f (Wa f x) (ba .row (Wa f x))).ob:=(k4 []).t;simp only[a2,hx.flow,uc,c2,t2,l2,a4];cases hall:(f.all λt=>Fb s.Front t) with
   |false=>exact⟨by simp[o1,q1,d2],rfl⟩
   |true=>
    refine⟨by simp[o1,q1,d2,g1,c1,t1,l1,d4],?_⟩;simp[ocR,onS,zI,hx.all]
theorem oav{c:List Int}(hc:∀x∈c,0<=x/\x<=255):var c/\∃s i rows,uar c=(s,i,rows,())/\Sm s/\rows.length<=8/\Ca rows=true:=by
 obtain⟨o1,b,o2,hb⟩:=xah hc;obtain⟨s1,s2,s3,s4⟩:=Cah hb;generalize hv:Up (b,0)=sv at s2 s3 s4;obtain⟨s,q⟩:=sv;simp only[]at s2 s3 s4;obtain⟨x1,x2,_,_⟩:=Eb hb (p:=q) (n:=2) (by omega) (by omega);obtain⟨y1,y2,_,_⟩:=Eb hb (p:=q+1) (n:=24) (by omega) (by omega);obtain⟨z1,z2,z3,z4⟩:=Eb hb (p:=q+1+1) (n:=2) (by omega) (by omega);have hi:∀u v:Int,inb (ia (b,q+1+1) 2).1 (ba .int [u,v]):=λu v=>⟨z3,z4⟩;have hh:=s4.front
 have k1:∀k m l n,(par b (q+1) k m l s.Ins s.Front s.Told n).ob/\∃q' n',(par b (q+1) k m l s.Ins s.Front s.Told n).val=.n (q',n')/\q+2<=q'/\q'<=q+3:=λk m l n=>by
  simp only[par,Tr.val,Tr.ob,da,y2,z2];cases cmp .eql (ia (b,q+1) 24).1 0 with
  |true=>exact⟨by simp[y1,z1,hi],_,_,rfl,by omega,by omega⟩
  |false=>exact⟨by simp[y1],_,_,rfl,by omega,by omega⟩
 have k2:∀r k m l n a,0<=r/\r<=1000->a.length<=8->Ca a=true->(rar b r k m l s.Ins s.Front s.Told n a).ob/\∃a',(rar b r k m l s.Ins s.Front s.Told n a).val=.n a'/\a'.length<=8/\Ca a'=true:=λr k m l n a hr ha hba=>by
  obtain⟨u1,u2,_,_⟩:=Eb hb (p:=r) (n:=6) (by omega) (by omega);obtain⟨w1,w2,w3,w4,w5⟩:=yag hb (p:=r+1) (by omega) ha (wag hba) (f:=s.Front) hh;simp only[rar,Tr.val,Tr.ob,da,u2];cases cmp .gtr (ia (b,r) 6).1 0 with
  |true=>exact⟨by simp[u1,w1],_,rfl,w4,w5⟩
  |false=>exact⟨by simp[u1],_,rfl,ha,hba⟩
 obtain⟨c1,q',n',c2,c3,c4⟩:=k1 s.Plan.Kind s.Plan.Num s.Plan.Kids (ia (b,q) 2).1;obtain⟨b1,b2,b3,b4,b5⟩:=xag hb (p:=q') (m:=4) (by omega) (by omega);obtain⟨d1,a',d2,d3,d4⟩:=k2 (Mb (b,q') 4).2 s.Plan.Kind s.Plan.Num s.Plan.Kids n' (Mb (b,q') 4).1 (by omega) b4 b5;simp only[var,uar,tar,qar,sar,pcT,Tr.val,Tr.ob,da,o2,hv,x2,c2,d2,ocR];refine⟨by simp[o1,s1,x1,c1,b1,d1],s,n',a',?_,s4,d3,d4⟩;rw[show sE s=s from Fl s]
theorem Uay{x y:Time}(h1:x.A=y.A)(h2:x.B=y.B):x=y:=by
 obtain⟨a,b⟩:=x;obtain⟨c,d⟩:=y;simp only at h1 h2;subst h1;subst h2;rfl
theorem Iax(x y:Time):(cmp .eql x.A y.A&&(cmp .eql x.B y.B&&true))=true↔x=y:=by
 rw[xb,xb];simp only[Bool.and_eq_true,decide_eq_true_eq,and_true];constructor
 .rintro⟨h1,h2⟩;exact Uay h1 h2
 .rintro rfl;exact⟨rfl,rfl⟩
theorem Vay(a b:List Time)(hl:a.length<1000000000):maw a b/\(kaw a b=true↔a=b):=by
 by_cases hlen:a.length=b.length
 .obtain⟨q,h1,h2⟩:=la.two (step:=λs:Int=>ka (Faw a b s).val) (ob:=λs=>(Faw a b s).ob) hlen (no:=.r false) (yes:=.x ())
   (λi x y hx hy=>by
     obtain⟨u1,u2⟩:=tC (t:=.time) hx;obtain⟨v1,v2⟩:=tC (t:=.time) hy;have hj:=(List.getElem?_eq_some_iff.1 hx).1;have hi:cmp .lss (i:Int) (ba .time a)=true:=by rw[Yb];unfold ba;simp;omega
     have hs:ar .add .i64 (i:Int) 1=((i+1:Nat):Int):=by rw[Zb (by omega)];omega
     simp only[Faw,Tr.val,Tr.ob,da,hi,u1,v1,hs];refine⟨by simp[u2,v2],?_⟩;by_cases he:x=y
     .rw[(Iax x y).2 he];exact .inl ⟨he,rfl⟩
     .rw[show(cmp .eql x.A y.A&&(cmp .eql x.B y.B&&true))=false by rw[<-Bool.not_eq_true,Iax];exact he];exact .inr ⟨he,rfl⟩)
   (by
     have hh:cmp .lss (a.length:Int) (ba .time a)=false:=Na (t:=.time);simp only[Faw,Tr.val,Tr.ob,da,hh];exact⟨by simp,rfl⟩)
  have b2:(paw a b).ob:=h1.t
  have hn:cmp .neq (ba .time a) (ba .time b)=false:=by
   show cmp .neq (a.length:Int) (b.length:Int)=false;rw[De,hlen];simp
  rcases h2 with⟨rfl,h2⟩|⟨rfl,h2⟩
  .have a2:(paw a b).o=.x ():=h1.v;simp only[maw,kaw,taw,oax,hn,a2,ocR,qaw,pcT,Tr.val,Tr.ob];exact⟨by simp[b2],λ_=>h2,λ_=>trivial⟩
  .have a2:(paw a b).o=.r false:=h1.v;simp only[maw,kaw,taw,oax,hn,a2,ocR,qaw,pcT,Tr.val,Tr.ob];exact⟨by simp[b2],(λh=>by cases h),λh=>absurd h h2⟩
 .have hn:cmp .neq (ba .time a) (ba .time b)=true:=by
   show cmp .neq (a.length:Int) (b.length:Int)=true;rw[De];simp;omega
  simp only[maw,kaw,taw,hn,ocR,qaw,pcT,Tr.val,Tr.ob];exact⟨by simp,(λh=>by cases h),λh=>absurd (by rw[h]) hlen⟩
theorem Way{f:List Time}(hl:f.length<=1000):maw f f/\kaw f f=true:=by
 obtain⟨h1,h2⟩:=Vay f f (by omega);exact⟨h1,h2.2 rfl⟩
theorem eax{a:List Row}(hl:a.length<=1000):haw a a/\iaw a a=true:=⟨Oax a a (by omega),Pax a (by omega)⟩
theorem Xay(xs:List (List Row))(h:∀x∈xs,x.length<=1000)(hl:xs.length<=1000):Yaw xs xs/\Xaw xs xs=true:=by
 have k:Ea (λs:Int=>Uaw xs xs s) 0 (.x ()):=by
  refine la.fold xs (λi (_:Unit)=>(i:Int)) (λ_=>()) rfl (λl x r hx=>?_) ?_
  .obtain⟨hlen2,hk,hi,hj⟩:=Qa (t:=.lrow) hx;obtain⟨r1,r2⟩:=eax (a:=x) (h x (by rw[hx];simp));simp only[Uaw,Tr.val,Tr.ob,da,hj,hk,r2,Bool.not_true,Ia (l:=l) (by omega)];exact⟨by simp[hi,r1],rfl⟩
  .have hh:cmp .lss (xs.length:Int) (ba .lrow xs)=false:=Na (t:=.lrow);simp only[Uaw,Tr.val,Tr.ob,da,hh];exact⟨by simp,rfl⟩
 have a2:(Daw xs xs).o=.x ():=k.v;have b2:(Daw xs xs).ob:=k.t;have hc:cmp .neq (ba .lrow xs) (ba .lrow xs)=false:=by simp[De]
 simp only[Yaw,Xaw,Waw,Vaw,Bax,pcT,Tr.val,Tr.ob,hc,a2,ocR];exact⟨by simp[b2],trivial⟩
theorem Jax{s:Sess}(hs:Sm s)(hp:smM 4 s.Plan=true):naw s s/\uaw s s=true:=by
 obtain⟨a1,a2⟩:=Say hp;obtain⟨b1,b2⟩:=Xay s.Ins hs.each hs.ins;obtain⟨c1,c2⟩:=Way hs.front;obtain⟨d1,d2⟩:=eax hs.told;simp only[naw,uaw,aax,Tr.val,Tr.ob,da,od,a2,b2,c2,d2,cond_true,ocR];exact⟨by simp[a1,b1,c1,d1],trivial⟩
theorem Yay:Sm mr:=⟨Nat.zero_le _,λ_a ha=>(nomatch ha),Nat.zero_le _,Nat.zero_le _⟩
theorem Kax:naw mr mr/\uaw mr mr=true:=Jax Yay rfl
theorem Zay{s:Sess}(h:fd s=true):smM 4 s.Plan=true:=by
 obtain⟨x,hx⟩:=wI.1 h;exact Hax (Vm hx.flow).ok
theorem pav{s s':Sess}{i:Int}{rows:List Row}(hs:Sm s)(h:inS s i rows=some s'):Sm s':=by
 obtain⟨_,_,_,_,h5,_,h7⟩:=Aag h;rw[h7];exact hs.setIn i (by have:=Bag h5;omega)
theorem qav{s:Sess}{f:List Time}(h:yI s f=true):∃x,On s f x:=by
 unfold yI at h;simp only[Bool.and_eq_true]at h;obtain⟨x,hx⟩:=wI.1 h.1;exact⟨x,hx,Vm hx.flow,h.2.1,h.2.2,hx.told,by unfold onS;rw[hx.all],by unfold zI;rw[hx.all]⟩
theorem uap(f:List Time)(x:List Row):(Wa f x).Sublist x:=List.filter_sublist
theorem lat:∀ {f:List Time}{y:Option Time},ub Nf y f=true->f.Pairwise (λs t=>s.A<t.A/\t.B<s.B)/\∀z,y=some z->∀x∈f,z.A<x.A/\x.B<z.B
 |[],y,_=>⟨.nil,λz _ x hx=>nomatch hx⟩
 |x::r,y,h=>by
  simp only[ub,Nf,Bool.and_eq_true,Bool.not_eq_true',Bool.or_eq_false_iff]at h;obtain⟨i1,i2⟩:=lat h.2
  have h0:∀z,y=some z->z.A<x.A/\x.B<z.B:=λz hz=>by
   have:=h.1.2;rw[hz]at this;simp only[Bool.or_eq_false_iff,decide_eq_false_iff_not]at this;omega
  refine⟨List.pairwise_cons.2 ⟨λt ht=>i2 x rfl t ht,i1⟩,λz hz t ht=>?_⟩;rcases List.mem_cons.1 ht with rfl|ht
  .exact h0 z hz
  .have:=h0 z hz;have:=i2 x rfl t ht;omega
noncomputable def atV(s:Sess)(t:Time):List Item×Bool×Unit:=cond (fd s&&(za t&&!Fb s.Front t)) (Od s.Told t,true,()) ([],false,())
theorem fam{s:Sess}(h:fd s=true):Gb s.Told=true:=by
 obtain⟨x,hx⟩:=wI.1 h;rw[hx.told];exact je (qag (Vm hx.flow).batch (uap _ x))
theorem gam{s:Sess}(hs:Sm s)(t:Time):zai s t/\yai s t=atV s t:=by
 have h3:=hs.front;have h4:=hs.told;obtain⟨o1,o2⟩:=Bah hs;obtain⟨b1,b2⟩:=bag s.Front t (by omega);obtain⟨p1,p2⟩:=AM s.Told t (by omega);have tp:=Eah t;have tv:ai t=za t:=Bt t;simp only[zai,yai,iaj,Tr.val,Tr.ob,da,Fl,o2,b2,p2,tv,atV];refine⟨by simp[o1,b1,p1,tp],?_⟩;cases fd s<;>cases za t<;>cases Fb s.Front t<;>rfl
theorem yap{a:List Item}(hl:a.length<=1000):Tah a a/\Zah a a=true:=by
 obtain⟨h1,h2⟩:=pal a a (by omega);exact⟨h1,h2.2 rfl⟩
theorem zap(s:Sess)(t:Time):(atV s t).1.length<=1000:=by
 unfold atV;cases h:fd s with
 |false=>exact Nat.zero_le _
 |true=>
  have:=zak (fam h) t;cases (za t&&!Fb s.Front t)<;>simp<;>omega
theorem Aap{f:List Time}{t:Time}(h:Fb f t=false)(x:List Row):Za (Wa f x) t=Za x t:=by
 unfold Za Wa;rw[List.filter_filter];refine congrArg _ (List.filter_congr λz _=>?_);cases hz:Rc z.At t with
 |false=>simp
 |true=>
  have:Fb f z.At=false:=by
   rw[<-Bool.not_eq_true];intro hh;unfold Fb at hh h;rw[List.any_eq_true]at hh;obtain⟨u,hu,hk⟩:=hh;have:=List.any_eq_false.1 h u hu;exact this (mag hk hz)
  simp[this]
end
section
namespace Ft
open Go Go.Proofs Go.Shelf Go.RowKit Go.Lib Go.Sort Rw
def encI(x:Time):List Value:=[.int .i64 x.A,.int .i64 x.B]
theorem rat:SWO ltT:=by
 constructor
 .intro x;simp[ltT]
 .intro x y z h1 h2;simp only[ltT,Bool.or_eq_true,Bool.and_eq_true,decide_eq_true_eq]at h1 h2⊢;omega
 .intro x y z h1 h2;simp only[ltT,Bool.or_eq_false_iff,Bool.and_eq_false_iff,decide_eq_false_iff_not]at h1 h2⊢;omega
def ttg:TT:=[(3,⟨.scalar,1,[.int .i64 0],some .int,false⟩),(4,⟨.scalar,1,[.bool false],some .bool,false⟩),(27,⟨.slice 32,1,[.nl .time],none,false⟩),
 (32,⟨.struct [(0,1),(1,1)],2,[.int .i64 0,.int .i64 0],some .time,true⟩)]
theorem Be:Ub Tryz.prog ttg:=gm (by kernel_rfl)
theorem gg:Good Tryz.prog ttg []:=⟨Be,(λ_ _ h=>by cases h),by kernel_rfl⟩
theorem tdE:Cb Tryz.prog 32 ⟨.struct [(0,1),(1,1)],2,[.int .i64 0,.int .i64 0],some .time,true⟩:=Be.td _ _ (by kernel_rfl)
noncomputable def C0:Code:=ee Tryz.f41
noncomputable def o8(i:Nat):Oper:=opN (opsOf (nav C0 [1,1,1,0])) i
noncomputable def svT:TypeInfo:=(Tryz.prog.info? 27).get (by kernel_rfl)
noncomputable def svE:TypeInfo:=(Tryz.prog.info? 32).get (by kernel_rfl)
theorem LE(n:Nat)(h2:2<=n):Lib.swapperK n svE 25=9:=by
 have a:svE.hasPointers=false:=by kernel_rfl
 have b:svE.bytes=16:=by kernel_rfl
 have c:(n == 0)=false:=by simp;omega
 have d:(n == 1)=false:=by simp;omega
 simp[Lib.swapperK,a,b,c,d]
end Ft
namespace Ft
open Go Go.Proofs Go.Shelf Go.RowKit Go.Lib Go.Sort Rw
noncomputable def cL:Code:=ee Tryz.f85
noncomputable def oL(i:Nat):Oper:=opN (opsOf (nav cL [1,0])) i
theorem opL:(∀i,i<9->(oL i).dst=some (6+i)/\(oL i).guard=none)/\(oL 9).dst=some 5/\(oL 9).guard=none /\
  (oL 0).op=.load 27 (.tmp 2)/\(oL 1).op=.move (.tmp 0)/\(oL 2).op=.indexAddr 27 (.tmp 6) (.tmp 7)/\(oL 3).op=.load 32 (.tmp 8)/\(oL 4).op=.load 27 (.tmp 2)/\(oL 5).op=.move (.tmp 1) /\
  (oL 6).op=.indexAddr 27 (.tmp 10) (.tmp 11)/\(oL 7).op=.load 32 (.tmp 12)/\(oL 8).op=.call ⟨.value (.func 86),#[.tmp 9,.tmp 13],#[32, 32]⟩/\(oL 9).op=.assign (.tmp 14):=by
 refine⟨λi hi=>?_,by kernel_rfl,by kernel_rfl,by kernel_rfl,by kernel_rfl,by kernel_rfl,by kernel_rfl,by kernel_rfl,by kernel_rfl,by kernel_rfl,by kernel_rfl,by kernel_rfl,by kernel_rfl⟩;rcases (show i=0\/i=1\/i=2\/i=3\/i=4\/i=5\/i=6\/i=7\/i=8 by omega) with rfl|rfl|rfl|rfl|rfl|rfl|rfl|rfl|rfl<;>exact⟨by kernel_rfl,by kernel_rfl⟩
theorem tdT:Cb Tryz.prog 27 ⟨.slice 32,1,[.nl .time],none,false⟩:=Be.td _ _ (by kernel_rfl)
def Uaq(x:Time):Value:=.agg (encI x).toArray
structure JL(a0:Act)(w1:World)(V:Nat->Value)(L:Nat->Bool)(a:Act)(w:World):Prop where
 df:a.defers=[]
 sz:a.tmps.size=a0.tmps.size
 vs:∀i,i<9->L i=true->a.tmps.getD (6+i) undef=V i
 r5:L 9=true->a.tmps.getD 5 undef=V 8
 ot:∀n,n<5->a.tmps.getD n undef=a0.tmps.getD n undef
 wd:∃q,w=later w1 q
theorem JL.put{a0:Act}{w1:World}{V:Nat->Value}{L:Nat->Bool}{a:Act}{w w':World}(h:JL a0 w1 V L a w)(h15:a0.tmps.size=15){i:Nat}(hi:i<9)(hL9:L 9=false)(hw:∃q,w'=later w1 q):JL a0 w1 V (λj=>if j=i then true else L j) (a.put (some (6+i)) (V i)) w':=by
 have hs:6+i<a.tmps.size:=by rw[h.sz];omega
 refine⟨h.df,by rw[xe];exact h.sz,λj hj hL=>?_,λh9=>?_,λn hn=>?_,hw⟩
 .rw[Ga a _ _ hs];by_cases e:j=i
  .rw[if_pos (by omega),e]
  .rw[if_neg (by omega)];exact h.vs j hj (by simpa [e] using hL)
 .have e:¬ (9=i):=by omega
  simp[e,hL9]at h9
 .rw[Ga a _ _ hs,if_neg (by omega)];exact h.ot n hn
set_option maxHeartbeats 1600000 in
theorem JE(blk off c Bs size:Nat)(W:World)(G:Nat->Time)(hs:W.cell? ⟨Bs,0,none⟩=some (.slice (some ⟨blk,off,none⟩) size c))(hb1:blk<W.heap.size)(hb2:Bs<W.heap.size)
  (hk:∀t,t<size->∀j u,(encI (G t))[j]? = some u->W.cell? ⟨blk,off+t*2+j,none⟩=some u) (i j:Nat) (hi:i<size) (hj:j<size) :
  Calls Tryz.prog 85 #[.int .i64 i,.int .i64 j,.pointer (some ⟨Bs,0,none⟩)] W λe w'=>e=.returned (.bool (ltT (G i) (G j)))/\∃q,w'=later W q:=by
 obtain⟨ha,hz,hc,p0,p1,p2,p3,p4,p5,p6,p7,p8,p9⟩:=opL;refine calls_of_wp (fn:=Tryz.f85) (c:=cL) (by kernel_rfl) (by kernel_rfl) ?_;refine ma (c1:=nav cL [0]) (c2:=nav cL [1]) (by kernel_rfl) ?_;refine Gc (l:=[0]) (by kernel_rfl) (by kernel_rfl) ?_;rw[wpOps_cons];refine ra (o:=opN (opsOf (nav cL [0])) 0) (by kernel_rfl) (by kernel_rfl) ?_;refine Ra (tah (v:=.bool false) (by kernel_rfl)) ?_;rw[show(opN (opsOf (nav cL [0])) 0).dst=some 5 by kernel_rfl];refine sc _ ?_;show(nav cL [1]).wp _ _ _ _;refine ma (c1:=nav cL [1,0]) (c2:=nav cL [1,1]) (by kernel_rfl) ?_;generalize hA0:({ tmps:=#[.int .i64 i,.int .i64 j,.pointer (some ⟨Bs,0,none⟩)]++Array.replicate ((Tryz.f85).ntmps - (#[.int .i64 i,.int .i64 j,.pointer (some ⟨Bs,0,none⟩)]:Array Value).size) undef,defers:=[] }:Act)=A0;have hh:A0.tmps.size=15:=by rw[<-hA0];kernel_rfl
 have z0:A0.tmps.getD 0 undef=.int .i64 i:=by rw[<-hA0];kernel_rfl
 have z1:A0.tmps.getD 1 undef=.int .i64 j:=by rw[<-hA0];kernel_rfl
 have z2:A0.tmps.getD 2 undef=.pointer (some ⟨Bs,0,none⟩):=by rw[<-hA0];kernel_rfl
 have zd:A0.defers=[]:=by rw[<-hA0]
 clear hA0;have hy:nav cL [1,0]=.region (Gg (nav cL [1,0])) (opsOf (nav cL [1,0])) true:=by kernel_rfl
 have hsz:(opsOf (nav cL [1,0])).size=10:=by kernel_rfl
 generalize hA1:A0.put (some 5) (.bool false)=A1;have ie:A1.tmps.size=15:=by rw[<-hA1,xe];exact hh
 have y0:A1.tmps.getD 0 undef=.int .i64 i:=by rw[<-hA1,Ga A0 _ _ (by omega),if_neg (by omega)];exact z0
 have y1:A1.tmps.getD 1 undef=.int .i64 j:=by rw[<-hA1,Ga A0 _ _ (by omega),if_neg (by omega)];exact z1
 have y2:A1.tmps.getD 2 undef=.pointer (some ⟨Bs,0,none⟩):=by rw[<-hA1,Ga A0 _ _ (by omega),if_neg (by omega)];exact z2
 have yd:A1.defers=[]:=by rw[<-hA1];exact zd
 clear hA1 z0 z1 z2 zd;let V:Nat->Value:=fun|0=>.slice (some ⟨blk,off,none⟩) size c|1=>.int .i64 i|2=>.pointer (some ⟨blk,off+i*2,none⟩)|3=>Uaq (G i)|4=>.slice (some ⟨blk,off,none⟩) size c|5=>.int .i64 j|6=>.pointer (some ⟨blk,off+j*2,none⟩)|7=>Uaq (G j)|_=>.bool (ltT (G i) (G j));have ix:∀w,(sizeOf 32).run Tryz.prog w=.ok 2 w:=λw=>by kernel_rfl
 have hv:∀(q:Ln) {b:Nat} (n:Nat),b<W.heap.size->(later { W with drawn:=W.drawn+1 } q).cell? ⟨b,n,none⟩=W.cell? ⟨b,n,none⟩:=λq b n hb=>by
  rw[NS (w:={ W with drawn:=W.drawn+1 }) (by exact hb)];rfl
 suffices H:∀QQ:Exit->Act->World->Prop,(∀L a w,(∀i,i<10->L i=true)->JL A1 { W with drawn:=W.drawn+1 } V L a w->QQ .normal a w)->(nav cL [1,0]).wp Tryz.prog QQ A1 W by
  refine H _ λL a' w' ht hJ=>?_;show(nav cL [1,1]).wp _ _ _ _;refine Pi (by kernel_rfl) ?_;obtain⟨q,rfl⟩:=hJ.wd;refine⟨hJ.df,a'.tmps.getD 5 undef,by kernel_rfl,?_,⟨1,#[]⟩+q,?_⟩
  .exact congrArg Ending.returned (hJ.r5 (ht 9 (by omega)))
  .rw[<-nb];rfl
 intro QQ hr;rw[hy];refine wp_region_any gg.hm ?_;refine gE (J:=JL A1 { W with drawn:=W.drawn+1 } V) (by kernel_rfl) ?_ ?_ (opsOf (nav cL [1,0])).size _ A1 _ (by simp) (by simp) ?_ ?_
 .intro L a' w' k o hf hq hE hw hJ next hn;have hg:k<10:=by have:=(Array.getElem?_eq_some_iff.1 hf).1;omega
  have ho:o=oL k:=(Vj hf).symm;have hl:∀m,Hg (oL k) m=true->L m=true:=λm hm=>Uj (by rw[<-ho];exact hE) hm
  have hC:∀k m,k<10->L k=true->Hg (oL k) m=true->L m=true:=λk m hk hL hm=>by
   have ih:k<(opsOf (nav cL [1,0])).size:=by omega
   exact Uj (λe he hb=>hw k (oL k) (by have:=Array.getElem?_eq_getElem ih;rw[this];exact congrArg some (Vj this).symm) hL e he hb) hm
  obtain⟨q,rfl⟩:=hJ.wd;have t0:a'.tmps.getD 0 undef=.int .i64 i:=by rw[hJ.ot 0 (by omega)];exact y0
  have t1:a'.tmps.getD 1 undef=.int .i64 j:=by rw[hJ.ot 1 (by omega)];exact y1
  have t2:a'.tmps.getD 2 undef=.pointer (some ⟨Bs,0,none⟩):=by rw[hJ.ot 2 (by omega)];exact y2
  have hp:k<9->L 9=false:=λhk9=>by
   cases h:L 9 with
   |false=>rfl
   |true=>
    have h9:∀m,m<9->Hg (oL 9) m=true:=λm hm=>by
     rcases (show m=0\/m=1\/m=2\/m=3\/m=4\/m=5\/m=6\/m=7\/m=8 by omega) with rfl|rfl|rfl|rfl|rfl|rfl|rfl|rfl|rfl<;>kernel_rfl
    rw[hC 9 k (by omega) h (h9 k hk9)]at hq;cases hq
  have ju:∀(hi:k<9),(execOp a'.eval (oL k)).run Tryz.prog (later { W with drawn:=W.drawn+1 } q)=.ok (.value (V k)) (later { W with drawn:=W.drawn+1 } q)->wpOp Tryz.prog (opsOf (nav cL [1,0])) QQ k next a' (later { W with drawn:=W.drawn+1 } q):=by
   intro hi io;refine ra hf (by rw[ho];exact(ha k hi).2) ?_;rw[ho];refine Ra io ?_;rw[(ha k hi).1];exact hn _ _ (hJ.put ie hi (hp hi) ⟨q,rfl⟩)
  rcases (show k=0\/k=1\/k=2\/k=3\/k=4\/k=5\/k=6\/k=7\/k=8\/k=9 by omega) with rfl|rfl|rfl|rfl|rfl|rfl|rfl|rfl|rfl|rfl
  .exact ju (by omega) (Ff p0 t2 tdT rfl (by rw[hv q 0 hb2];exact hs))
  .exact ju (by omega) (by rw[Ae p1,t0];rfl)
  .exact ju (by omega) (tT p2 (hJ.vs 0 (by omega) (hl 0 (by kernel_rfl))) (hJ.vs 1 (by omega) (hl 1 (by kernel_rfl))) hi (e:=32) (by kernel_rfl) ix)
  .exact ju (by omega) (ZI p3 (hJ.vs 2 (by omega) (hl 2 (by kernel_rfl))) tdE rfl rfl (λm u hu=>by rw[hv q _ hb1];exact hk i hi m u hu))
  .exact ju (by omega) (Ff p4 t2 tdT rfl (by rw[hv q 0 hb2];exact hs))
  .exact ju (by omega) (by rw[Ae p5,t1];rfl)
  .exact ju (by omega) (tT p6 (hJ.vs 4 (by omega) (hl 4 (by kernel_rfl))) (hJ.vs 5 (by omega) (hl 5 (by kernel_rfl))) hj (e:=32) (by kernel_rfl) ix)
  .exact ju (by omega) (ZI p7 (hJ.vs 6 (by omega) (hl 6 (by kernel_rfl))) tdE rfl rfl (λm u hu=>by rw[hv q _ hb1];exact hk j hj m u hu))
  .refine ra hf (by rw[ho];exact(ha 8 (by omega)).2) ?_;rw[ho];unfold Oper.wp;rw[uah p8 (fn:=Tryz.f86) (by kernel_rfl) (by kernel_rfl) (by kernel_rfl),Oper.upon_enter,show a'.tmps.getD 9 undef=Uaq (G i) from hJ.vs 3 (by omega) (hl 3 (by kernel_rfl)),show a'.tmps.getD 13 undef=Uaq (G j) from hJ.vs 7 (by omega) (hl 7 (by kernel_rfl))];refine(Lah (G i) (G j) _).mono ?_;rintro e w' ⟨rfl,q',rfl⟩;show next _ _;rw[(ha 8 (by omega)).1];exact hn _ _ (hJ.put ie (by omega) (hp (by omega)) ⟨_,nb _ _ _⟩)
  .refine ra hf (by rw[ho];exact hc) ?_;rw[ho];refine Ra (Us p9) ?_;have h8:a'.tmps.getD 14 undef=V 8:=hJ.vs 8 (by omega) (hl 8 (by kernel_rfl));rw[hz,h8];have it:5<a'.tmps.size:=by rw[hJ.sz];omega
   refine hn _ _ ⟨hJ.df,by rw[xe];exact hJ.sz,λm hm hL=>?_,λ_=>?_,λn hn=>?_,q,rfl⟩
   .rw[Ga a' _ _ it,if_neg (by omega)];exact hJ.vs m hm (by simpa [show m≠9 by omega] using hL)
   .rw[Ga a' _ _ it,if_pos rfl]
   .rw[Ga a' _ _ it,if_neg (by omega)];exact hJ.ot n hn
 .intro L a' w' ht hJ;exact hr L a' w' (λi hi=>ht i (by omega)) hJ
 .intro k o ho hL;simp only[Array.getD_eq_getD_getElem?]at hL;by_cases hi:k<(opsOf (nav cL [1,0])).size
  .simp[hi]at hL
  .simp[hi]at hL
 .refine⟨yd,rfl,λk hk hL=>?_,λhL=>?_,λn _=>rfl,⟨0,(re _).symm⟩⟩
  .simp only[Array.getD_eq_getD_getElem?]at hL;simp[hsz,show k<10 by omega]at hL
  .simp[Array.getD_eq_getD_getElem?,hsz]at hL
theorem ME(blk off c Bs:Nat)(d:Array Time)(hsz:d.size<4611686018427387904)(w:World)(hH:HoldsK encI 2 w blk off d)(hblk:blk<w.heap.size)
  (hBs:w.cell? ⟨Bs,0,none⟩=some (.slice (some ⟨blk,off,none⟩) d.size c)) (hB1:Bs<w.heap.size) (hB2:Bs≠blk) :
  Calls Tryz.prog 84 #[.iface 27 (.slice (some ⟨blk,off,none⟩) d.size c),.func (.func 85) #[] #[.pointer (some ⟨Bs,0,none⟩)]] w λe w'=>
   e=.returned (.tuple #[])/\∃(d':Array Time) (n:Nat) (os:Array Obj),d'.toList.Perm d.toList/\(∀i j,i<j->j<d'.size->ltT d'[j]! d'[i]! = false)/\w'=grow (putRowK encI 2 (Sort.ahead w n) blk off d') os:=by
 by_cases h2:2<=d.size
 .have hm:LessReadsK Tryz.prog 85 #[.pointer (some ⟨Bs,0,none⟩)] encI 2 ltT blk off d.size w:=by
   intro m os dk hs i j hi hj
   have e:sortWorldK encI 2 w blk off m dk os=putRowK encI 2 (grow (Sort.ahead w m) os) blk off dk:=by
    unfold sortWorldK;rw[putRowK_grow _ _ (Sort.ahead w m) _ blk off _ hblk]
   have hh:HoldsK encI 2 (grow (Sort.ahead w m) os) blk off d:=holdsK_grow _ _ _ _ blk off d hblk (holdsK_ahead _ _ _ _ _ _ _ hH)
   have hn:w.heap.size<=(sortWorldK encI 2 w blk off m dk os).heap.size:=by
    rw[e,size_putRowK,size_grow];exact Nat.le_add_right _ _
   refine JE blk off c Bs d.size _ (λt=>dk[t]!) ?_ (by omega) (by omega) (λt ht k u hu=>?_) i j hi hj
   .rw[e,cell?_putRowK_other _ _ _ blk off dk _ (by exact hB2),cell?_grow _ _ _ (by exact hB1)];exact hBs
   .have hl:k<2:=by
     have:=(List.getElem?_eq_some_iff.1 hu).1;simpa [encI] using this
    rw[e];have:=((holdsK_putRowK _ _ _ blk off d dk hh hs).cell (i:=t) (c:=k) (by omega) hl).1;rw[this];rcases (show k=0\/k=1 by omega) with rfl|rfl<;>simpa [encI] using hu
  refine(Any.sort_Slice_cells_sorted sl6 27 32 svT svE (by kernel_rfl) (by kernel_rfl) (by kernel_rfl) (by kernel_rfl) 25 (λ_=>by kernel_rfl) encI 2 (λ_=>rfl) (by kernel_rfl) (λ_=>by kernel_rfl)
   (λx v hv=>by simp[encI]at hv;rcases hv with rfl|rfl<;>rfl) ltT rat 85 _
   (enters_of Tryz.func85 (by kernel_rfl) rfl) blk off c d h2 hsz 150 (by rw[LE _ h2];kernel_rfl) false
   (λargs W=>run_callFunc_extern Tryz.func150 (by kernel_rfl) (by kernel_rfl) (by kernel_rfl) (e:=Extern.ReflectliteSwapper.swap false) (by kernel_rfl) args W) w hm hH hblk).mono ?_
  rintro e w' ⟨rfl,d',n,os,hp,hs,rfl⟩;refine⟨rfl,d',n,os,?_,λi j hij hj=>hs i j (Nat.zero_le _) hij (by rw[<-hp.1];exact hj),rfl⟩;have h3:=hp.2.2;have h4:d'.extract 0 d.size=d':=by rw[<-hp.1];simp
  rw[h4]at h3;simpa using h3
 .have hK:∃k,Tryz.prog.funcs.findIdx? (·.name == "internal/reflectlite"++".Swapper$"++toString (Lib.swapperK d.size svE 25))=some k:=by
   rcases Nat.lt_or_ge d.size 1 with h|h
   .have hd:d.size=0:=by omega
    exact⟨142,by rw[hd,show Lib.swapperK 0 svE 25=1 by kernel_rfl];kernel_rfl⟩
   .have hd:d.size=1:=by omega
    exact⟨143,by rw[hd,show Lib.swapperK 1 svE 25=2 by kernel_rfl];kernel_rfl⟩
  obtain⟨k,hk⟩:=hK;refine(Any.sort_Slice_tiny sl6 27 32 svT svE (by kernel_rfl) (by kernel_rfl) (by kernel_rfl) (by kernel_rfl) 25 (λ_=>by kernel_rfl) (some ⟨blk,off,none⟩) d.size c (by omega) k hk (.func 85) #[] _ w).mono ?_;rintro e w' ⟨rfl,os,rfl⟩;refine⟨rfl,d,0,os,.refl _,λi j hij hj=>by omega,?_⟩;rw[show Sort.ahead w 0=w from rfl,putRowK_self encI 2 w blk off d hH]
end Ft
namespace Ft
open Go Go.Sort Go.RowKit Go.Lib Rw
theorem YE{N:NP}{B:Nat}{W0:World}{F0:Fz}{obs:List (Nat×Obj)}{e:Env}{a:Act}{w:World}{s:Nat}{ff:Bool}{out:List Time}(hs:MS N B [] W0 F0 obs e a w)(hg:ca e s=.box [(.acc ff,.lst .time out)]) :
  ∃ Bs sl,a.tmps.getD s undef=.pointer (some ⟨Bs,0,none⟩)/\Blk w Bs [sl]/\B<=Bs/\((out=[]/\sl=.slice none 0 0)\/∃blk cap cs,sl=.slice (some ⟨blk,0,none⟩) out.length cap/\Blk w blk cs/\cs.length=cap*2/\out.length<=cap/\B<=blk/\blk≠Bs /\
    ∀i x,out[i]? = some x->∀j,j<2->cs[i*2+j]? = (encI x)[j]?):=by
 obtain⟨F,ow,hx⟩:=hs.sim.rep;obtain⟨Bs,us,hu,how,hm,_,hlen,hn⟩:=hx.box hg
 match us,hlen with
 |[sl],_=>
  have hh:B<=Bs:=(hx.bd _ _ _ how).2.elim id (λh=>by simp at h);have hk:ya F (lof B ff) w (ow s (some 0)) (.lst .time out) sl:=hn 0 _ sl rfl rfl;obtain⟨ht,hd⟩:=hk;refine⟨Bs,sl,hu,hm,hh,?_⟩;rcases hd with⟨t,e1,e2⟩|⟨t,xs,blk,cap,cs,e1,e2,e3,e4,e5,e6⟩
  .left;have e1:C.lst .time out=.lst t []:=e1;cases e1;exact⟨rfl,e2⟩
  .right;have e1:C.lst .time out=.lst t xs:=e1;cases e1;have hl:B<=blk:=(hx.bd _ _ _ e3).2.elim id (λh=>by simp at h)
   have hq:blk≠Bs:=λe=>by
    subst e;have:=(hx.inj _ _ _ _ _ how e3).2;cases this
   subst e2;cases ht with
   |lst _ _ b o cap vs hb hcap hf hc hr=>
    refine⟨blk,cap,cs,rfl,e4,e5,hcap,hl,hq,λi x hi j hj=>?_⟩;have hp:=(List.getElem?_eq_some_iff.1 hi).1;have h1:=hc i j hp hj;rw[Nat.zero_add,e4.cell]at h1;have h1:cs[i*2+j]? = some (vs i j):=h1;rw[h1];have ho:(cells .time x)[j]? = some ((cells .time x)[j]'(by simp[cells];exact hj)):=List.getElem?_eq_getElem _;have h2:=hr i j x _ hi ho;rcases (show j=0\/j=1 by omega) with rfl|rfl
    .have h2:RC F (lof B ff) w (.int .i64 x.A) (vs i 0):=h2;rw[RC.int_inv h2];rfl
    .have h2:RC F (lof B ff) w (.int .i64 x.B) (vs i 1):=h2;rw[RC.int_inv h2];rfl
theorem holds_of{w:World}{blk cap:Nat}{cs:List Value}{out:List Time}(hb:Blk w blk cs)(hlen:cs.length=cap*2)(hcs:∀i x,out[i]? = some x->∀j,j<2->cs[i*2+j]? = (encI x)[j]?):HoldsK encI 2 w blk 0 out.toArray:=by
 have _:=hlen;intro t ht;rw[size_flatK]at ht
 have hi:t / 2<out.length:=by
  have:out.toArray.size=out.length:=by simp
  omega
 have hj:t % 2<2:=Nat.mod_lt _ (by omega);refine⟨?_,hb.frozen _⟩;rw[Nat.zero_add,hb.cell,get_flatK _ _ _ _ ht];have h1:=hcs (t / 2) out[t / 2] (List.getElem?_eq_getElem hi) (t % 2) hj;rw[show t / 2*2+t % 2=t by omega]at h1;rw[h1];have h2:out.toArray[t / 2]! = out[t / 2]:=by simp[hi]
 rw[h2];have hl:(encI out[t / 2]).length=2:=rfl;rw[List.getElem?_eq_getElem (by omega),getElem!_pos (encI out[t / 2]) (t % 2) (by omega)];rfl
theorem ZE{w:World}{n blk:Nat}{d:Array Time}{k:Nat}(h:k≠blk):(putRowK encI 2 (Sort.ahead w n) blk 0 d).heap[k]? = w.heap[k]?:=by
 show(w.heap.modify blk _)[k]? = _;rw[Array.getElem?_modify,if_neg (λe=>h e.symm)]
theorem aF{w:World}{n blk:Nat}{d:Array Time}:(putRowK encI 2 (Sort.ahead w n) blk 0 d).heap.size=w.heap.size:=by
 show(w.heap.modify blk _).size=_;simp
theorem bF{N:NP}{B:Nat}{W0:World}{F0:Fz}{obs:List (Nat×Obj)}{e:Env}{a a':Act}{w:World}{s:Nat}(ff:Bool){out ys:List Time}(hs:MS N B [] W0 F0 obs e a w)(hL:Live F0 W0){Bs blk cap:Nat}{cs:List Value}
  (hB:Blk w Bs [.slice (some ⟨blk,0,none⟩) out.length cap]) (hBs:B<=Bs) (hb:Blk w blk cs) (hlen:cs.length=cap*2) (hcap:out.length<=cap) (hbl:B<=blk) (hne:blk≠Bs) (hH:HoldsK encI 2 w blk 0 out.toArray)
  (hy:ys.length=out.length) {n:Nat}{os:Array Obj} (hdf:a'.defers=[]) (hsz:a'.tmps.size=N.n) (htm:a'.tmps.getD s undef=.pointer (some ⟨Bs,0,none⟩)) :
  MS ⟨N.n,none,[]⟩ B [] W0 F0 [] [(s,.box [(.acc ff,.lst .time ys)])] a' (grow (putRowK encI 2 (Sort.ahead w n) blk 0 ys.toArray) os):=by
 generalize hw:grow (putRowK encI 2 (Sort.ahead w n) blk 0 ys.toArray) os=w';have ih:(putRowK encI 2 (Sort.ahead w n) blk 0 ys.toArray).heap.size=w.heap.size:=aF;have hold:∀k,k<w.heap.size->k≠blk->w'.heap[k]? = w.heap[k]?:=λk hk h=>by rw[<-hw,Ce (by rw[ih];exact hk),ZE h]
 have io:w.heap.size<=w'.heap.size:=by rw[<-hw];show w.heap.size<=(_++os).size;rw[Array.size_append,ih];omega
 have it:ys.toArray.size=out.toArray.size:=by simp[hy]
 have hq:HoldsK encI 2 (putRowK encI 2 (Sort.ahead w n) blk 0 ys.toArray) blk 0 ys.toArray:=holdsK_putRowK _ _ _ blk 0 out.toArray ys.toArray (holdsK_ahead _ _ _ _ _ _ _ hH) it
 have hz:∀i x,ys[i]? = some x->∀j,j<2->w'.cell? ⟨blk,i*2+j,none⟩=(encI x)[j]?:=by
  intro i x hi j hj;have he:=(List.getElem?_eq_some_iff.1 hi).1;have h1:=(hq.cell (i:=i) (c:=j) (by simpa using he) hj).1;rw[Nat.zero_add]at h1
  have h2:w'.cell? ⟨blk,i*2+j,none⟩=(putRowK encI 2 (Sort.ahead w n) blk 0 ys.toArray).cell? ⟨blk,i*2+j,none⟩:=by
   rw[<-hw];exact cell_of_heap (Ce (by rw[ih];exact hb.lt))
  rw[h2,h1]
  have h3:ys.toArray[i]! = x:=by
   rw[List.getElem?_eq_getElem he]at hi;simp only[Option.some.injEq]at hi;simp[he,hi]
  rw[h3];have hl:(encI x).length=2:=rfl;rw[List.getElem?_eq_getElem (by omega),getElem!_pos (encI x) j (by omega)]
 have hr:∃hh,Blk w' blk hh/\hh.length=cap*2:=by
  obtain⟨t,ht⟩:=hb;refine⟨(putCells id 0 (flatK encI 2 ys.toArray) cs.toArray).toList,⟨t,?_⟩,by simp[putCells,hlen]⟩;rw[<-hw,Ce (by rw[ih];exact(Array.getElem?_eq_some_iff.1 ht).1)];show(w.heap.modify blk _)[blk]? = _;rw[Array.getElem?_modify,if_pos rfl,ht];simp[onCells]
 obtain⟨hh,hr,ha⟩:=hr;have hm:Blk w' Bs [.slice (some ⟨blk,0,none⟩) out.length cap]:=hB.same (hold Bs hB.lt (Ne.symm hne))
 have hg:∀k,k<B->w'.heap[k]? = W0.heap[k]?:=λk hk=>by
  rw[hold k (Nat.lt_of_lt_of_le hk hs.sim.base) (by omega)];exact hs.kept.block k hk (by simp)
 have hf:Kept B [] W0 w':=by
  refine⟨?_,?_,?_,Nat.le_trans hs.kept.size io,λk hk _=>hg k hk,λk o hk hc=>?_⟩
  .rw[<-hw];exact hs.kept.os
  .rw[<-hw];exact hs.kept.tape
  .rw[<-hw];exact hs.kept.output
  .rw[hg k (by rw[hs.hB];exact(Array.getElem?_eq_some_iff.1 hk).1)];exact hk
 have hp:∀b o,F0 b o->b<B:=λb o h=>by rw[hs.hB];exact hL.lt h
 let F':Fz:=λb o=>F0 b o\/(b=blk/\o<out.length*2)
 refine⟨⟨hdf,⟨hsz,(λs h=>by cases h),(λp h=>by cases h)⟩,Nat.le_trans hs.sim.base io,λb o h=>⟨hp b o h,by simp⟩,Kept.refl _ _ _,F',
  λn i=>if n=s then(match i with|none=>some Bs|some 0=>some blk|some _=>none) else none,?_⟩,hf,(λp h=>by cases h),hs.hB⟩
 refine⟨λb o h=>.inl h,λb o h=>h.imp_right (λh=>by omega),λb o h=>?_,λs1 i1 s2 i2 b h1 h2=>?_,λs1 i1 b h1=>?_,λn=>?_⟩
 .rcases h with h|⟨rfl,h⟩
  .rw[cell_of_heap (hg b (hp b o h))];exact hL b o h
  .have hi:o / 2<ys.length:=by omega
   have:=hz (o / 2) ys[o / 2] (List.getElem?_eq_getElem hi) (o % 2) (Nat.mod_lt _ (by omega));rw[show o / 2*2+o % 2=o by omega]at this;rw[this,List.getElem?_eq_getElem (by show _<2;omega)];rfl
 .by_cases e1:s1=s<;>by_cases e2:s2=s<;>simp only[e1,e2,if_true,if_false]at h1 h2
  .refine⟨by rw[e1,e2],?_⟩
   match i1,i2,h1,h2 with
   |none,none,_,_=>rfl
   |none,some 0,h1,h2=>simp at h1 h2;omega
   |some 0,none,h1,h2=>simp at h1 h2;omega
   |some 0,some 0,_,_=>rfl
   |some (_+1),_,h1,_=>simp at h1
   |none,some (_+1),_,h2=>simp at h2
   |some 0,some (_+1),_,h2=>simp at h2
  .simp at h2
  .simp at h1
  .simp at h1
 .by_cases e1:s1=s
  .simp only[e1,if_true]at h1
   match i1,h1 with
   |none,h1=>simp at h1;subst h1;exact⟨hm.lt,.inl hBs⟩
   |some 0,h1=>simp at h1;subst h1;exact⟨hr.lt,.inl hbl⟩
   |some (_+1),h1=>simp at h1
  .simp[e1]at h1
 .simp only[ca];cases hn:Nat.beq s n with
  |false=>trivial
  |true=>
   have:=Nat.eq_of_beq_eq_true hn;subst this;refine⟨Bs,[.slice (some ⟨blk,0,none⟩) out.length cap],htm,by simp,hm,λo h=>?_,rfl,λj kc u hk hu=>?_⟩
   .rcases h with h|⟨h,_⟩
    .have:=hp _ _ h;omega
    .exact hne h.symm
   .match j,hk,hu with
    |0,hk,hu=>
     simp only[List.getElem?_cons_zero,Option.some.injEq]at hk hu;subst hk;subst hu;simp only[if_true];rw[<-hy]
     refine⟨.lst .time ys blk 0 cap (λi j=>(encI (ys.getD i ⟨0,0⟩)).getD j undef) (by cases ff;exact Nat.zero_le _;exact hbl) (by omega) (λi j hi hj=>.inr ⟨rfl,by rw[Nat.zero_add,<-hy];exact Yf hi hj⟩) (λi j hi hj=>?_) (λi j x c hx hc=>?_),
      .inr ⟨.time,ys,blk,cap,hh,rfl,rfl,rfl,hr,ha,λo ho h=>?_⟩⟩
     .have hj:j<2:=hj;have h1:=hz i ys[i] (List.getElem?_eq_getElem hi) j hj;show w'.cell? ⟨blk,0+(i*2+j),none⟩=_;rw[Nat.zero_add,h1];have hl:(encI ys[i]).length=2:=rfl;rw[List.getElem?_eq_getElem (by omega)];simp[List.getD_eq_getElem?_getD,List.getElem?_eq_getElem hi,List.getElem?_eq_getElem (show j<(encI ys[i]).length by omega)]
     .have hv:ys.getD i ⟨0,0⟩=x:=by rw[List.getD_eq_getElem?_getD,hx];rfl
      rw[hv]
      have hj:j<2:=by
       have:=(List.getElem?_eq_some_iff.1 hc).1;simpa [cells] using this
      rcases (show j=0\/j=1 by omega) with rfl|rfl<;>(simp[cells]at hc;subst hc;exact RC.int _ _)
     .rcases h with h|⟨_,h⟩
      .have:=hp _ _ h;omega
      .have ho:ys.length*2<=o:=ho;omega
    |j+1,hk,hu=>simp at hk
end Ft
namespace Ft
open Go Go.Sort Go.RowKit Go.Lib Rw
theorem op8:(o8 0).op=.load 27 (.tmp 5)/\(o8 0).dst=some 22/\(o8 0).guard=none/\(o8 1).op=.makeInterface 27 (.tmp 22)/\(o8 1).dst=some 23/\(o8 1).guard=none /\
  (o8 2).op=.makeFunc (.func 85) #[] #[.tmp 5]/\(o8 2).dst=some 24/\(o8 2).guard=none/\(o8 3).op=.call ⟨.value (.func 84),#[.tmp 23,.tmp 24],#[20, 98]⟩/\(o8 3).dst=some 25/\(o8 3).guard=none:=by
 refine⟨by kernel_rfl,by kernel_rfl,by kernel_rfl,by kernel_rfl,by kernel_rfl,by kernel_rfl,by kernel_rfl,by kernel_rfl,by kernel_rfl,by kernel_rfl,by kernel_rfl,by kernel_rfl⟩
theorem at8:(opsOf (nav C0 [1,1,1,0]))[0]? = some (o8 0)/\(opsOf (nav C0 [1,1,1,0]))[1]? = some (o8 1)/\(opsOf (nav C0 [1,1,1,0]))[2]? = some (o8 2)/\(opsOf (nav C0 [1,1,1,0]))[3]? = some (o8 3) /\
 List.range (opsOf (nav C0 [1,1,1,0])).size=[0,1,2,3]:=⟨by kernel_rfl,by kernel_rfl,by kernel_rfl,by kernel_rfl,by kernel_rfl⟩
def E2(ff:Bool)(out:List Time):Env:=[(5,.box [(.acc ff,.lst .time out)])]
theorem fF{a:Act}{w:World}{o:Oper}(hop:o.op=.load 27 (.tmp 5)){Bs:Nat}{sl:Value}(hx:a.tmps.getD 5 undef=.pointer (some ⟨Bs,0,none⟩))(hb:Blk w Bs [sl]):(execOp a.eval o).run Tryz.prog w=.ok (.value sl) w:=Ff hop hx tdT rfl (by rw[hb.cell];rfl)
set_option maxRecDepth 20000 in
theorem gF(ff:Bool){out:List Time}(hlen:out.length<=1099511627776){Q:Exit->Act->World->Prop}{B:Nat}{W0:World}{F0:Fz}(hL:Live F0 W0){a:Act}{w:World}(hs:MS ⟨54,none,[]⟩ B [] W0 F0 [] (E2 ff out) a w)
  (hQ:∀ys a w,ys.Perm out->(∀i j,i<j->j<ys.length->ltT (ys.getD j ⟨0,0⟩) (ys.getD i ⟨0,0⟩)=false)->MS ⟨54,none,[]⟩ B [] W0 F0 [] (E2 ff ys) a w->Q .normal a w):(nav C0 [1,1,1,0]).wp Tryz.prog Q a w:=by
 obtain⟨p0,d0,g0,p1,d1,g1,p2,d2,g2,p3,d3,g3⟩:=op8;obtain⟨Bs,sl,h6,hB,ho,hu⟩:=YE (s:=5) (ff:=ff) hs rfl;have hsz:a.tmps.size=54:=hs.sim.tmps.size;refine Gc (by kernel_rfl) at8.2.2.2.2 ?_;rw[wpOps_cons];refine ra at8.1 g0 ?_;refine Ra (fF p0 h6 hB) ?_;rw[d0,wpOps_cons];refine ra at8.2.1 g1 ?_;refine Ra (UK p1 (e:=32) (by kernel_rfl)) ?_;rw[d1,wpOps_cons];refine ra at8.2.2.1 g2 ?_;refine Ra (VK p2) ?_;rw[d2,wpOps_cons];refine ra at8.2.2.2.1 g3 ?_;have hm:(a.put (some 22) sl).tmps.getD 22 undef=sl:=by rw[Ga a 22 sl (by omega),if_pos rfl]
 rw[hm];generalize ha1:a.put (some 22) sl=a1;have s1:a1.tmps.size=54:=by rw[<-ha1,xe,hsz]
 have t1:a1.tmps.getD 5 undef=.pointer (some ⟨Bs,0,none⟩):=by rw[<-ha1,Ga a 22 sl (by omega),if_neg (by omega)];exact h6
 have hh:a1.defers=[]:=by rw[<-ha1];exact hs.sim.defers
 generalize ha2:a1.put (some 23) (.iface 27 sl)=a2;have s2:a2.tmps.size=54:=by rw[<-ha2,xe,s1]
 have t2:a2.tmps.getD 5 undef=.pointer (some ⟨Bs,0,none⟩):=by rw[<-ha2,Ga a1 23 _ (by omega),if_neg (by omega)];exact t1
 have v2:a2.tmps.getD 23 undef=.iface 27 sl:=by rw[<-ha2,Ga a1 23 _ (by omega),if_pos rfl]
 have hi:a2.defers=[]:=by rw[<-ha2];exact hh
 rw[t2];generalize ha3:a2.put (some 24) (.func (.func 85) #[] #[.pointer (some ⟨Bs,0,none⟩)])=a3;have s3:a3.tmps.size=54:=by rw[<-ha3,xe,s2]
 have t3:a3.tmps.getD 5 undef=.pointer (some ⟨Bs,0,none⟩):=by rw[<-ha3,Ga a2 24 _ (by omega),if_neg (by omega)];exact t2
 have v3:a3.tmps.getD 23 undef=.iface 27 sl:=by rw[<-ha3,Ga a2 24 _ (by omega),if_neg (by omega)];exact v2
 have u3:a3.tmps.getD 24 undef=.func (.func 85) #[] #[.pointer (some ⟨Bs,0,none⟩)]:=by rw[<-ha3,Ga a2 24 _ (by omega),if_pos rfl]
 have hl:a3.defers=[]:=by rw[<-ha3];exact hi
 unfold Oper.wp;rw[SL p3 bk.1 bk.2.1 bk.2.2,Oper.upon_enter,v3,u3];have s4:∀v,(a3.put (some 25) v).tmps.size=54:=λv=>by rw[xe,s3]
 have t4:∀v,(a3.put (some 25) v).tmps.getD 5 undef=.pointer (some ⟨Bs,0,none⟩):=λv=>by rw[Ga a3 25 _ (by omega),if_neg (by omega)];exact t3
 rcases hu with⟨rfl,rfl⟩|⟨blk,cap,cs,rfl,hb,hv,ht,hr,ha,hw⟩
 .have hK : Tryz.prog.funcs.findIdx? (·.name == "internal/reflectlite"++".Swapper$"++toString (Lib.swapperK 0 svE 25))=some 142:=by
   rw[show Lib.swapperK 0 svE 25=1 by kernel_rfl];kernel_rfl
  refine(Any.sort_Slice_tiny sl6 27 32 svT svE (by kernel_rfl) (by kernel_rfl) (by kernel_rfl) (by kernel_rfl) 25 (λ_=>by kernel_rfl) none 0 0 (by omega) 142 hK (.func 85) #[] _ w).mono ?_;rintro e w' ⟨rfl,os,rfl⟩;show wpOps _ _ _ _ _ _;rw[d3];refine sc _ (hQ [] _ _ (.refl _) (λi j _ h=>by simp at h) ?_);have hg:Pa (λ_ _=>False) w (λ_ _=>False) (grow w os):=⟨rfl,rfl,rfl,by show w.heap.size<=(w.heap++os).size;simp,λk hk=>Ce hk,λ_ _ h=>h,λ_ _ h=>.inl h⟩;obtain⟨F,ow,hx⟩:=hs.sim.rep
  have ih:ga B [] F0 (E2 ff []) (λn=>a.tmps.getD n undef) (grow w os) F ow:=hx.grow hs.sim.base ⟨hg.os,hg.tape,hg.output,hg.size,hg.block,λ_ _ h=>h,λ_ _ h=>.inl h⟩ (λb o h=>by
   rw[cell_of_heap (Ce ((show Live F w from hx.live).lt h))];exact hx.live b o h)
  have hc:Sim ⟨54,none,[]⟩ B [] w F0 (E2 ff []) a (grow w os):=⟨hs.sim.defers,hs.sim.tmps,hs.sim.base,hs.sim.f0,⟨rfl,rfl,rfl,hg.size,λk hk _=>Ce (Nat.lt_of_lt_of_le hk hs.sim.base),λk o hk _=>by
   rw[Ce (Array.getElem?_eq_some_iff.1 hk).1];exact hk⟩,F,ow,ih⟩
  have hz:=hs.of_sim hc;refine hz.tmps (D:=[22,23,24,25]) (by kernel_rfl) (λd hd=>?_) rfl (by rw[show(a3.put (some 25) _).defers=a3.defers from rfl];exact hl) (by rw[s4,hsz]) (λn hn=>?_)
  .simp at hd;rcases hd with rfl|rfl|rfl|rfl<;>exact⟨rfl,rfl⟩
  .simp at hn;rw[Ga a3 25 _ (by omega),if_neg (by omega),<-ha3,Ga a2 24 _ (by omega),if_neg (by omega),<-ha2,Ga a1 23 _ (by omega),if_neg (by omega),<-ha1,Ga a 22 _ (by omega),if_neg (by omega)]
 .have hH:=holds_of hb hv hw;have hd:out.toArray.size=out.length:=by simp
  have hf:=ME blk 0 cap Bs out.toArray (by rw[hd];omega) w hH hb.lt (by rw[hd,hB.cell];rfl) hB.lt (Ne.symm ha);rw[hd]at hf;refine hf.mono ?_;rintro e w' ⟨rfl,d',n,os,hp,he,rfl⟩;show wpOps _ _ _ _ _ _;rw[d3];have hp:d'.toList.Perm out:=by simpa using hp
  have hq:=bF ff (a':=a3.put (some 25) (.tuple #[])) (s:=5) (ys:=d'.toList) (n:=n) (os:=os) hs hL hB ho hb hv ht hr ha hH hp.length_eq hl (s4 _) (t4 _);rw[Array.toArray_toList]at hq;refine sc _ (hQ d'.toList _ _ hp (λi j hij hj=>?_) hq);have hy:j<d'.size:=by simpa using hj
  have:=he i j hij hy;rw[getElem!_pos d' j hy,getElem!_pos d' i (by omega)]at this;rw[List.getD_eq_getElem?_getD,List.getD_eq_getElem?_getD,List.getElem?_eq_getElem hj,List.getElem?_eq_getElem (show i<d'.toList.length by simp;omega)];simpa using this
end Ft
end
section
open Go Rw
structure laq(fr:Fr):Prop where
 io:fr.IoB=[]
 b:fr.B=fr.W0.heap.size
 live:Live fr.F0 fr.W0
theorem sat{P:Program}{tt:TT}{sp:SP}{pts:List PT}{F:Fnn}{o:ib pts->Oc Empty F.rt.T Empty Empty Empty}{ob:ib pts->Prop}{f:Nat}{fn:Func}(G:Good P tt sp)
  (h:∀(x:ib pts) (fr:Fr),laq fr->OkF P tt fn F F.rt.T fr (Pb.mk (o x) (ob x) [] (Wb pts x 0) (λq=>(some (F.rt.av q),.dead)) nE nE nE nE)) (hF:(P.funcs[f]?,fn.name == "runtime.NumGoroutine",fn.body,fn.results,Nat.ble pts.length fn.ntmps,Ya pts 0)=(some fn,false,some (ee fn),F.rs.toArray,true,F.rd):=by kernel_rfl) (hn:F.rd=none:=by exact rfl):Con P f ⟨pts,F.rt,false,λx=>(ocR (o x),0),ob⟩:=by
 obtain⟨rs,rt,rd,fz⟩:=F;cases hn;simp only[Prod.mk.injEq]at hF;obtain⟨h1,h2,h3,h4,h5,h6⟩:=hF;refine fm G.htt h1 h2 h3 h4 h5 (λ_=>h6) λx hp fr hB hL hIO=>?_;have h0:=h x fr ⟨hIO h6,hB,hL⟩ hp;have h6:Ya pts 0=none:=h6;show Ht P ⟨fn.ntmps,Ya pts 0,[]⟩ fr _ _ _ _ _;rw[h6];refine Ht.mono h0 ?_ ?_ ?_
 .rintro e ⟨q,_⟩;exact q.elim
 .rintro e ⟨q,hq,he⟩;have hq:o x=.r q:=hq;have he:Ig tt ⟨rs,rt,none,fz⟩ e=(some (rt.av q),.dead):=he;refine⟨?_,?_⟩
  .show xh tt e rs rt=some (rt.av (ocR (o x)));rw[hq];exact congrArg Prod.fst he
  .exact by unfold Ki;rw[h6];trivial
 .rintro i e (⟨q,_⟩|⟨q,_⟩|⟨q,_⟩)<;>exact q.elim
namespace Ft
def sortT(xs:List Time):List Time:=xs.mergeSort λa b=>!ltT b a
theorem sortT_perm(xs:List Time):(sortT xs).Perm xs:=List.mergeSort_perm _ _
theorem sortT_pw(xs:List Time):(sortT xs).Pairwise λa b=>ltT b a=false:=by
 have h:=List.pairwise_mergeSort (le:=λa b:Time=>!ltT b a) (λa b c h1 h2=>by simp[ltT]at h1 h2⊢;omega) (λa b=>by simp[ltT];omega) xs;exact h.imp λh=>by simpa using h
theorem tat{xs ys:List Time}(hp:ys.Perm xs)(hs:∀i j,i<j->j<ys.length->ltT (ys.getD j ⟨0,0⟩) (ys.getD i ⟨0,0⟩)=false):ys=sortT xs:=by
 refine List.Perm.eq_of_pairwise (le:=λa b:Time=>ltT b a=false) (λa b _ _ h1 h2=>?_) (List.pairwise_iff_getElem.2 λi j hi hj hij=>?_) (sortT_pw xs) (hp.trans (sortT_perm xs).symm)
 .obtain⟨a1,a2⟩:=a;obtain⟨b1,b2⟩:=b;simp only[ltT,Bool.or_eq_false_iff,Bool.and_eq_false_iff,decide_eq_false_iff_not]at h1 h2;have e1:a1=b1:=by omega
  have e2:a2=b2:=by omega
  rw[e1,e2]
 .have:=hs i j hij hj;rwa [List.getD_eq_getElem?_getD,List.getD_eq_getElem?_getD,List.getElem?_eq_getElem hj,List.getElem?_eq_getElem hi]at this
theorem sort_ok{tt:TT}{F:Fnn}{R A X Y Z:Type}{fr:Fr}(H:laq fr){S:Pb R A X Y Z}(ff:Bool){xs:List Time}{q:A}(T:Tr R A X Y Z)
  (hT:T=.w [ba .time xs<=1099511627776] (.l (.n q)):=by exact rfl) (ho:S.o=T.val:=by exact rfl) (hb:S.ob=T.ob:=by exact rfl) (hp:S.path=[0,1,1,1]:=by exact rfl)
  (he:S.env=E2 ff xs:=by exact rfl) (hpn:S.pn q=E2 ff (sortT xs):=by exact rfl):Qc Tryz.prog tt ⟨(Tryz.f41).ntmps,none,[]⟩ fr (ee Tryz.f41) F S:=by
 intro hh a w hs;subst hT;rw[hb]at hh;have hl:ba .time xs<=1099511627776:=hh.1.1;have hn:(Tryz.f41).ntmps=54:=by kernel_rfl
 rw[hp,show Ba (ee Tryz.f41) [0,1,1,1]=nav C0 [1,1,1,0] by kernel_rfl];rw[he]at hs;rw[hn]at hs⊢;obtain⟨B,IoB,W0,F0⟩:=fr;obtain⟨h1,h2,h3⟩:=H;have h1:IoB=[]:=h1;subst h1;refine gF ff (out:=xs) (by unfold ba at hl;omega) h3 (MS.of hs h2) (λys a w hpm hso hms=>?_);rw[tat hpm hso]at hms;exact⟨_,hms.to,q,ho,by rw[hpn];exact xa.refl _⟩
end Ft
end
noncomputable section
set_option maxRecDepth 100000
def Dar:SP:=[(89,By),(44,Of)]
abbrev Oaq:Fnn:=⟨[.tmp 4],.one (.acc false) (.lst .row),some 0,[]⟩
abbrev sas:=@OkP Tryz.f114 Oaq
def Ear(z:LB)(d:Int)(_:LR)(x:Row):TA (LR×Int) (Int×Int×Int×Int×Int×Int):=.k (ia (z,d) 5) λy=>.w [Lb (z,d) 5] (.c (cmp .eql y.1 0) (.k (ia (z,y.2) 2) λa=>.w [Lb (z,y.2) 2,inb a.1 (ba .int [(-1),4])] (.l (.n (a.2,(rd .int [(-1),4] a.1),x.Val,x.At.A,x.At.B,x.Diff))))
 (.c (cmp .eql y.1 1) (.k (ia (z,y.2) 2) λb=>.w [Lb (z,y.2) 2,inb b.1 (ba .int [(-1),100])] (.l (.n (b.2,x.Key,(rd .int [(-1),100] b.1),x.At.A,x.At.B,x.Diff))))
 (.c (cmp .eql y.1 2) (.l (.n (y.2,x.Key,x.Val,(-1),0,x.Diff)))
 (.c (cmp .eql y.1 3) (.k (ia (z,y.2) 2) λc=>.w [Lb (z,y.2) 2,inb c.1 (ba .int [(-100000),100000])] (.l (.n (c.2,x.Key,x.Val,x.At.A,x.At.B,(rd .int [(-100000),100000] c.1)))))
 (.l (.n (y.2,x.Key,x.Val,x.At.A,8,x.Diff)))))))
def Far:=λy a z x=>pcT (Ear y a z x) [0,1,1] [(0,.R y a),(1,.S .row z),(5,.B [x.Key,x.Val,x.At.A,x.At.B,x.Diff])] (rvR Oaq y) (λq=>[(0,.R y q.1),(1,.S .row z),(5,.B [q.2.1,q.2.2.1,q.2.2.2.1,q.2.2.2.2.1,q.2.2.2.2.2])])
theorem iau(G:Gd Dar){fr x y z a}:sas fr (Far x y z a):=ja G
def tas(_:LB)(_:Int)(x:LR)(y z a b c:Int):TA (LR×Int) LR:=.w [lim (ba .row []) (ba .row x),lim (ba .row ([]++x)) (ba .row [(Row.mk y z (Time.mk a b) c)])] (.l (.n (([]++x)++[(Row.mk y z (Time.mk a b) c)])))
def Gar:=λx y z a b c d f=>pcT (tas x y z a b c d f) [0,1,1,1] [(0,.R x y),(1,.S .row z),(5,.B [a,b,c,d,f])] (rvR Oaq x) (λq=>[(0,.R x y),(4,.v (.acc false) (.lst .row q))])
theorem jau(G:Gd Dar){fr x y z a b c d f}:sas fr (Gar x y z a b c d f):=any_ok G [0,4] 20 (tas x y z a b c d f) rfl rfl rfl (by kernel_rfl) (by kernel_rfl) (by kernel_rfl)
def Har(y:(LB×Int))(z:LR):TN (LR×Int):=.k (ug (y.1,y.2)) λa=>.w [Ep (y.1,y.2)] (.sn (Far y.1 a.2 z a.1) (λx=>.sn (Gar y.1 x.1 z x.2.1 x.2.2.1 x.2.2.2.1 x.2.2.2.2.1 x.2.2.2.2.2) (λb=>.l (.r (b,x.1)))))
def kau:=λx y=>pcT (Har x y) [] [(0,.R x.1 x.2),(1,.S .row y)] (rvR Oaq x.1)
theorem lau(G:Gd Dar){fr x y}:sas fr (kau x y):=Nd G [λe=>⟨Far (gL .byte e 0 0) (gI e 0 1) (gL .row e 1 0) (gRow e 5)⟩,λe=>⟨Gar (gL .byte e 0 0) (gI e 0 1) (gL .row e 1 0) (gI e 5 0) (gI e 5 1) (gI e 5 2) (gI e 5 3) (gI e 5 4)⟩] ⟨λ_=>iau G,λ_=>jau G,trivial⟩
def Eaq(x:(LB×Int))(y:LR):LR×Int:=ocR (Har x y).val
def Iar(x:(LB×Int))(y:LR):Prop:=(Har x y).ob
def uas:Spec:=spR [.rdr,(.lst .row)] (.one (.acc false) (.lst .row)) Eaq Iar
theorem mau(G:Gd Dar):CP 114 uas:=Ze (pts:=[.rdr,(.lst .row)]) (F:=Oaq) G (λx=>x.1.1) λ_ _=>lau G
def Sas:SP:=[(112,iH),(44,Of),(114,uas)]
abbrev F79:Fnn:=⟨[.tmp 2],.one (.acc false) (.lst .row),some 0,[]⟩
abbrev nau:=@OkP Tryz.f79 F79
def Jar(x:(LB×Int)):TN (LR×Int):=.k (Zh (x.1,x.2) 10) λy=>.w [Gy (x.1,x.2) 10] (.k (ia (x.1,y.2) 14) λz=>.w [Lb (x.1,y.2) 14] (.c (cmp .eql z.1 0) (.k (Eaq (x.1,z.2) y.1) λa=>.w [Iar (x.1,z.2) y.1] (.l (.r (a.1,a.2))))
 (.l (.r (y.1,z.2)))))
def oau:=λx=>pcT (Jar x) [] [(0,.R x.1 x.2)] (rvR F79 x.1)
theorem pau(G:Gd Sas){fr x}:nau fr (oau x):=ja G
def vaq(x:(LB×Int)):LR×Int:=ocR (Jar x).val
def Kar(x:(LB×Int)):Prop:=(Jar x).ob
def vas:Spec:=spR [.rdr] (.one (.acc false) (.lst .row)) vaq Kar
theorem qau(G:Gd Sas):CP 79 vas:=Ze (pts:=[.rdr]) (F:=F79) G (λx=>x.1.1) λ_ _=>pau G
def Tas:SP:=[(97,pG),(44,Of),(48,rH)]
abbrev F80:Fnn:=⟨[.tmp 2],.one (.acc true) (.lst .time),some 0,[]⟩
abbrev rau:=@OkP Tryz.f80 F80
def Lar(x:(LB×Int)):TN ((List Time)×Int):=.k (Qg (x.1,x.2)) λy=>.w [Su (x.1,x.2)] (.k (ia (x.1,y.2) 12) λz=>.w [Lb (x.1,y.2) 12] (.c (cmp .eql z.1 0) (.k (Qp (x.1,z.2)) λa=>.w [Xy (x.1,z.2),lim (ba .time y.1) (ba .time [a.1])] (.l (.r ((y.1++[a.1]),a.2))))
 (.l (.r (y.1,z.2)))))
def sau:=λx=>pcT (Lar x) [] [(0,.R x.1 x.2)] (rvR F80 x.1)
theorem tau(G:Gd Tas){fr x}:rau fr (sau x):=ja G
def Mar(x:(LB×Int)):(List Time)×Int:=ocR (Lar x).val
def Nar(x:(LB×Int)):Prop:=(Lar x).ob
def xas:Spec:=spR [.rdr] (.one (.acc true) (.lst .time)) Mar Nar
theorem uau(G:Gd Tas):CP 80 xas:=Ze (pts:=[.rdr]) (F:=F80) G (λx=>x.1.1) λ_ _=>tau G
def Uas:SP:=[(42,sN),(79,vas),(80,xas)]
abbrev F36:Fnn:=⟨[.tmp 2,.tmp 3],.tup [(false,(.lst .row)),(false,(.lst .time))],none,[]⟩
abbrev vau:=@OkP Tryz.f36 F36
def Oar(z:LB):TN (LR×(List Time)×Unit):=.k (bG z) λx=>.w [cG z] (.k (vaq (x.1,x.2)) λy=>.w [Kar (x.1,x.2),Nar (x.1,y.2)] (.l (.r (y.1,((Mar (x.1,y.2)).1,())))))
def wau:=λx=>pcT (Oar x) [] [(0,.S .byte x)] (rvF F36)
theorem xau(G:Gd Uas){fr x}:vau fr (wau x):=ja G
def Par(x:LB):LR×(List Time)×Unit:=ocR (Oar x).val
def Qar(x:LB):Prop:=(Oar x).ob
def yas:Spec:=spF [(.lst .byte)] (.tup [(false,(.lst .row)),(false,(.lst .time))]) Par Qar
theorem yau(G:Gd Uas):CP 36 yas:=ua (pts:=[(.lst .byte)]) (F:=F36) G λ_ _=>xau G
def oaq:SP:=[(51,jl)]
abbrev F41:Fnn:=⟨[.tmp 2],.one (.acc true) (.lst .time),none,[]⟩
abbrev raq:=@OkP Tryz.f41 F41
def Rar(y:List Time)(z x:Int):TX (List Time) Int Unit:=.c (cmp .lss x z) (.w [inb x (ba .time y)] (.w [ci (rd .time y x)] (.c (!(ai (rd .time y x))) (.l (.r []))
 (.l (.n (ar .add .i64 x 1))))))
 (.l (.x ()))
def Vas:=λx y z=>pcR (Rar x y z) [0,0,1,0,1] (λq=>[(0,.S .time x),(9,.S .time x),(10,.I y),(11,.I q)]) z (rvF F41) (λ_=>(0,[(0,.S .time x)]))
theorem zau(G:Gd oaq){fr}(_H:laq fr){x y z}:raq fr (Vas x y z):=ja G
def Paq:=λx y=>pcL (λs:Int=>Vas x y s) 0
theorem Aau(G:Gd oaq){fr}(H:laq fr){x y}:raq fr (Paq x y):=Aa λ_=>zau G H
def Was(x:List Time):TA (List Time) Unit:=.sx (Paq x (ba .time x)) (λ_=>.l (.n ()))
def Sar:=λx=>pcT (Was x) [0,1] [(0,.S .time x)] (rvF F41) (λ_=>[(0,.S .time x)])
theorem Bau(G:Gd oaq){fr}(H:laq fr){x}:raq fr (Sar x):=fa G (λe=>⟨Paq (gL .time e 0 0) (gI e 10 0)⟩) λ_=>Aau G H
def zas(x:List Time):TA (List Time) ((List Time)):=.w [ba .time x<=1099511627776] (.l (.n (Ft.sortT x)))
def Tar:=λx=>pcT (zas x) [0,1,1,1] [(5,.box [((.acc false),.lst .time x)])] (rvF F41) (λq=>[(5,.box [((.acc false),.lst .time q)])])
theorem Cau(_G:Gd oaq){fr}(H:laq fr){x}:raq fr (Tar x):=Ft.sort_ok H false (zas x)
def Uar(x y:List Time)(_ z:Int):TA (List Time) ((List Time)):=.w [inb z (ba .time y)] (.w [((!(cmp .eql (ba .time x) 0))&&true)=true->inb (ar .sub .i64 (ba .time x) 1) (ba .time x)] (.c (cond (cmp .eql (ba .time x) 0) true (cmp .lss (rd .time y z).B (rd .time x (ar .sub .i64 (ba .time x) 1)).B)) (.w [lim (ba .time x) (ba .time [(rd .time y z)])] (.l (.n (x++[(rd .time y z)]))))
 (.l (.n x))))
def Var:=λa x y z=>pcT (Uar a x y z) [0,1,1,0,0,1,0,1,1,1,1,1] [(6,.A .time a),(27,.S .time x),(28,.I y),(29,.I z)] (rvF F41) (λq=>[(6,.A .time q),(27,.S .time x),(28,.I y),(29,.I z)])
theorem Dau(G:Gd oaq){fr}(_H:laq fr){x y z a}:raq fr (Var x y z a):=ja G
def War(a:List Time)(y:Int)(z:List Time)(x:Int):TX (List Time) ((List Time)×Int) ((List Time)):=.c (cmp .lss x y) (.sn (Var z a y x) (λb=>.l (.n (b,(ar .add .i64 x 1)))))
 (.l (.x z))
def Xas:=λx y z a=>pcR (War x y z a) [0,0,1,0,1,1,1,1,1] (λq=>[(6,.A .time q.1),(27,.S .time x),(28,.I y),(29,.I q.2)]) (z,a) (rvF F41) (λq=>(2,[(6,.A .time q)]))
theorem Eau(G:Gd oaq){fr}(H:laq fr){x y z a}:raq fr (Xas x y z a):=fa G (λe=>⟨Var (gL .time e 6 0) (gL .time e 27 0) (gI e 28 0) (gI e 29 0)⟩) λ_=>Dau G H
def Qaq:=λx y=>pcL (λs:(List Time)×Int=>Xas x y s.1 s.2) ([],0)
theorem Fau(G:Gd oaq){fr}(H:laq fr){x y}:raq fr (Qaq x y):=Aa λ_=>Eau G H
def Yas(x:List Time):TA (List Time) ((List Time)):=.sx (Qaq x (ba .time x)) (λy=>.l (.n y))
def Xar:=λx=>pcT (Yas x) [0,1,1,1,1,1] [(5,.box [((.acc false),.lst .time x)]),(6,.A .time [])] (rvF F41) (λq=>[(6,.A .time q)])
theorem Gau(G:Gd oaq){fr}(H:laq fr){x}:raq fr (Xar x):=fa G (λe=>⟨Qaq (gL .time e 27 0) (gI e 28 0)⟩) λ_=>Fau G H
def Yar(x:List Time):TN (List Time):=.sn (Sar x) (λ_=>.w [lim (ba .time []) (ba .time x)] (.sn (Tar ([]++x)) (λy=>.sn (Xar y) (λz=>.l (.r z)))))
def Hau:=λx=>pcT (Yar x) [] [(0,.S .time x)] (rvF F41)
theorem Iau(G:Gd oaq){fr}(H:laq fr){x}:raq fr (Hau x):=Nd G [λe=>⟨Sar (gL .time e 0 0)⟩,λe=>⟨Tar (gL .time e 5 0)⟩,λe=>⟨Xar (gL .time e 5 0)⟩] ⟨λ_=>Bau G H,λ_=>Cau G H,λ_=>Gau G H,trivial⟩
def Zar(x:List Time):List Time:=ocR (Yar x).val
def aas(x:List Time):Prop:=(Yar x).ob
def Aas:Spec:=spF [(.lst .time)] (.one (.acc true) (.lst .time)) Zar aas
theorem Jau(G:Gd oaq):CP 41 Aas:=sat (pts:=[(.lst .time)]) (F:=F41) G λ_ _ H=>Iau G H
def taq:SP:=[(54,vH),(81,yq),(41,Aas)]
abbrev F37:Fnn:=⟨[.tmp 4],.one (.acc true) (.lst .time),none,[]⟩
abbrev waq:=@OkP Tryz.f37 F37
def bas(y _:List Time)(a:Time)(_:List Time)(_ _ c:Int)(z:List Time)(x:Int):TX (List Time) ((List Time)×Int) ((List Time)):=.c (cmp .lss x c) (.w [inb x (ba .time y)] (.k (wq a (rd .time y x)) λb=>.w [xq a (rd .time y x),lim (ba .time z) (ba .time [b])] (.l (.n ((z++[b]),(ar .add .i64 x 1))))))
 (.l (.x z))
def Zas:=λx g y z a b c d f=>pcR (bas x g y z a b c d f) [0,0,1,1,0,0,1,1,0,0,1,0,1,1,1] (λq=>[(1,.S .time x),(5,.A .time q.1),(7,.B [y.A,y.B]),(19,.S .time z),(20,.I a),(21,.I b),(25,.S .time x),(26,.I c),(27,.I q.2)]) (d,f) (rvF F37) (λq=>(2,[(1,.S .time x),(5,.A .time q),(19,.S .time z),(20,.I a),(21,.I b)]))
theorem Kau(G:Gd taq){fr x y z a b c d f g}:waq fr (Zas x y z a b c d f g):=ja G
def Raq:=λy x z a b c d=>pcL (λs:(List Time)×Int=>Zas y x z a b c d s.1 s.2) (x,0)
theorem Lau(G:Gd taq){fr x y z a b c d}:waq fr (Raq x y z a b c d):=Aa λ_=>Kau G
def aat(z a x:List Time)(b y:Int):TA (List Time) ((List Time)):=.w [inb y (ba .time x)] (.sx (Raq z a (rd .time x y) x b y (ba .time z)) (λc=>.l (.n c)))
def cas:=λx b y z a=>pcT (aat x b y z a) [0,1,1,0,0,1,0,1,1,1] [(1,.S .time x),(5,.A .time b),(19,.S .time y),(20,.I z),(21,.I a)] (rvF F37) (λq=>[(1,.S .time x),(5,.A .time q),(19,.S .time y),(20,.I z),(21,.I a)])
theorem Mau(G:Gd taq){fr x y z a b}:waq fr (cas x y z a b):=fa G (λe=>⟨Raq (gL .time e 1 0) (gL .time e 5 0) (Pc e 7) (gL .time e 19 0) (gI e 20 0) (gI e 21 0) (gI e 26 0)⟩) λ_=>Lau G
def das(a b:List Time)(y:Int)(z:List Time)(x:Int):TX (List Time) ((List Time)×Int) ((List Time)):=.c (cmp .lss x y) (.sn (cas a z b y x) (λc=>.l (.n (c,(ar .add .i64 x 1)))))
 (.l (.x z))
def bat:=λx y z a b=>pcR (das x y z a b) [0,0,1,0,1,1,1] (λq=>[(1,.S .time x),(5,.A .time q.1),(19,.S .time y),(20,.I z),(21,.I q.2)]) (a,b) (rvF F37) (λq=>(0,[(5,.A .time q)]))
theorem Nau(G:Gd taq){fr x y z a b}:waq fr (bat x y z a b):=fa G (λe=>⟨cas (gL .time e 1 0) (gL .time e 5 0) (gL .time e 19 0) (gI e 20 0) (gI e 21 0)⟩) λ_=>Mau G
def Saq:=λx y z=>pcL (λs:(List Time)×Int=>bat x y z s.1 s.2) ([],0)
theorem Oau(G:Gd taq){fr x y z}:waq fr (Saq x y z):=Aa λ_=>Nau G
def cat(x y:List Time):TA (List Time) ((List Time)):=.sx (Saq y x (ba .time x)) (λz=>.l (.n z))
def eas:=λx y=>pcT (cat x y) [0,1,1,1] [(0,.S .time x),(1,.S .time y),(5,.A .time [])] (rvF F37) (λq=>[(5,.A .time q)])
theorem Pau(G:Gd taq){fr x y}:waq fr (eas x y):=fa G (λe=>⟨Saq (gL .time e 1 0) (gL .time e 19 0) (gI e 20 0)⟩) λ_=>Oau G
def fas(x y:List Time):TN (List Time):=.w [qz x,((!(!(oz x)))&&true)=true->(qz y)] (.c (cond (!(oz x)) true (!(oz y))) (.l (.r []))
 (.sn (eas x y) (λz=>.w [aas z] (.l (.r (Zar z))))))
def Qau:=λx y=>pcT (fas x y) [] [(0,.S .time x),(1,.S .time y)] (rvF F37)
theorem Rau(G:Gd taq){fr x y}:waq fr (Qau x y):=fa G (λe=>⟨eas (gL .time e 0 0) (gL .time e 1 0)⟩) λ_=>Pau G
def maq(x:List Time)(y:List Time):List Time:=ocR (fas x y).val
def gas(x:List Time)(y:List Time):Prop:=(fas x y).ob
def Bas:Spec:=spF [(.lst .time),(.lst .time)] (.one (.acc true) (.lst .time)) maq gas
theorem Sau(G:Gd taq):CP 37 Bas:=ua (pts:=[(.lst .time),(.lst .time)]) (F:=F37) G λ_ _=>Rau G
def Faz:SP:=[(33,oas),(34,pH),(35,ras),(31,qax),(36,yas),(37,Bas),(23,mas),(38,Lak),(17,Hak),(18,Jak)]
abbrev F14:Fnn:=⟨[.tmp 4],.one .fr .bool,none,[]⟩
abbrev Gaz:=@OkP Tryz.f14 F14
def Qaz(_ _:Int)(_:LP)(_:List LR)(x:List Time)(_:LR)(z a:Int)(b:LP)(c:List LR)(d:List Time)(f:LR)(y:List Time):TA Bool (Int×Int×LP×(List LR)×(List Time)×LR×Bool):=.w [gas x y,nar (Sess.mk (Plan.mk z a b) c d f) (maq x y)] (.l (.n ((naq (Sess.mk (Plan.mk z a b) c d f) (maq x y)).1.Plan.Kind,(naq (Sess.mk (Plan.mk z a b) c d f) (maq x y)).1.Plan.Num,(naq (Sess.mk (Plan.mk z a b) c d f) (maq x y)).1.Plan.Kids,(naq (Sess.mk (Plan.mk z a b) c d f) (maq x y)).1.Ins,(naq (Sess.mk (Plan.mk z a b) c d f) (maq x y)).1.Front,(naq (Sess.mk (Plan.mk z a b) c d f) (maq x y)).1.Told,(naq (Sess.mk (Plan.mk z a b) c d f) (maq x y)).2.2.1)))
def Kaz:=λx y z a b c d f g h i j k=>pcT (Qaz x y z a b c d f g h i j k) [0,1,1,1,1,1,1,1] [(5,.box [(.fr,.i x),(.fr,.i y),(.sh,.lst .plan z),(.sh,.lst .lrow a),(.sh,.lst .time b),(.sh,.lst .row c)]),(10,.box [(.fr,.i d),(.fr,.i f),(.sh,.lst .plan g),(.sh,.lst .lrow h),(.sh,.lst .time i),(.sh,.lst .row j)]),(13,.S .time k)] (rvF F14) (λq=>[(5,.box [(.fr,.i x),(.fr,.i y),(.sh,.lst .plan z),(.sh,.lst .lrow a),(.sh,.lst .time b),(.sh,.lst .row c)]),(10,.box [(.fr,.i d),(.fr,.i f),(.sh,.lst .plan g),(.sh,.lst .lrow h),(.sh,.lst .time i),(.sh,.lst .row j)]),(14,.box [(.fr,.i q.1),(.fr,.i q.2.1),(.sh,.lst .plan q.2.2.1),(.sh,.lst .lrow q.2.2.2.1),(.sh,.lst .time q.2.2.2.2.1),(.sh,.lst .row q.2.2.2.2.2.1)]),(16,.O q.2.2.2.2.2.2)])
theorem Uaz(G:Gd Faz){fr x y z a b c d f g h i j k}:Gaz fr (Kaz x y z a b c d f g h i j k):=ym G [5,10,14,16] [5,10,13,14,15,16,77,78,79,80,81,82,83,84,85,86] (Qaz x y z a b c d f g h i j k)
def Raz(_ _:Int)(_:LP)(_:List LR)(_:List Time)(_:LR)(x y:Int)(z:LP)(a:List LR)(b:List Time)(c:LR)(d f:Int)(g:LP)(h:List LR)(i:List Time)(j:LR)(k:Bool):TA Bool (Int×Int×LP×(List LR)×(List Time)×LR):=.c (!k) (.l (.n (x,y,z,a,b,c)))
 (.l (.n (d,f,g,h,i,j)))
def Laz:=λx y z a b c d f g h i j k l m n o p r=>pcT (Raz x y z a b c d f g h i j k l m n o p r) [0,1,1,1,1,1,1,1,1] [(5,.box [(.fr,.i x),(.fr,.i y),(.sh,.lst .plan z),(.sh,.lst .lrow a),(.sh,.lst .time b),(.sh,.lst .row c)]),(10,.box [(.fr,.i d),(.fr,.i f),(.sh,.lst .plan g),(.sh,.lst .lrow h),(.sh,.lst .time i),(.sh,.lst .row j)]),(14,.box [(.fr,.i k),(.fr,.i l),(.sh,.lst .plan m),(.sh,.lst .lrow n),(.sh,.lst .time o),(.sh,.lst .row p)]),(16,.O r)] (rvF F14) (λq=>[(5,.box [(.fr,.i x),(.fr,.i y),(.sh,.lst .plan z),(.sh,.lst .lrow a),(.sh,.lst .time b),(.sh,.lst .row c)]),(14,.box [(.fr,.i q.1),(.fr,.i q.2.1),(.sh,.lst .plan q.2.2.1),(.sh,.lst .lrow q.2.2.2.1),(.sh,.lst .time q.2.2.2.2.1),(.sh,.lst .row q.2.2.2.2.2)])])
theorem Vaz(G:Gd Faz){fr x y z a b c d f g h i j k l m n o p q}:Gaz fr (Laz x y z a b c d f g h i j k l m n o p q):=ja G
def Maz(b c:Int)(d:LP)(f:List LR)(g:List Time)(h:LR)(i j:Int)(k:LP)(l:List LR)(m:List Time)(n:LR)(y:List Time)(x:Int):TX Bool Int Unit:=.c (cmp .lss x (ba .time y)) (.k (yai (Sess.mk (Plan.mk b c d) f g h) (rd .time y x)) λz=>.w [inb x (ba .time y),zai (Sess.mk (Plan.mk b c d) f g h) (rd .time y x)] (.k (yai (Sess.mk (Plan.mk i j k) l m n) (rd .time y x)) λa=>.w [inb x (ba .time y),zai (Sess.mk (Plan.mk i j k) l m n) (rd .time y x)] (.w [((!(!a.2.1))&&(z.2.1&&true))=true->(Tah z.1 a.1)] (.c (cond z.2.1 (cond (!a.2.1) true (!(Zah z.1 a.1))) false) (.l (.r false))
 (.l (.n (ar .add .i64 x 1)))))))
 (.l (.x ()))
def Saz:=λx y z a b c d f g h i j k l=>pcR (Maz x y z a b c d f g h i j k l) [0,0,1,0,1,1,1,1,1,1,1,1,1,1] (λq=>[(5,.box [(.fr,.i x),(.fr,.i y),(.sh,.lst .plan z),(.sh,.lst .lrow a),(.sh,.lst .time b),(.sh,.lst .row c)]),(14,.box [(.fr,.i d),(.fr,.i f),(.sh,.lst .plan g),(.sh,.lst .lrow h),(.sh,.lst .time i),(.sh,.lst .row j)]),(17,.A .time k),(18,.I q)]) l (rvF F14) (λ_=>(0,[]))
theorem Waz(G:Gd Faz){fr x y z a b c d f g h i j k l}:Gaz fr (Saz x y z a b c d f g h i j k l):=ja G
def Haz:=λx y z a b c d f g h i j k=>pcL (λs:Int=>Saz x y z a b c d f g h i j k s) 0
theorem Xaz(G:Gd Faz){fr x y z a b c d f g h i j k}:Gaz fr (Haz x y z a b c d f g h i j k):=Aa λ_=>Waz G
def Naz(x y:Int)(z:LP)(a:List LR)(b:List Time)(c:LR)(d f:Int)(g:LP)(h:List LR)(i:List Time)(j:LR)(k:List Time):TA Bool Unit:=.sx (Haz x y z a b c d f g h i j k) (λ_=>.l (.n ()))
def Iaz:=λx y z a b c d f g h i j k=>pcT (Naz x y z a b c d f g h i j k) [0,1,1,1,1,1,1,1,1,1,1] [(5,.box [(.fr,.i x),(.fr,.i y),(.sh,.lst .plan z),(.sh,.lst .lrow a),(.sh,.lst .time b),(.sh,.lst .row c)]),(14,.box [(.fr,.i d),(.fr,.i f),(.sh,.lst .plan g),(.sh,.lst .lrow h),(.sh,.lst .time i),(.sh,.lst .row j)]),(17,.A .time k)] (rvF F14) (λ_=>[])
theorem Yaz(G:Gd Faz){fr x y z a b c d f g h i j k}:Gaz fr (Iaz x y z a b c d f g h i j k):=fa G (λe=>⟨Haz (gI e 5 0) (gI e 5 1) (gL .plan e 5 2) (gL .lrow e 5 3) (gL .time e 5 4) (gL .row e 5 5) (gI e 14 0) (gI e 14 1) (gL .plan e 14 2) (gL .lrow e 14 3) (gL .time e 14 4) (gL .row e 14 5) (gL .time e 17 0)⟩) λ_=>Xaz G
def Jaz(c d:LB):TN Bool:=.c (cond (cmp .gtr (ba .byte c) 1048576) true (cmp .gtr (ba .byte d) 1048576)) (.l (.r true))
 (.k (uar c) λx=>.w [var c] (.k (vg (sE x.1) x.2.1 x.2.2.1) λz=>.w [Wy (sE x.1) x.2.1 x.2.2.1] (.k (Bar (sE x.1) x.2.1 x.2.2.1) λy=>.w [Car (sE x.1) x.2.1 x.2.2.1] (.k (uaw (sE y.1) (sE z.1)) λf=>.w [((!(!(y.2.1 == z.2.1)))&&true)=true->(naw (sE y.1) (sE z.1))] (.c (cond (cond (!(y.2.1 == z.2.1)) true (!f)) true (!y.2.1)) (.w [((y.2.1 == z.2.1)&&true)=true->(naw (sE y.1) (sE z.1))] (.l (.r (cond (y.2.1 == z.2.1) f false))))
 (.w [Qar d] (.sn (Kaz x.1.Plan.Kind x.1.Plan.Num x.1.Plan.Kids x.1.Ins x.1.Front x.1.Told y.1.Plan.Kind y.1.Plan.Num y.1.Plan.Kids y.1.Ins y.1.Front y.1.Told (Par d).2.1) (λa=>.sn (Laz x.1.Plan.Kind x.1.Plan.Num x.1.Plan.Kids x.1.Ins x.1.Front x.1.Told y.1.Plan.Kind y.1.Plan.Num y.1.Plan.Kids y.1.Ins y.1.Front y.1.Told a.1 a.2.1 a.2.2.1 a.2.2.2.1 a.2.2.2.2.1 a.2.2.2.2.2.1 a.2.2.2.2.2.2) (λb=>.w [raj] (.sn (Iaz x.1.Plan.Kind x.1.Plan.Num x.1.Plan.Kids x.1.Ins x.1.Front x.1.Told b.1 b.2.1 b.2.2.1 b.2.2.2.1 b.2.2.2.2.1 b.2.2.2.2.2 qaj) (λ_=>.l (.r true))))))))))))
def Zaz:=λx y=>pcT (Jaz x y) [] [(0,.S .byte x),(1,.S .byte y)] (rvF F14)
theorem aaA(G:Gd Faz){fr x y}:Gaz fr (Zaz x y):=Nd G [λe=>⟨Kaz (gI e 5 0) (gI e 5 1) (gL .plan e 5 2) (gL .lrow e 5 3) (gL .time e 5 4) (gL .row e 5 5) (gI e 10 0) (gI e 10 1) (gL .plan e 10 2) (gL .lrow e 10 3) (gL .time e 10 4) (gL .row e 10 5) (gL .time e 13 0)⟩,λe=>⟨Laz (gI e 5 0) (gI e 5 1) (gL .plan e 5 2) (gL .lrow e 5 3) (gL .time e 5 4) (gL .row e 5 5) (gI e 10 0) (gI e 10 1) (gL .plan e 10 2) (gL .lrow e 10 3) (gL .time e 10 4) (gL .row e 10 5) (gI e 14 0) (gI e 14 1) (gL .plan e 14 2) (gL .lrow e 14 3) (gL .time e 14 4) (gL .row e 14 5) (gB e 16 0)⟩,λe=>⟨Iaz (gI e 5 0) (gI e 5 1) (gL .plan e 5 2) (gL .lrow e 5 3) (gL .time e 5 4) (gL .row e 5 5) (gI e 14 0) (gI e 14 1) (gL .plan e 14 2) (gL .lrow e 14 3) (gL .time e 14 4) (gL .row e 14 5) (gL .time e 17 0)⟩] ⟨λ_=>Uaz G,λ_=>Vaz G,λ_=>Yaz G,trivial⟩
def Oaz(x:LB)(y:LB):Bool:=ocR (Jaz x y).val
def Paz(x:LB)(y:LB):Prop:=(Jaz x y).ob
def Taz:Spec:=spF [(.lst .byte),(.lst .byte)] (.one .fr .bool) Oaz Paz
theorem baA(G:Gd Faz):CP 14 Taz:=ua (pts:=[(.lst .byte),(.lst .byte)]) (F:=F14) G λ_ _=>aaA G
end
section
open Go Tg
theorem rav{b:List Int}(hb:Sc b){p:Int}(hp:0<=p/\p<=700000){xs:List Row}(hl:xs.length<=100) :
  Iar (b,p) xs/\p<=(Eaq (b,p) xs).2/\(Eaq (b,p) xs).2<=p+10/\∃x:Row,(Eaq (b,p) xs).1=xs++[x]/\((-3<=x.Diff/\x.Diff<=3)\/x.Diff=100000\/x.Diff=-100000):=by
 obtain⟨a1,a2,a3,a4⟩:=gM hb (p:=p) (by omega);generalize hR:ug (b,p)=R at a2 a3 a4;obtain⟨c1,c2,c3,c4⟩:=Eb hb (p:=R.2) (n:=5) (by omega) (by omega);obtain⟨d1,d2,d3,d4⟩:=Eb hb (p:=R.2+1) (n:=2) (by omega) (by omega);have hh:∀u v:Int,inb (ia (b,R.2+1) 2).1 (ba .int [u,v]):=λu v=>⟨d3,d4⟩
 have key:(Ear b R.2 xs R.1).ob/\∃q k v s t d,(Ear b R.2 xs R.1).val=.n (q,k,v,s,t,d)/\R.2<=q/\q<=R.2+3/\((-3<=d/\d<=3)\/d=100000\/d=-100000):=by
  simp only[Ear,Tr.val,Tr.ob,da,c2,xb];generalize (ia (b,R.2) 5).1=i at c3 c4;have hi:i=0\/i=1\/i=2\/i=3\/i=4:=by omega
  rcases hi with rfl|rfl|rfl|rfl|rfl
  .exact⟨by simp[c1,d1,hh],_,_,_,_,_,_,rfl,by omega,by omega,.inl ⟨a3,a4⟩⟩
  .exact⟨by simp[c1,d1,hh],_,_,_,_,_,_,rfl,by omega,by omega,.inl ⟨a3,a4⟩⟩
  .exact⟨by simp[c1],_,_,_,_,_,_,rfl,by omega,by omega,.inl ⟨a3,a4⟩⟩
  .refine⟨by simp[c1,d1,hh],_,_,_,_,_,_,rfl,by omega,by omega,?_⟩;generalize (ia (b,R.2+1) 2).1=j at d3 d4;have hj:j=0\/j=1:=by omega
   rcases hj with rfl|rfl
   .exact .inr (.inr rfl)
   .exact .inr (.inl rfl)
  .exact⟨by simp[c1],_,_,_,_,_,_,rfl,by omega,by omega,.inl ⟨a3,a4⟩⟩
 obtain⟨k1,q,k,v,s,t,d,k2,k3,k4,k5⟩:=key;have l1:lim (ba .row []) (ba .row xs):=lF (t:=.row) (o:=[]) (u:=xs) (by simp;omega);have l2:∀y,lim (ba .row xs) (ba .row [y]):=λy=>yb (t:=.row) (show xs.length<1099511627776 by omega);simp only[Iar,Eaq,Har,Far,Gar,tas,pcT,Tr.val,Tr.ob,da,hR,k2,List.nil_append,ocR];exact⟨by simp[a1,k1,l1,l2],by omega,by omega,_,rfl,k5⟩
structure Few(a:List Row):Prop where
 len:a.length<=20
 big:∀x∈a,-100000<=x.Diff/\x.Diff<=100000
theorem sav{b:List Int}(hb:Sc b){p:Int}(hp:0<=p/\p<=400000) :
  Kar (b,p)/\p<=(vaq (b,p)).2/\(vaq (b,p)).2<=p+200/\Few (vaq (b,p)).1:=by
 obtain⟨a1,a2,a3,a4,a5⟩:=rW hb (p:=p) (m:=10) (by omega) (by omega);generalize hR:Zh (b,p) 10=R at a2 a3 a4 a5;obtain⟨c1,c2,c3,c4⟩:=Eb hb (p:=R.2) (n:=14) (by omega) (by omega);obtain⟨d1,d2,d3,x,d4,d5⟩:=rav hb (p:=R.2+1) (by omega) (xs:=R.1) (by omega);simp only[Kar,vaq,Jar,Tr.val,Tr.ob,da,hR,c2];cases hc:cmp .eql (ia (b,R.2) 14).1 0 with
 |true=>
  simp only[ocR,d4];refine⟨by simp[a1,c1,d1],by omega,by omega,⟨by simp;omega,λy hy=>?_⟩⟩;rcases List.mem_append.1 hy with h|h
  .have:=a5 y h;omega
  .simp at h;subst h;omega
 |false=>
  simp only[ocR];exact⟨by simp[a1,c1],by omega,by omega,⟨by omega,λy hy=>by have:=a5 y hy;omega⟩⟩
theorem tav{b:List Int}(hb:Sc b){p:Int}(hp:0<=p/\p<=400000):Nar (b,p)/\(Mar (b,p)).1.length<=65:=by
 obtain⟨a1,a2,a3,a4⟩:=SX hb (p:=p) (by omega);generalize hF:Qg (b,p)=F at a2 a3 a4;obtain⟨c1,c2,c3,c4⟩:=Eb hb (p:=F.2) (n:=12) (by omega) (by omega);have d1:=UX hb (p:=F.2+1) (by omega);have hh:∀w,lim (ba .time F.1) (ba .time [w]):=λw=>yb (t:=.time) (show F.1.length<1099511627776 by omega);simp only[Nar,Mar,Lar,Tr.val,Tr.ob,da,hF,c2];refine⟨by simp[a1,c1,d1,hh],?_⟩;cases cmp .eql (ia (b,F.2) 12).1 0 with
 |true=>simp only[ocR,List.length_append,List.length_singleton];omega
 |false=>simp only[ocR];omega
theorem uav{c:List Int}(hc:∀x∈c,0<=x/\x<=255):Qar c/\∃e f,Par c=(e,f,())/\f.length<=65:=by
 obtain⟨o1,b,o2,hb⟩:=xah hc;obtain⟨g1,g2,g3,g4⟩:=sav hb (p:=0) (by omega);obtain⟨h1,h2⟩:=tav hb (p:=(vaq (b,0)).2) (by omega);simp only[Qar,Par,Oar,Tr.val,Tr.ob,da,o2,ocR];exact⟨by simp[o1,g1,h1],_,_,rfl,h2⟩
def Faq(o:List Time)(t:Time):List Time:=match o.getLast? with
 |none=>o++[t]
 |some u=>if t.B<u.B then o++[t] else o
def daq(l:List Time):List Time:=l.foldl Faq []
theorem Fas(l:List Time)(t:Time):daq (l++[t])=Faq (daq l) t:=by unfold daq;rw[List.foldl_append];rfl
theorem vav(o:List Time)(t:Time):(Faq o t).length<=o.length+1:=by
 unfold Faq;split
 .simp
 .split<;>simp
theorem Gas{α:Type}{P:List α->Prop}(h0:P [])(h1:∀l x,P l->P (l++[x]))(l:List α):P l:=by
 have:∀n (l:List α),l.length=n->P l:=by
  intro n
  induction n with
  |zero=>intro l hl;rw[List.eq_nil_of_length_eq_zero hl];exact h0
  |succ n ih=>
   intro l hl;have hh:l≠[]:=λe=>by rw[e]at hl;cases hl
   rw[<-List.dropLast_concat_getLast hh];exact h1 _ _ (ih _ (by rw[List.length_dropLast,hl];rfl))
 exact this _ l rfl
theorem wav(l:List Time):(daq l).length<=l.length:=by
 refine Gas (P:=λl=>(daq l).length<=l.length) (Nat.le_refl _) (λl t ih=>?_) l;rw[Fas,List.length_append];have:=vav (daq l) t;simp;omega
theorem mat:∀ {f:List Time}{y:Option Time},f.Pairwise (λs t=>s.A<t.A/\t.B<s.B)->(∀x∈f,za x=true)->(∀z,y=some z->∀x∈f,z.A<x.A/\x.B<z.B)->ub Nf y f=true
 |[],_,_,_,_=>rfl
 |x::r,y,h1,h2,h3=>by
  rw[List.pairwise_cons]at h1;simp only[ub,Nf,Bool.and_eq_true,Bool.not_eq_true',Bool.or_eq_false_iff];refine⟨⟨by simpa using h2 x (by simp),?_⟩,mat h1.2 (λz hz=>h2 z (by simp[hz])) λz hz t ht=>by cases hz;exact h1.1 t ht⟩;cases y with
  |none=>rfl
  |some z=>
   have:=h3 z rfl x (by simp);simp only[Bool.or_eq_false_iff,decide_eq_false_iff_not];omega
structure Least(l o:List Time):Prop where
 pw:o.Pairwise (λs t=>s.A<t.A/\t.B<s.B)
 sub:∀t∈o,t∈l
 cov:∀t∈l,∃u∈o,Rc u t=true
 low:∀u,o.getLast? = some u->(∀s∈o,u.B<=s.B/\s.A<=u.A)
theorem xav(l:List Time):l.Pairwise (λa b=>Rw.ltT b a=false)->Least l (daq l):=by
 refine Gas (P:=λl=>l.Pairwise (λa b=>Rw.ltT b a=false)->Least l (daq l)) (λ_=>⟨.nil,λt h=>(nomatch h),λt h=>(nomatch h),λu h=>(nomatch h)⟩) (λl t ih hp=>?_) l;rw[List.pairwise_append]at hp;obtain⟨h1,_,h3⟩:=hp;obtain⟨i1,i2,i3,i4⟩:=ih h1
 have hh:∀s∈daq l,s.A<=t.A/\(s.A=t.A->s.B<=t.B):=λs hs=>by
  have:=h3 s (i2 s hs) t (by simp);simp only[Rw.ltT,Bool.or_eq_false_iff,Bool.and_eq_false_iff,decide_eq_false_iff_not]at this;omega
 have hj:Rc t t=true:=by simp[Rc]
 rw[Fas];unfold Faq;cases hl:(daq l).getLast? with
 |none=>
  have he:daq l=[]:=by simpa using hl
  simp only[];rw[he];refine⟨by simp,λs hs=>by simp at hs;simp[hs],λs hs=>?_,λu hu s hs=>by simp at hu hs;subst hu;subst hs;omega⟩;rcases List.mem_append.1 hs with hs|hs
  .obtain⟨u,hu,_⟩:=i3 s hs;rw[he]at hu;cases hu
  .simp at hs;subst hs;exact⟨s,by simp,hj⟩
 |some u=>
  have hu:u∈daq l:=List.mem_of_getLast? hl;have hi:=i4 u hl;simp only[];split
  .rename_i hlt;refine⟨List.pairwise_append.2 ⟨i1,by simp,λs hs x hx=>?_⟩,λs hs=>?_,λs hs=>?_,λv hv s hs=>?_⟩
   .simp at hx;subst hx;have:=hh s hs;have:=hi s hs;have:=hh u hu;omega
   .rcases List.mem_append.1 hs with hs|hs
    .simp[i2 s hs]
    .simp at hs;simp[hs]
   .rcases List.mem_append.1 hs with hs|hs
    .obtain⟨v,hv,h⟩:=i3 s hs;exact⟨v,by simp[hv],h⟩
    .simp at hs;subst hs;exact⟨s,by simp,hj⟩
   .simp at hv;subst hv;rcases List.mem_append.1 hs with hs|hs
    .have:=hh s hs;have:=hi s hs;omega
    .simp at hs;subst hs;omega
  .rename_i hge;refine⟨i1,λs hs=>by simp[i2 s hs],λs hs=>?_,λv hv s hs=>i4 v hv s hs⟩;rcases List.mem_append.1 hs with hs|hs
   .exact i3 s hs
   .simp at hs;subst hs;have:=hh u hu;exact⟨u,hu,by simp only[Rc,Bool.and_eq_true,decide_eq_true_eq];omega⟩
def xaq(l:List Time):List Time:=if l.all za=true then daq (Ft.sortT l) else []
theorem yav{l:List Time}(hl:l.length<=10000000):aas l/\Zar l=xaq l:=by
 have k2:Ea (λj:Int=>Rar l (ba .time l) j) 0 (if ub (λ_ t=>!za t) none l=true then .x () else .r []):=by
  refine la.scan l _ (λa x r hx=>?_) ?_
  .obtain⟨hlen,hr,hk,hn⟩:=Qa (t:=.time) hx;have tp:=Eah x;have tv:ai x=za x:=Bt x;simp only[Rar,Tr.val,Tr.ob,da,hn,hr,tv,Ia (l:=a) (by omega)];refine⟨by simp[hk,tp],?_⟩;cases za x<;>rfl
  .have hj:cmp .lss (l.length:Int) (ba .time l)=false:=Na (t:=.time);simp only[Rar,Tr.val,Tr.ob,da,hj];exact⟨by simp,rfl⟩
 rw[Og]at k2;have a2:(Paq l (ba .time l)).o=_:=k2.v;have b2:(Paq l (ba .time l)).ob:=k2.t;generalize hS:Ft.sortT l=S;have hh:S.length=l.length:=by rw[<-hS];exact(Ft.sortT_perm l).length_eq
 have k5:Ea (λs:List Time×Int=>War S (ba .time S) s.1 s.2) ([],0) (.x (daq S)):=by
  refine la.fold S (λi b=>(b,(i:Int))) (λa=>daq a) rfl (λa x r hx=>?_) ?_
  .obtain⟨hlen,hr,hk,hn⟩:=Qa (t:=.time) hx;have hi:=wav a;have hm:∀w,lim (ba .time (daq a)) (ba .time [w]):=λw=>yb (t:=.time) (show(daq a).length<1099511627776 by omega)
   have e:(Uar (daq a) S (ba .time S) a.length).ob/\(Uar (daq a) S (ba .time S) a.length).val=.n (daq (a++[x])):=by
    rw[Fas];generalize daq a=o at hi hm;simp only[Uar,Tr.val,Tr.ob,da,hr];cases ho:o.getLast? with
    |none=>
     have he:o=[]:=by simpa using ho
     subst he;have h0:cmp .eql (ba .time []) 0=true:=rfl;rw[h0];exact⟨by simp[hk,hm],rfl⟩
    |some u=>
     have hp:o≠[]:=λe=>by rw[e]at ho;cases ho
     have hq:0<o.length:=List.length_pos_iff.2 hp;have hz:cmp .eql (ba .time o) 0=false:=by rw[xb];unfold ba;simp;omega
     have hs:ar .sub .i64 (ba .time o) 1=((o.length - 1:Nat):Int):=by rw[bf (by unfold ba;omega)];unfold ba;omega
     have hg:o[o.length - 1]? = some u:=by rw[<-List.getLast?_eq_getElem?];exact ho
     obtain⟨g1,g2⟩:=tC (t:=.time) hg;rw[hz,hs,g1];refine⟨by simp[hk,hm,g2],?_⟩;unfold Faq;rw[ho,Yb];by_cases hlt:x.B<u.B<;>simp[hlt]
   obtain⟨e1,e2⟩:=e;simp only[War,Var,pcT,Tr.val,Tr.ob,hn,e2,Ia (l:=a) (by omega)];exact⟨by simp[e1],rfl⟩
  .have hj:cmp .lss (S.length:Int) (ba .time S)=false:=Na (t:=.time);simp only[War,Tr.val,Tr.ob,hj];exact⟨by simp,rfl⟩
 have a5:(Qaq S (ba .time S)).o=_:=k5.v;have b5:(Qaq S (ba .time S)).ob:=k5.t;have hu:lim (ba .time []) (ba .time l):=by unfold lim ba;simp;omega
 have ht:ba .time l<=1099511627776:=by unfold ba;omega
 simp only[aas,Zar,Yar,Sar,Was,Tar,zas,Xar,Yas,pcT,Tr.val,Tr.ob,da,List.nil_append,a2,hS,a5];unfold xaq;rw[hS];cases (l.all λt=>za t) with
 |false=>exact⟨by simp[b2,hu,ht],rfl⟩
 |true=>exact⟨by simp[b2,hu,ht,b5],rfl⟩
def haq(g:List Time)(f:List Time):List Time:=f.flatMap λs=>g.map λt=>gb s t
theorem nat(g l:List Time)(x:Time):haq g (l++[x])=haq g l++g.map λt=>gb x t:=by unfold haq;rw[List.flatMap_append];simp
theorem oat(g:List Time)(f:List Time):(haq g f).length=f.length*g.length:=by
 refine Gas (P:=λf=>(haq g f).length=f.length*g.length) (by simp[haq]) (λl x ih=>?_) f;rw[nat,List.length_append,ih,List.length_map,List.length_append,List.length_singleton,Nat.add_mul,Nat.one_mul]
def kaq(f g:List Time):List Time:=cond (Sd f&&Sd g) (xaq (haq g f)) []
theorem zav{l:List Time}(h:∀t∈l,za t=true):Sd (xaq l)=true/\(∀t∈xaq l,t∈l)/\∀t∈l,Fb (xaq l) t=true:=by
 have hh:l.all za=true:=List.all_eq_true.2 h;have hp:=xav (Ft.sortT l) (Ft.sortT_pw l);have hm:∀t,t∈Ft.sortT l↔t∈l:=λt=>(Ft.sortT_perm l).mem_iff;unfold xaq;rw[if_pos hh];refine⟨mat hp.pw (λx hx=>h x ((hm x).1 (hp.sub x hx))) (λz hz=>nomatch hz),λt ht=>(hm t).1 (hp.sub t ht),λt ht=>?_⟩;obtain⟨u,hu,hk⟩:=hp.cov t ((hm t).2 ht);unfold Fb;rw[List.any_eq_true];exact⟨u,hu,hk⟩
theorem Aav{f g:List Time}{t:Time}(h:t∈haq g f):∃s∈f,∃u∈g,t=gb s u:=by
 unfold haq at h;obtain⟨s,hs,h⟩:=List.mem_flatMap.1 h;obtain⟨u,hu,h⟩:=List.mem_map.1 h;exact⟨s,hs,u,hu,h.symm⟩
theorem Bav{f g:List Time}(hf:f.length<=1000)(hg:g.length<=1000):gas f g/\maq f g=kaq f g:=by
 obtain⟨f1,f2⟩:=IX f (by omega);obtain⟨g1,g2⟩:=IX g (by omega);simp only[gas,maq,fas,eas,cat,pcT,Tr.val,Tr.ob,da,f2,g2];unfold kaq;cases hF:Sd f with
 |false=>exact⟨by simp[f1],rfl⟩
 |true=>
  cases hG:Sd g with
  |false=>exact⟨by simp[f1,g1],rfl⟩
  |true=>
   have ho:∀n,n<=f.length->n*g.length<=1000000:=λn hn=>Nat.le_trans (Nat.mul_le_mul (Nat.le_trans hn hf) hg) (by decide)
   have k4:∀(m:List Time) (s:Time) (i:Int),za s=true->m.length<=1000000->(Raq g m s f (ba .time f) i (ba .time g)).ob/\(Raq g m s f (ba .time f) i (ba .time g)).o=.x (m++g.map λt=>gb s t):=by
    intro m s i hs hm
    have k:Ea (λq:List Time×Int=>bas g m s f (ba .time f) i (ba .time g) q.1 q.2) (m,0) (.x (m++g.map λt=>gb s t)):=by
     refine la.fold g (λi b=>(b,(i:Int))) (λl=>m++l.map λt=>gb s t) (by simp) (λl x r hx=>?_) ?_
     .obtain⟨hlen,hp,hi,hl⟩:=Qa (t:=.time) hx;obtain⟨j1,j2⟩:=JF hs (YF hG x (by rw[hx];simp));have hk:∀w,lim (ba .time (m++l.map λt=>gb s t)) (ba .time [w]):=λw=>yb (t:=.time) (show(m++l.map λt=>gb s t).length<1099511627776 by rw[List.length_append,List.length_map];omega);simp only[bas,Tr.val,Tr.ob,da,hl,hp,j2,Ia (l:=l) (by omega)];exact⟨by simp[hi,j1,hk,-List.map_append],by simp[ka]⟩
     .have hh:cmp .lss (g.length:Int) (ba .time g)=false:=Na (t:=.time);simp only[bas,Tr.val,Tr.ob,hh];exact⟨by simp,rfl⟩
    exact⟨k.t,k.v⟩
   have k:Ea (λq:List Time×Int=>das g f (ba .time f) q.1 q.2) ([],0) (.x (haq g f)):=by
    refine la.fold f (λi b=>(b,(i:Int))) (λl=>haq g l) rfl (λl x r hx=>?_) ?_
    .obtain⟨hlen,hp,hi,hl⟩:=Qa (t:=.time) hx;have hj:=oat g l;obtain⟨c1,c2⟩:=k4 (haq g l) x l.length (YF hF x (by rw[hx];simp)) (by have:=ho l.length (by omega);omega);simp only[das,cas,aat,pcT,Tr.val,Tr.ob,da,hl,hp,c2,nat,Ia (l:=l) (by omega)];exact⟨by simp[hi,c1],rfl⟩
    .have hh:cmp .lss (f.length:Int) (ba .time f)=false:=Na (t:=.time);simp only[das,Tr.val,Tr.ob,hh];exact⟨by simp,rfl⟩
   have a2:(Saq g f (ba .time f)).o=.x (haq g f):=k.v;have b2:(Saq g f (ba .time f)).ob:=k.t;have hj:=oat g f;obtain⟨o1,o2⟩:=yav (l:=haq g f) (by have:=ho f.length (Nat.le_refl _);omega);simp only[a2,o2];exact⟨by simp[f1,g1,b2,o1],rfl⟩
theorem qat:∀ {f:List Time}{k:Int},k<=8->f.Pairwise (λs t=>s.A<t.A/\t.B<s.B)->(∀t∈f,k<=t.A/\t.A<=7)->(f.length:Int)<=8 - k
 |[],k,hk,_,_=>by simp;omega
 |x::r,k,hk,hp,h=>by
  rw[List.pairwise_cons]at hp;have hx:=h x (by simp)
  have:=qat (f:=r) (k:=x.A+1) (by omega) hp.2 λt ht=>by
   have:=hp.1 t ht;have:=h t (by simp[ht]);omega
  rw[List.length_cons];omega
theorem Cav{f:List Time}(h:Sd f=true):f.length<=8:=by
 have:=qat (k:=0) (by omega) (lat h).1 λt ht=>by
  have:=YF h t ht;simp only[za,decide_eq_true_eq]at this;omega
 omega
theorem Dav(f g:List Time):Sd (kaq f g)=true:=by
 unfold kaq;cases hf:Sd f with
 |false=>rfl
 |true=>
  cases hg:Sd g with
  |false=>rfl
  |true=>
   exact(zav λt ht=>by
    obtain⟨s,hs,u,hu,rfl⟩:=Aav ht;exact uat (YF hf s hs) (YF hg u hu)).1
theorem Eav(f g:List Time):(kaq f g).length<=8:=Cav (Dav f g)
theorem daA(c e:List Int)(hc:∀x∈c,0<=x/\x<=255)(he:∀x∈e,0<=x/\x<=255):Paz c e/\Oaz c e=true:=by
 by_cases hk:cond (cmp .gtr (ba .byte c) 1048576) true (cmp .gtr (ba .byte e) 1048576)=true
 .simp only[Paz,Oaz,Jaz,hk,ocR,Tr.val,Tr.ob];exact⟨by simp,trivial⟩
 .have hk:cond (cmp .gtr (ba .byte c) 1048576) true (cmp .gtr (ba .byte e) 1048576)=false:=by simpa using hk
  obtain⟨d1,s,i,rows,d2,hs,hl,hb⟩:=oav hc;obtain⟨m1,ex,g,m2,m3⟩:=uav he;obtain⟨e1,e2⟩:=lag hs i (rows:=rows) (by omega);obtain⟨f1,f2⟩:=lav hs i (rows:=rows) (by omega);obtain⟨b1,b2⟩:=Bav hs.front (g:=g) (by omega);have hn:=Eav s.Front g;obtain⟨w1,w2⟩:=gan;simp only[Paz,Oaz,Jaz,Kaz,Qaz,Laz,Raz,pcT,Tr.val,Tr.ob,da,hk,d2,m2,Fl,e2,f2,b2,w2];cases h:inS s i rows with
  |none=>simp[xI,d1,e1,f1,Kax.1,Kax.2,ocR]
  |some s'=>
   obtain⟨h1,h2,h3,h4,h5,h6,h7⟩:=Aag h;have hv:=pav hs h;obtain⟨g1,g2⟩:=Jax hv (Zay h6);obtain⟨n1,n2⟩:=mav hv (f:=kaq s.Front g) (by omega);generalize kaq s.Front g=m at hn n1 n2 b1 b2;have eT:s'.Told=s.Told:=by rw[h7];rfl
   have eF:s'.Front=s.Front:=by rw[h7];rfl
   obtain⟨x,hx⟩:=wI.1 h6
   have key:∀y:Sess,Sm y->(∀t,za t=true->Fb s.Front t=false->atV y t=atV s t)->(Naz s.Plan.Kind s.Plan.Num s.Plan.Kids s.Ins s.Front s.Told y.Plan.Kind y.Plan.Num y.Plan.Kids y.Ins y.Front y.Told (allT 8)).ob /\
     (Naz s.Plan.Kind s.Plan.Num s.Plan.Kids s.Ins s.Front s.Told y.Plan.Kind y.Plan.Num y.Plan.Kids y.Ins y.Front y.Told (allT 8)).val=.n ():=by
    intro y hy hh
    have k:Ea (λj:Int=>Maz s.Plan.Kind s.Plan.Num s.Plan.Kids s.Ins s.Front s.Told y.Plan.Kind y.Plan.Num y.Plan.Kids y.Ins y.Front y.Told (allT 8) j) 0 (.x ()):=by
     refine la.fold (allT 8) (λi (_:Unit)=>(i:Int)) (λ_=>()) rfl (λl t r hx'=>?_) ?_
     .have hlen:(allT 8).length=l.length+(r.length+1):=by rw[hx'];simp
      rw[Cak]at hlen;have hu:rd .time (allT 8) (l.length:Int)=t:=by rw[hx'];exact Xi
      have hq:inb (l.length:Int) (ba .time (allT 8)):=by rw[hx'];exact Yi (t:=.time)
      have hr:cmp .lss (l.length:Int) (ba .time (allT 8))=true:=by rw[hx'];exact WL
      have ht:za t=true:=fan (by rw[hx'];simp);obtain⟨a1,a2⟩:=gam hs t;obtain⟨c1,c2⟩:=gam hy t;obtain⟨l1,l2⟩:=yap (zap s t);simp only[Maz,Tr.val,Tr.ob,da,hr,hu,Fl,a2,c2,Ia (l:=l) (by omega)];cases hcv:Fb s.Front t with
      |true=>
       have ha:atV s t=([],false,()):=by unfold atV;rw[hcv];cases fd s<;>cases za t<;>rfl
       rw[ha];exact⟨by simp[hq,a1,c1],rfl⟩
      |false=>
       rw[hh t ht hcv];have ha:atV s t=(Od s.Told t,true,()):=by unfold atV;rw[h1,ht,hcv];rfl
       rw[ha]at l1 l2⊢;simp only[l2];exact⟨by simp[hq,a1,c1,l1],rfl⟩
     .have hp:cmp .lss ((allT 8).length:Int) (ba .time (allT 8))=false:=Na (t:=.time);simp only[Maz,Tr.val,Tr.ob,da,hp];exact⟨by simp,rfl⟩
    have a2:(Haz s.Plan.Kind s.Plan.Num s.Plan.Kids s.Ins s.Front s.Told y.Plan.Kind y.Plan.Num y.Plan.Kids y.Ins y.Front y.Told (allT 8)).o=.x ():=k.v;have b2:(Haz s.Plan.Kind s.Plan.Num s.Plan.Kids s.Ins s.Front s.Told y.Plan.Kind y.Plan.Num y.Plan.Kids y.Ins y.Front y.Told (allT 8)).ob:=k.t;simp only[Naz,Tr.val,Tr.ob,a2];exact⟨by simp[b2],trivial⟩
   have hi:∀t,za t=true->Fb s.Front t=false->atV s' t=atV s t:=λt ht hcv=>by
    unfold atV;rw[h6,h1,eT,eF]
   cases hO:yI s' m with
   |false=>
    obtain⟨k1,k2⟩:=key s' hv hi;simp only[xI,g2,n2,onV,hO,Iaz,cond_false,Bool.not_false,k2,ocR,pcT];simp[d1,e1,f1,g1,m1,b1,n1,w1];rintro _ _ _ _ _ _ rfl rfl rfl rfl rfl rfl;exact k1
   |true=>
    obtain⟨y,hy⟩:=qav hO;have hw:y=x:=hy.ok.uniq hx;subst hw
    have hj:∀t,za t=true->Fb s.Front t=false->atV (onS s' m) t=atV s t:=λt ht hcv=>by
     have hm:Fb m t=false:=by
      rw[<-Bool.not_eq_true];intro ho;have:=nag hy.all ho;rw[eF,hcv]at this;cases this
     unfold atV;rw[hy.sess,h1,ht,hcv,show(onS s' m).Front=m from rfl,hm,hy.new,<-eT,hx.told,eF];unfold Od;rw[Aap hm,Aap hcv]
    obtain⟨k1,k2⟩:=key (onS s' m) (Dah hv (by omega)) hj;simp only[xI,g2,n2,onV,hO,Iaz,cond_true,Bool.not_true,k2,ocR,pcT];simp[d1,e1,f1,g1,m1,b1,n1,w1];rintro _ _ _ _ _ _ rfl rfl rfl rfl rfl rfl;exact k1
end
theorem fap:CP 17 Hak:=yan (.cons Aah (.cons tI (.cons Yaf (.cons Raf g0))))
theorem gap:CP 18 Jak:=Ean (g0)
theorem fat:∀n,CP 103 (Vaq (eaq n).1 (eaq n).2)
 |0=>Wj (fn:=Tryz.f103) (c:=ee Tryz.f103) (by kernel_rfl) (by kernel_rfl) (by kernel_rfl) λ_ h=>h
 |n+1=>Aat (.cons (fat n) g0)
theorem gat:CP 103 Jas:=(fat gc)
theorem Eas:CP 64 bar:=Eat (g0)
theorem iat:CP 63 ear:=Jat (.cons gat (.cons Eas (.cons Jaf g0)))
theorem Xau:ut Tryz.prog 63 caq gaq:=Ds.conI (.cons gat (.cons Eas (.cons Jaf g0)))
theorem Yau:CP 23 mas:=Uat (.cons Aah (.cons Caf (.cons Yaf (.cons Xaf (.cons iat (.cons Eas (.cons Zaf g0)))))))
theorem tax:CP 24 zaw:=aay (g0)
theorem Gax:∀n,CP 73 (Paw (gaw n).1 (gaw n).2)
 |0=>Wj (fn:=Tryz.f73) (c:=ee Tryz.f73) (by kernel_rfl) (by kernel_rfl) (by kernel_rfl) λ_ h=>h
 |n+1=>kay (.cons (Gax n) g0)
theorem Lay:CP 73 zax:=(Gax gc)
theorem May:CP 74 nax:=tay (.cons tax g0)
theorem Nay:CP 32 pax:=Aay (g0)
theorem Oay:CP 31 qax:=Eay (.cons Lay (.cons May (.cons Nay (.cons tax g0))))
theorem Zau:CP 33 oas:=Zat (.cons yah (.cons zah (.cons eh (.cons yaf (.cons zaf g0)))))
theorem aav:CP 35 ras:=hau ⟨.cons Aah (.cons vS (.cons Yaf (.cons iat (.cons Maf (.cons rC g0))))),Xau⟩
theorem jap:CP 38 Lak:=Ran (g0)
theorem bav:CP 114 uas:=mau (.cons qS (.cons eh g0))
theorem cav:CP 79 vas:=qau (.cons xaf (.cons eh (.cons bav g0)))
theorem dav:CP 80 xas:=uau (.cons daf (.cons eh (.cons Baf g0)))
theorem eav:CP 36 yas:=yau (.cons yah (.cons cav (.cons dav g0)))
theorem fav:CP 41 Aas:=Jau (.cons tI g0)
theorem gav:CP 37 Bas:=Sau (.cons Caf (.cons Paf (.cons fav g0)))
theorem caA:CP 14 Taz:=baA (.cons Zau (.cons Aaf (.cons aav (.cons Oay (.cons eav (.cons gav (.cons Yau (.cons jap (.cons fap (.cons gap g0))))))))))
end Go.Proofs.YtiiidenbemkihaaGreat
