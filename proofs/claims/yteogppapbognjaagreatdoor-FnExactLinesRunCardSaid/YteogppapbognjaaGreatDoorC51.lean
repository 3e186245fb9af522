/-
  How the abstract state follows the machine's: what a new value, or more memory, leaves as it was. Each operation's run, as the abstract evaluator tells it: those that make no memory. Each operation's run, as the abstract evaluator tells it: addresses, loads, indices. No statement is proved here.
-/
import Derived.Test.YteogppapbognjaaGreatDoorB3
import Derived.Laws.BytesArg
import Derived.Laws.IdiomCopy
import Derived.Laws.AppendOwn
import Derived.Laws.MakeOwn
import Derived.Laws.StructEq
import Derived.Laws.Slices
import Derived.Tactics
import Derived.Test.YteogppapbognjaaGreatDoorProg
import Derived.Shelf.SlSortFuncK.WholeK
import Derived.Shelf.GgSortFunc.Tiny
import Derived.Tactics2
import Derived.ProofKit
import Derived.SizedLaws
import Derived.LaidMore
import Derived.Lay
import Derived.Stop.Joined
import Derived.Shelf.Strings.Split
import Derived.Shelf.Strconv.Itoa3
import Derived.Shelf.Strings.Builder1
import Derived.Shelf.Strings.Prefix
import Derived.Shelf.Small.Wraps
import Derived.IntWalk
import Derived.KernelRfl
import Derived.Lib.AppendStr
import Derived.WalkKit
import Derived.Lib.Walk
import Derived.Shelf.RegionOpenPlain
import Derived.ChangeMaps5
namespace Go.Proofs.YteogppapbognjaaGreatDoor
open Go
open Go renaming Program→aal
open _root_.List renaming append_nil→aam
open Go.DataW renaming TrodAll→aan
open Go.OpenSpec renaming ofChange→aap
set_option maxRecDepth 100000
section
variable {F F':Fz}{w w':World} (hg:Ua F w F' w') (hl:Live F w)
include hg hl
end
section
variable {P:aal}{F:Fz}{B:Nat}{w:World}{a:Act}{ge g:Get}{ow:Nat->Option Nat->Option Nat}
end
section
variable {P:aal}{w:World}
variable {F:Fz}{B:Nat}{a:Act}{ge g:Get}{ow:Nat->Option Nat->Option Nat}
end
section
variable {P:aal}{tt:TT} (htt:dc P tt)
include htt
end
section
variable {P:aal}{w:World}{F:Fz}{B:Nat}
variable {a:Act}{ge g:Get}{ow:Nat->Option Nat->Option Nat}
end
section
variable {P:aal}{w:World}{F:Fz}{B:Nat}
variable {a:Act}{ge g:Get}{ow:Nat->Option Nat->Option Nat}
end
section
variable {P:aal}{w:World}{F:Fz}{B:Nat}{a:Act}{ge raw:Get}{ow:Nat->Option Nat->Option Nat}
end
section
variable {P:aal}{w:World}{F:Fz}{B:Nat}{a:Act}{ge g:Get}{ow:Nat->Option Nat->Option Nat}
end
section
variable {P:aal}{w:World}{F:Fz}{B:Nat}{a:Act}{ge raw:Get}{ow:Nat->Option Nat->Option Nat}
end
section
variable {w w1:World}{F:Fz}{B:Nat}{b:Nat} (hp:Pk w b w1) (hF:Df F w w1)
include hp hF
end
section
variable {P:aal}{tt:TT} (htt:dc P tt) {sp:SP} (hsp:∀f s,spk sp f=some s->Con P f s)
include htt hsp
end
section
variable {B:Nat}{IoB:List Nat}{F0 F:Fz}{e:Env}{tm:Nat->Value}{w:World}{ow:Nat->Option Nat->Option Nat}
end
section
variable {P:aal}
end
section
variable {B:Nat}{IoB:List Nat}{F0 F:Fz}{e:Env}{tm:Nat->Value}{w:World}{ow:Nat->Option Nat->Option Nat}
end
section
variable {P:aal}{B:Nat}{IoB:List Nat}{F0 F:Fz}{e:Env}{tm:Nat->Value}{w:World}{ow:Nat->Option Nat->Option Nat}
end
section
variable {B:Nat}{IoB:List Nat}{F0 F:Fz}{e:Env}{tm:Nat->Value}{w:World}{ow:Nat->Option Nat->Option Nat}
end
section
variable {P:aal}{B:Nat}{IoB:List Nat}{F0 F:Fz}{e:Env}{w:World}{ow:Nat->Option Nat->Option Nat}{a:Act}
end
section
variable {P:aal}
variable {B:Nat}{IoB:List Nat}{F0 F:Fz}{e:Env}{w:World}{ow:Nat->Option Nat->Option Nat}{a:Act}
end
section
variable {P:aal}{tt:TT}{B:Nat}{IoB:List Nat}{F0 F:Fz}{e:Env}{w:World}{ow:Nat->Option Nat->Option Nat}{a:Act}
variable {sp:SP}
end
section
variable {E:Nat->Env}{W:Nat->List Nat}{L:Nat->Bool}
end
section
variable {P:aal}{tt:TT}{sp:SP}{B:Nat}{IoB:List Nat}{F0:Fz}{N:NP}{W0:World}
end
section
variable {B:Nat}{IoB:List Nat}{F0 F:Fz}{e:Env}{tm:Nat->Value}{w:World}{ow:Nat->Option Nat->Option Nat}
end
section
variable {P:aal}{tt:TT}{sp:SP}{B:Nat}{IoB:List Nat}{F0:Fz}{N:NP}{W0:World}
end
section
variable {P:aal}{tt:TT}{sp:SP}{N:NP}{fr:Fr}{c:Code}{e:Env}{n r:Env->Prop}{x:Nat->Env->Prop}
end
open Classical in
section
variable {P:aal}{N:NP}{fr:Fr}{c:Code}{n r:Env->Prop}{x:Nat->Env->Prop}
end
section
variable {P:aal}{tt:TT}{N:NP}{fr:Fr}{c:Code}{e:Env}{n r:Env->Prop}{x:Nat->Env->Prop}
end
section
variable {P:aal}{N:NP}{fr:Fr}{c:Code}{e:Env}{n r:Env->Prop}{x:Nat->Env->Prop}
end
section
variable {P:aal}{tt:TT}{B:Nat}{IoB:List Nat}{F0 F:Fz}{e:Env}{w:World}{ow:Nat->Option Nat->Option Nat}{a:Act}
end
section
variable {P:aal}{tt:TT}{N:NP}{fr:Fr}{c:Code}{e:Env}{n r:Env->Prop}{x:Nat->Env->Prop}
end
section
variable {R A X Y Z:Type}
end
section
variable (tt:TT) (sp:SP) (N:NP) (F:Fnn) (kp:List (Nat×List Nat)) (tb:List (Nat×Nat)) (af:List (Nat×Bool×Nat)) {R:Type} (subs:Gi R)
end
section
variable {P:aal}{tt:TT}{sp:SP}{N:NP}{F:Fnn}{kp:List (Nat×List Nat)}{tb:List (Nat×Nat)}{af:List (Nat×Bool×Nat)}{R:Type}{subs:Gi R}{fr:Fr}{C:Code}{n:Env->Prop}{r:RV->Prop}{x:Nat->Env->Prop}
end
section
variable {P:aal}
end
section
variable {w w':World}{F:Fz}{r:Nat}{B:Nat} (hp:Pk w r w') {o0:Obj} (ho:w.heap[r]? = some o0) (hc:isC o0=false)
include hp ho hc
end
section
variable {P:aal}{N:NP}{B:Nat}{IoB:List Nat}{W0:World}{F0:Fz}{obs:List (Nat×Obj)}{e:Env}{a:Act}{w:World}
end
section
variable {P:aal}{ops:Array Oper}{Q:Exit->Act->World->Prop}
end
section
variable {P:aal}{K n:Nat}
variable {T E:Nat} (M:ID P T K E n) {w:World}{r:Nat}{m:MP} (hr:w.heap[r]? = some (ya m)) (hm:Tb n m) {ks:List Int} (hk:ks.length=n)
include M hr
include hm hk
omit hm hk in
end
section
variable {P:aal}{w:World}{r it:Nat}{m:MP} (hr:w.heap[r]? = some (ya m)) {S:List Nat} (hit:w.heap[it]? = some (Qb r m S))
include hr hit
end
section
variable {P:aal}
end
section
variable {P:aal}{a:Act}{w:World}{o:Oper}
end
section
variable {P:aal}{N:NP}{B:Nat}{IoB:List Nat}{W0:World}{F0:Fz}{obs:List (Nat×Obj)}{e:Env}{a:Act}{w:World}{Q:Exit->Act->World->Prop}
end
section
variable {P:aal}{tt:TT}{sp:SP}{B:Nat}{IoB:List Nat}{F0:Fz}{N:NP}{W0:World}
end
section
variable {P:aal}{N:NP}{B:Nat}{IoB:List Nat}{W0:World}{F0:Fz}{obs:List (Nat×Obj)}{e:Env}{a:Act}{w:World}
end
section
variable {P:aal}{tt:TT}{N:NP}{sp:SP}{fr:Fr}{C:Code}{F:Fnn}{R:Type}
section
variable {A X Y Z:Type} [Dft A] [Dft X] [Dft Y] [Dft Z] {t:Tr R A X Y Z}{path:List Nat}{env:Env}{rv:R->RV}{pn:A->Env}{px:X->Nat×Env}{py:Y->Nat×Env}{pz:Z->Nat×Env}
end
end
section
variable {P:aal}{tt:TT}{sp:SP}
end
section
variable {N:NP}{B:Nat}{IoB:List Nat}{W0:World}{F0:Fz}{obs:List (Nat×Obj)}{e:Env}{a:Act}{w:World}
end
section
variable {F:Fz}{B:Nat}{w w1:World}{b:Nat}{o:Option Nat->Option Nat}
end
section
variable {P:aal}{tt:TT}{sp:SP}{a:Act}{w:World}
end
section
variable {P:aal}{tt:TT}{sp:SP}{B:Nat}{IoB:List Nat}{F0:Fz}{N:NP}{W0:World}
end
section
variable {P:aal}{tt:TT}{sp:SP}{B:Nat}{IoB:List Nat}{F0:Fz}{N:NP}{W0:World}
end
section
open Go Go.Shelf Go.RowKit Go.Lib Go.Sort
section
variable {P:aal}{α:Type} [Inhabited α] {enc:α->List Value}{k:Nat}{w w0 W:World}{blk off:Nat}{d dk X:Array α}
variable {g:Nat}{lb:Array Value}{lt:α->α->Bool}{size:Nat}
end
end
section
open Go Go.Shelf Go.RowKit Go.Lib Go.Sort
variable {P:aal}{ρ:Ren}{α:Type} [Inhabited α]
end
section
open Go Go.Shelf Go.RowKit Go.Lib Go.Sort
variable {P:aal}{ρ:Ren}{α:Type} [Inhabited α]
end
section
open Go Go.Shelf Go.RowKit Go.Lib Go.Sort
variable {P:aal}{ρ:Ren}{α:Type} [Inhabited α]
end
section
open Go Go.Shelf Go.RowKit Go.Lib Go.Sort
variable {P:aal}{ρ:Ren}{α:Type} [Inhabited α]
end
section
open Go Go.Shelf Go.RowKit Go.Lib Go.Sort
variable {P:aal}{ρ:Ren}{α:Type} [Inhabited α]
end
section
open Go Go.Shelf Go.RowKit Go.Lib Go.Sort
variable {P:aal}{ρ:Ren}{α:Type} [Inhabited α]
end
section
open Go Go.Shelf Go.RowKit Go.Lib Go.Sort
variable {P:aal}{ρ:Ren}{α:Type} [Inhabited α]
end
section
namespace Ds
open Go
set_option maxRecDepth 100000
section
variable {P:aal}{tt:TT}{N:NP}{fr:Fr}{Cd:Code}{F:Fnn}{R A X Y Z:Type}
end
end Ds
end
section
variable {P:aal}{K n:Nat}
variable {T E:Nat} (M:PX P T K E n) {w:World}{r:Nat}{S:Aa} (hr:w.heap[r]? = some (Va S)) (hm:Cc n S) {ks:List Int} (hk:ks.length=n)
include M hr hm hk
end
section
open Go Tg
section
variable {a:List Row} (hr:Nb a=true) {kind:Int} (hkind:1<=kind/\kind<=3)
include hr hkind
end
end
section
variable {d m:Nat} (ih:∀w:List ByteArray,w.length<=1000000->(nb m).2 w (d:Int)/\((nb m).1 w (d:Int)).2.1.length<=w.length/\∀p r,okM d p=true->w=Rc d p++r->(nb m).1 w (d:Int)=(p,r,true,()))
 {D:Int} (hsub:ar .sub .i64 D 1=(d:Int)) {w1:List ByteArray} (hw:w1.length<=1000000)
include ih hsub hw
variable {w0:ByteArray}
end
section
variable {d m:Nat}{D:Int}{w0:ByteArray}{w1:List ByteArray} (h0:(bl w0).length<=1000000)
include h0
end
section
variable {d m:Nat} (ih:∀w:List ByteArray,w.length<=1000000->(∀x∈w,(bl x).length<=1000000)->(xb m).2 w (d:Int)/\(∃k,((xb m).1 w (d:Int)).2.1=w.drop k)/\∀p r,okM d p=true->w=Rc d p++r->(xb m).1 w (d:Int)=(p,r,()))
 {D:Int} (hsub:ar .sub .i64 D 1=(d:Int)) {w1:List ByteArray} (hw:w1.length<=1000000) (hb:∀x∈w1,(bl x).length<=1000000)
include ih hsub hw hb
end
open Classical in
section
open Go Go.Proofs Go.Shelf Go.RowKit Go.Lib
section
variable {P:aal}{ρ:Ren}
end
end
section
set_option maxRecDepth 100000
noncomputable def Qan:SP:=[(10,qW),(9,AJ)]
abbrev F7:Fnn:=⟨[.tmp 2],.one .fr .bool,none,[]⟩
noncomputable def Man(x:BA):TN Bool:=.c (cmp .gtr (fa x) 1048576) (.l (.r true))
 (.w [fB x] (.w [Ix x] (.c (!(seq (xk x) (eB x))) (.l (.r false))
 (.l (.r true)))))
noncomputable def Nan(x:BA):Bool:=ocR (Man x).val
noncomputable def Oan(x:BA):Prop:=(Man x).ob
noncomputable def Pan:Spec:=spF [.str] (.one .fr .bool) Nan Oan
theorem Ran(G:Gd Qan):CP 7 Pan:=ma (F:=F7) (fn:=Tryz.f7) G λ_ _=>ka G
theorem San:CP 7 Pan:=Ran (.cons Oaj (.cons Naj g0))
theorem Tan(t:BA):Oan t/\Nan t=true:=by
 have hI:=(Xaj t).1;have vI:=(Xaj t).2;have hS:=(Yaj t).1;have vS:=(Yaj t).2;simp only[Oan,Nan,Man,Tr.val,Tr.ob,ga,vI,vS,fg,decide_true,Bool.not_true,ocR];cases cmp .gtr (fa t) 1048576<;>exact⟨by simp[hI,hS],rfl⟩
end
section
open Go Go.ChangeShapes Go.WideShapes Go.ChangeAt Go.RowKit Go.ChangeMaps
theorem Uan{C:Checked}{os:Os}{H:Type}{enc:TypeId×Value->H}{f:FuncId}{fn:Func}{s:ChangeSpec}{conds:List PathCond}{laid:List (String×DataW Unit)}(own:ownKnob C.prog.godebug=none)(started:os.Started)(noInit:C.prog.inits.idxOf? f=none)(hfn:C.prog.funcs[f]? = some fn)
  (witness:∃(w:World) (tape:Tape) (i:Input),w.os=os/\(w.forCall tape i).Shaped C.prog/\i.vars=[]/\Input.okWide C.prog (w.forCall tape i) .any w.heap.size f i /\
    ((s.pre enc C.prog fn conds false (w.forCall tape i).memory i.args/\laidMetH C.prog laid (w.forCall tape i).memory)/\sizedMet enc C.prog fn (aap s) false (w.forCall tape i).memory i.args)/\({}:Assume).holds C.prog (lone (Frame.enter C.prog f i.args .normal) [] (w.forCall tape i)))
  {t r:TypeId} (hp:fn.params=#[t]) (hr:fn.resultTypes=#[r]) (ht:C.prog.underlying t=some .string) (hrb:C.prog.underlying r=some .bool)
  (hT:∀W,laidMetH C.prog laid W->∀g cs,TabAt g cs->∃t z,W.heap[g]? = some (.cells cs t z))
  (hs:∀d,s.fn H [d]={ results:=[.lit (.bool true)],args:=[d] }) (hv:s.vars=[])
  {v:ByteArray->Bool}{p:ByteArray->Prop} (hcon:Con C.prog f ⟨[.str],.one .fr .bool,false,λx=>(v x.1,0),λx=>p x.1⟩) (h:∀c:ByteArray,p c/\v c=true) :
  ReturnsInHanded {} C os f .any (λw args=>(s.pre enc C.prog fn conds false w args/\laidMetH C.prog laid w)/\sizedMet enc C.prog fn (aap s) false w args) (s.post enc C.prog fn false true false false):=by
 refine returnsInHanded_of_change_and (C:=C) (X:=λw _=>laidMetH C.prog laid w) (λ_ _ _ hh h=>h.of_heap hh) own started noInit hfn witness ?_;intro W base args ds gs before hw hW _ _ hL _;have hu:∀(j:Nat) t v,fn.params[j]? = some t->args[j]? = some v->Value.okWide C.prog W .any base t v:=hw;have hj:=hW;obtain⟨q1,q2,hi,hV,rfl,hn,_⟩:=hW;have hA:aan enc C.prog W 0 (λ_=>true) true fn.params.toList args.toList ds q1:=hi;rw[hp]at hA hu;obtain⟨v0,d0,rfl,rfl,h0⟩:=trodAll_one hA;rw[hv]at hV;obtain⟨rfl,rfl⟩:=trodVars_none hV;obtain⟨c,rfl,rfl,rfl,hc⟩:=open_string ht (hu 0 t v0 rfl rfl) h0;obtain⟨F,_,hl⟩:=Qaj (λ_ _=>False) (λ_ _ h=>h.elim) (hT W hL);obtain⟨h1,h2⟩:=h c;simp only[aam]at hj;refine(hcon.call (c,()) h1 W F [.string c] none hl ⟨_,[],rfl,RC.str c,rfl,rfl⟩).mono λe W' he=>?_;obtain⟨v1,F',ow,rfl,ho,_,_,hy,_⟩:=he;have hy:RC F' W.heap.size W' (.bool (v c)) v1:=hy;rw[h2]at hy;have hq:v1=.bool true:=by cases hy;rfl
 subst hq;have hm:Below W.heap.size W W':=⟨ho.os,ho.tape,ho.output,ho.size,λk hk=>ho.block k hk (by simp)⟩;refine⟨_,rfl,[.lit (.string c.data.toList)],[],[],[],[],[],hj,?_,?_,?_,hm.frame _,λh=>by cases h⟩
 .rw[hr];show aan enc C.prog W' _ _ _ [r] [.bool true] (s.fn H ([.lit (.string c.data.toList)]++[])).results [];rw[aam,hs];exact trodAll_mk1 (shut_bool hrb true)
 .rw[hp];show aan enc C.prog W' _ _ _ [t] [.string c] (s.fn H ([.lit (.string c.data.toList)]++[])).args [];rw[aam,hs];exact trodAll_mk1 (shut_string ht hc)
 .rw[hv,aam,hs];exact rfl
end
end Go.Proofs.YteogppapbognjaaGreatDoor
