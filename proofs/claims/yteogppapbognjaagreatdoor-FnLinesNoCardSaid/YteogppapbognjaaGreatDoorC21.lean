/-
  How the abstract state follows the machine's: what a new value, or more memory, leaves as it was. Each operation's run, as the abstract evaluator tells it: those that make no memory. Each operation's run, as the abstract evaluator tells it: addresses, loads, indices. No statement is proved here.
-/
import Derived.Test.YteogppapbognjaaGreatDoorB3
import Derived.Laws.BytesArg
import Derived.Laws.IdiomCopy
import Derived.Laws.AppendOwn
import Derived.Laws.MakeOwn
import Derived.Laws.StructEq
import Derived.Laws.Slices
import Derived.Tactics
import Derived.Test.YteogppapbognjaaGreatDoorProg
import Derived.Shelf.SlSortFuncK.WholeK
import Derived.Shelf.GgSortFunc.Tiny
import Derived.Tactics2
import Derived.ProofKit
import Derived.SizedLaws
import Derived.LaidMore
import Derived.Lay
import Derived.Stop.Joined
import Derived.Shelf.Strings.Split
import Derived.Shelf.Strconv.Itoa3
import Derived.Shelf.Strings.Builder1
import Derived.Shelf.Strings.Prefix
import Derived.Shelf.Small.Wraps
import Derived.IntWalk
import Derived.KernelRfl
import Derived.Lib.AppendStr
import Derived.WalkKit
import Derived.Lib.Walk
import Derived.Shelf.RegionOpenPlain
namespace Go.Proofs.YteogppapbognjaaGreatDoor
open Go
open Go renaming Program→aal
open _root_.ByteArray renaming empty→aam
open _root_.List renaming length_append→aan,append_nil→aao
open Go.DataW renaming TrodAll→aap
open Go.OpenSpec renaming ofChange→aaq
set_option maxRecDepth 100000
section
variable {F F':Fz}{w w':World} (hg:Ua F w F' w') (hl:Live F w)
include hg hl
end
section
variable {P:aal}{F:Fz}{B:Nat}{w:World}{a:Act}{ge g:Get}{ow:Nat->Option Nat->Option Nat}
end
section
variable {P:aal}{w:World}
variable {F:Fz}{B:Nat}{a:Act}{ge g:Get}{ow:Nat->Option Nat->Option Nat}
end
section
variable {P:aal}{tt:TT} (htt:dc P tt)
include htt
end
section
variable {P:aal}{w:World}{F:Fz}{B:Nat}
variable {a:Act}{ge g:Get}{ow:Nat->Option Nat->Option Nat}
end
section
variable {P:aal}{w:World}{F:Fz}{B:Nat}
variable {a:Act}{ge g:Get}{ow:Nat->Option Nat->Option Nat}
end
section
variable {P:aal}{w:World}{F:Fz}{B:Nat}{a:Act}{ge raw:Get}{ow:Nat->Option Nat->Option Nat}
end
section
variable {P:aal}{w:World}{F:Fz}{B:Nat}{a:Act}{ge g:Get}{ow:Nat->Option Nat->Option Nat}
end
section
variable {P:aal}{w:World}{F:Fz}{B:Nat}{a:Act}{ge raw:Get}{ow:Nat->Option Nat->Option Nat}
end
section
variable {w w1:World}{F:Fz}{B:Nat}{b:Nat} (hp:Pk w b w1) (hF:Df F w w1)
include hp hF
end
section
variable {P:aal}{tt:TT} (htt:dc P tt) {sp:SP} (hsp:∀f s,spk sp f=some s->Con P f s)
include htt hsp
end
section
variable {B:Nat}{IoB:List Nat}{F0 F:Fz}{e:Env}{tm:Nat->Value}{w:World}{ow:Nat->Option Nat->Option Nat}
end
section
variable {P:aal}
end
section
variable {B:Nat}{IoB:List Nat}{F0 F:Fz}{e:Env}{tm:Nat->Value}{w:World}{ow:Nat->Option Nat->Option Nat}
end
section
variable {P:aal}{B:Nat}{IoB:List Nat}{F0 F:Fz}{e:Env}{tm:Nat->Value}{w:World}{ow:Nat->Option Nat->Option Nat}
end
section
variable {B:Nat}{IoB:List Nat}{F0 F:Fz}{e:Env}{tm:Nat->Value}{w:World}{ow:Nat->Option Nat->Option Nat}
end
section
variable {P:aal}{B:Nat}{IoB:List Nat}{F0 F:Fz}{e:Env}{w:World}{ow:Nat->Option Nat->Option Nat}{a:Act}
end
section
variable {P:aal}
variable {B:Nat}{IoB:List Nat}{F0 F:Fz}{e:Env}{w:World}{ow:Nat->Option Nat->Option Nat}{a:Act}
end
section
variable {P:aal}{tt:TT}{B:Nat}{IoB:List Nat}{F0 F:Fz}{e:Env}{w:World}{ow:Nat->Option Nat->Option Nat}{a:Act}
variable {sp:SP}
end
section
variable {E:Nat->Env}{W:Nat->List Nat}{L:Nat->Bool}
end
section
variable {P:aal}{tt:TT}{sp:SP}{B:Nat}{IoB:List Nat}{F0:Fz}{N:NP}{W0:World}
end
section
variable {B:Nat}{IoB:List Nat}{F0 F:Fz}{e:Env}{tm:Nat->Value}{w:World}{ow:Nat->Option Nat->Option Nat}
end
section
variable {P:aal}{tt:TT}{sp:SP}{B:Nat}{IoB:List Nat}{F0:Fz}{N:NP}{W0:World}
end
section
variable {P:aal}{tt:TT}{sp:SP}{N:NP}{fr:Fr}{c:Code}{e:Env}{n r:Env->Prop}{x:Nat->Env->Prop}
end
open Classical in
section
variable {P:aal}{N:NP}{fr:Fr}{c:Code}{n r:Env->Prop}{x:Nat->Env->Prop}
end
section
variable {P:aal}{tt:TT}{N:NP}{fr:Fr}{c:Code}{e:Env}{n r:Env->Prop}{x:Nat->Env->Prop}
end
section
variable {P:aal}{N:NP}{fr:Fr}{c:Code}{e:Env}{n r:Env->Prop}{x:Nat->Env->Prop}
end
section
variable {P:aal}{tt:TT}{B:Nat}{IoB:List Nat}{F0 F:Fz}{e:Env}{w:World}{ow:Nat->Option Nat->Option Nat}{a:Act}
end
section
variable {P:aal}{tt:TT}{N:NP}{fr:Fr}{c:Code}{e:Env}{n r:Env->Prop}{x:Nat->Env->Prop}
end
section
variable {R A X Y Z:Type}
end
section
variable (tt:TT) (sp:SP) (N:NP) (F:Fnn) (kp:List (Nat×List Nat)) (tb:List (Nat×Nat)) (af:List (Nat×Bool×Nat)) {R:Type} (subs:Gi R)
end
section
variable {P:aal}{tt:TT}{sp:SP}{N:NP}{F:Fnn}{kp:List (Nat×List Nat)}{tb:List (Nat×Nat)}{af:List (Nat×Bool×Nat)}{R:Type}{subs:Gi R}{fr:Fr}{C:Code}{n:Env->Prop}{r:RV->Prop}{x:Nat->Env->Prop}
end
section
variable {P:aal}
end
section
variable {w w':World}{F:Fz}{r:Nat}{B:Nat} (hp:Pk w r w') {o0:Obj} (ho:w.heap[r]? = some o0) (hc:isC o0=false)
include hp ho hc
end
section
variable {P:aal}{N:NP}{B:Nat}{IoB:List Nat}{W0:World}{F0:Fz}{obs:List (Nat×Obj)}{e:Env}{a:Act}{w:World}
end
section
variable {P:aal}{ops:Array Oper}{Q:Exit->Act->World->Prop}
end
section
variable {P:aal}{K n:Nat}
variable {T E:Nat} (M:ID P T K E n) {w:World}{r:Nat}{m:MP} (hr:w.heap[r]? = some (ya m)) (hm:Tb n m) {ks:List Int} (hk:ks.length=n)
include M hr
include hm hk
omit hm hk in
end
section
variable {P:aal}{w:World}{r it:Nat}{m:MP} (hr:w.heap[r]? = some (ya m)) {S:List Nat} (hit:w.heap[it]? = some (Qb r m S))
include hr hit
end
section
variable {P:aal}
end
section
variable {P:aal}{a:Act}{w:World}{o:Oper}
end
section
variable {P:aal}{N:NP}{B:Nat}{IoB:List Nat}{W0:World}{F0:Fz}{obs:List (Nat×Obj)}{e:Env}{a:Act}{w:World}{Q:Exit->Act->World->Prop}
end
section
variable {P:aal}{tt:TT}{sp:SP}{B:Nat}{IoB:List Nat}{F0:Fz}{N:NP}{W0:World}
end
section
variable {P:aal}{N:NP}{B:Nat}{IoB:List Nat}{W0:World}{F0:Fz}{obs:List (Nat×Obj)}{e:Env}{a:Act}{w:World}
end
section
variable {P:aal}{tt:TT}{N:NP}{sp:SP}{fr:Fr}{C:Code}{F:Fnn}{R:Type}
section
variable {A X Y Z:Type} [Dft A] [Dft X] [Dft Y] [Dft Z] {t:Tr R A X Y Z}{path:List Nat}{env:Env}{rv:R->RV}{pn:A->Env}{px:X->Nat×Env}{py:Y->Nat×Env}{pz:Z->Nat×Env}
end
end
section
variable {P:aal}{tt:TT}{sp:SP}
end
section
variable {N:NP}{B:Nat}{IoB:List Nat}{W0:World}{F0:Fz}{obs:List (Nat×Obj)}{e:Env}{a:Act}{w:World}
end
section
variable {F:Fz}{B:Nat}{w w1:World}{b:Nat}{o:Option Nat->Option Nat}
end
section
variable {P:aal}{tt:TT}{sp:SP}{a:Act}{w:World}
end
section
variable {P:aal}{tt:TT}{sp:SP}{B:Nat}{IoB:List Nat}{F0:Fz}{N:NP}{W0:World}
end
section
variable {P:aal}{tt:TT}{sp:SP}{B:Nat}{IoB:List Nat}{F0:Fz}{N:NP}{W0:World}
end
section
open Go Go.Shelf Go.RowKit Go.Lib Go.Sort
section
variable {P:aal}{α:Type} [Inhabited α] {enc:α->List Value}{k:Nat}{w w0 W:World}{blk off:Nat}{d dk X:Array α}
variable {g:Nat}{lb:Array Value}{lt:α->α->Bool}{size:Nat}
end
end
section
open Go Go.Shelf Go.RowKit Go.Lib Go.Sort
variable {P:aal}{ρ:Ren}{α:Type} [Inhabited α]
end
section
open Go Go.Shelf Go.RowKit Go.Lib Go.Sort
variable {P:aal}{ρ:Ren}{α:Type} [Inhabited α]
end
section
open Go Go.Shelf Go.RowKit Go.Lib Go.Sort
variable {P:aal}{ρ:Ren}{α:Type} [Inhabited α]
end
section
open Go Go.Shelf Go.RowKit Go.Lib Go.Sort
variable {P:aal}{ρ:Ren}{α:Type} [Inhabited α]
end
section
open Go Go.Shelf Go.RowKit Go.Lib Go.Sort
variable {P:aal}{ρ:Ren}{α:Type} [Inhabited α]
end
section
open Go Go.Shelf Go.RowKit Go.Lib Go.Sort
variable {P:aal}{ρ:Ren}{α:Type} [Inhabited α]
end
section
open Go Go.Shelf Go.RowKit Go.Lib Go.Sort
variable {P:aal}{ρ:Ren}{α:Type} [Inhabited α]
end
section
open Go Go.ChangeShapes Go.WideShapes Go.ChangeAt Go.RowKit
theorem rak{C:Checked}{os:Os}{H:Type}{enc:TypeId×Value->H}{f:FuncId}{fn:Func}{s:ChangeSpec}{conds:List PathCond}{laid:List (String×DataW Unit)}(own:ownKnob C.prog.godebug=none)(started:os.Started)(noInit:C.prog.inits.idxOf? f=none)(hfn:C.prog.funcs[f]? = some fn)
  (witness:∃(w:World) (tape:Tape) (i:Input),w.os=os/\(w.forCall tape i).Shaped C.prog/\i.vars=[]/\Input.okWide C.prog (w.forCall tape i) .any w.heap.size f i /\
    ((s.pre enc C.prog fn conds false (w.forCall tape i).memory i.args/\laidMetH C.prog laid (w.forCall tape i).memory)/\sizedMet enc C.prog fn (aaq s) false (w.forCall tape i).memory i.args)/\({}:Assume).holds C.prog (lone (Frame.enter C.prog f i.args .normal) [] (w.forCall tape i)))
  {t e r:TypeId} (hp:fn.params=#[t]) (hr:fn.resultTypes=#[r]) (ht:C.prog.underlying t=some (.slice e)) (he:C.prog.underlying e=some (.int .u8)) (hce:C.prog.cellsOf e=1) (hrb:C.prog.underlying r=some .bool)
  (hT:∀W,laidMetH C.prog laid W->∀g cs,TabAt g cs->∃t z,W.heap[g]? = some (.cells cs t z))
  (hs:∀d,s.fn H [d]={ results:=[.lit (.bool true)],args:=[d] }) (hv:s.vars=[])
  {v:List Int->Bool}{p:List Int->Prop} (hcon:Con C.prog f ⟨[.lst .byte],.one .fr .bool,false,λx=>(v x.1,0),λx=>p x.1⟩) (h:∀c:List Int,(∀x∈c,0<=x/\x<=255)->p c/\v c=true) :
  ReturnsInHanded {} C os f .any (λw args=>(s.pre enc C.prog fn conds false w args/\laidMetH C.prog laid w)/\sizedMet enc C.prog fn (aaq s) false w args) (s.post enc C.prog fn false true false false):=by
 refine returnsInHanded_of_change_and (C:=C) (X:=λw _=>laidMetH C.prog laid w) (λ_ _ _ hh h=>h.of_heap hh) own started noInit hfn witness ?_;intro W base args ds gs before hf hW _ _ hL _;have ha:∀(j:Nat) t v,fn.params[j]? = some t->args[j]? = some v->Value.okWide C.prog W .any base t v:=hf;have hj:=hW;obtain⟨q1,q2,hi,hV,rfl,hn,_⟩:=hW;have hA:aap enc C.prog W 0 (λ_=>true) true fn.params.toList args.toList ds q1:=hi;rw[hp]at hA ha;obtain⟨v0,d0,rfl,rfl,h0⟩:=trodAll_one hA;rw[hv]at hV;obtain⟨rfl,rfl⟩:=trodVars_none hV;obtain⟨c,F0,hc,ho,hw,hy⟩:=Paj ht he hce h0 (ha 0 t v0 rfl rfl);obtain⟨F,hF,hl⟩:=Qaj F0 ho (hT W hL);have hu:=hw.mono hF (Nat.le_refl _) (λ_ _ _=>rfl);obtain⟨h1,h2⟩:=h c hc;simp only[aao]at hj;refine(hcon.call (c,()) h1 W F [v0] none hl ⟨_,[],rfl,hu,rfl,rfl⟩).mono λe W' he=>?_;obtain⟨v1,F',ow,rfl,hq,_,_,hg,_⟩:=he;have hg:RC F' W.heap.size W' (.bool (v c)) v1:=hg;rw[h2]at hg;have hz:v1=.bool true:=by cases hg;rfl
 subst hz;have hm:Below W.heap.size W W':=⟨hq.os,hq.tape,hq.output,hq.size,λk hk=>hq.block k hk (by simp)⟩;refine⟨_,rfl,[d0],[],q1,[],q1,[],hj,?_,?_,?_,hm.frame _,λh=>by cases h⟩
 .rw[hr];show aap enc C.prog W' _ _ _ [r] [.bool true] (s.fn H ([d0]++[])).results [];rw[aao,hs];exact trodAll_mk1 (shut_bool hrb true)
 .rw[hp];show aap enc C.prog W' _ _ _ [t] [v0] (s.fn H ([d0]++[])).args q1;rw[aao,hs];exact trodAll_mk1 (hy W' hm)
 .rw[hv,aao,hs];exact rfl
end
noncomputable section
set_option maxRecDepth 100000
def nal:SP:=[]
abbrev F11:Fnn:=⟨[.tmp 4],.one .fr .bool,none,[]⟩
def gal(y x:BA):TN Bool:=.w [((cmp .leq (fa x) (fa y))&&true)=true->le3 0 (fa x) (fa y)] (.l (.r (cond (cmp .leq (fa x) (fa y)) (seq (Jc y 0 (fa x)) x) false)))
def eal(x:BA)(y:BA):Bool:=ocR (gal x y).val
def fal(x:BA)(y:BA):Prop:=(gal x y).ob
def ial:Spec:=spF [.str,.str] (.one .fr .bool) eal fal
theorem oal(G:Gd nal):CP 11 ial:=ma (F:=F11) (fn:=Tryz.f11) G λ_ _=>ka G
def pal:SP:=[(8,wT),(9,AJ),(10,qW),(11,ial)]
abbrev F4:Fnn:=⟨[.tmp 2],.one .fr .bool,none,[]⟩
def jal(b:LB):TN Bool:=.c (cmp .gtr (ba .byte b) 1048576) (.l (.r true))
 (.k (uG b) λx=>.w [vG b] (.k (xk x) λy=>.w [Ix x] (.w [fB x] (.c (cond (!(seq y (eB x))) true (cmp .gtr (fa x) 1960)) (.w [fB x] (.l (.r (seq y (eB x)))))
 (.k (xk (x++(bs [97,116,32,48,32,48,10,97,116,32,49,32,49,10,111,110,10]))) λz=>.w [lim (fa x) (fa (bs [97,116,32,48,32,48,10,97,116,32,49,32,49,10,111,110,10])),Ix (x++(bs [97,116,32,48,32,48,10,97,116,32,49,32,49,10,111,110,10]))] (.k (eal z y) λa=>.w [fal z y,(a&&true)=true->lim (fa x) (fa (bs [110,111,116,104,105,110,103,10])),(a&&true)=true->lim (fa (x++(bs [110,111,116,104,105,110,103,10]))) (fa (bs [97,116,32,48,32,48,10,97,116,32,49,32,49,10,111,110,10])),(a&&true)=true->(Ix ((x++(bs [110,111,116,104,105,110,103,10]))++(bs [97,116,32,48,32,48,10,97,116,32,49,32,49,10,111,110,10]))),(a&&true)=true->lim (fa y) (fa (bs [119,104,97,116,10])),(a&&true)=true->le3 (fa y) (fa z) (fa z),(a&&true)=true->lim (fa (y++(bs [119,104,97,116,10]))) (fa (Jc z (fa y) (fa z)))] (.l (.r (cond a (seq (xk ((x++(bs [110,111,116,104,105,110,103,10]))++(bs [97,116,32,48,32,48,10,97,116,32,49,32,49,10,111,110,10]))) ((y++(bs [119,104,97,116,10]))++(Jc z (fa y) (fa z)))) false)))))))))
def kal(x:LB):Bool:=ocR (jal x).val
def lal(x:LB):Prop:=(jal x).ob
def mal:Spec:=spF [(.lst .byte)] (.one .fr .bool) kal lal
theorem qal(G:Gd pal):CP 4 mal:=ma (F:=F4) (fn:=Tryz.f4) G λ_ _=>ka G
end
section
namespace Ds
open Go
set_option maxRecDepth 100000
section
variable {P:aal}{tt:TT}{N:NP}{fr:Fr}{Cd:Code}{F:Fnn}{R A X Y Z:Type}
end
end Ds
end
section
variable {P:aal}{K n:Nat}
variable {T E:Nat} (M:PX P T K E n) {w:World}{r:Nat}{S:Aa} (hr:w.heap[r]? = some (Va S)) (hm:Cc n S) {ks:List Int} (hk:ks.length=n)
include M hr hm hk
end
section
open Go Tg
section
variable {a:List Row} (hr:Nb a=true) {kind:Int} (hkind:1<=kind/\kind<=3)
include hr hkind
end
end
theorem Tak(a:ByteArray):aam++a=a:=Mg (by simp)
section
variable {d m:Nat} (ih:∀w:List ByteArray,w.length<=1000000->(nb m).2 w (d:Int)/\((nb m).1 w (d:Int)).2.1.length<=w.length/\∀p r,okM d p=true->w=Rc d p++r->(nb m).1 w (d:Int)=(p,r,true,()))
 {D:Int} (hsub:ar .sub .i64 D 1=(d:Int)) {w1:List ByteArray} (hw:w1.length<=1000000)
include ih hsub hw
variable {w0:ByteArray}
end
section
variable {d m:Nat}{D:Int}{w0:ByteArray}{w1:List ByteArray} (h0:(bl w0).length<=1000000)
include h0
end
section
variable {d m:Nat} (ih:∀w:List ByteArray,w.length<=1000000->(∀x∈w,(bl x).length<=1000000)->(xb m).2 w (d:Int)/\(∃k,((xb m).1 w (d:Int)).2.1=w.drop k)/\∀p r,okM d p=true->w=Rc d p++r->(xb m).1 w (d:Int)=(p,r,()))
 {D:Int} (hsub:ar .sub .i64 D 1=(d:Int)) {w1:List ByteArray} (hw:w1.length<=1000000) (hb:∀x∈w1,(bl x).length<=1000000)
include ih hsub hw hb
end
open Classical in
section
open Go Tg
theorem eak:∀(w:List ByteArray) (s:Sess) (o:ByteArray),Se (s,o) w=((Se (s,aam) w).1,o++(Se (s,aam) w).2)
 |[],s,o=>by simp[Se]
 |l::w,s,o=>by
  show Se (Ng (s,o) l) w=((Se (Ng (s,aam) l) w).1,o++(Se (Ng (s,aam) l) w).2);unfold Ng;by_cases h:l=aam
  .rw[if_pos h,if_pos h,eak w s o]
  .rw[if_neg h,if_neg h];simp only[Tak];rw[eak w _ (o++_),eak w _ (_++bs [10])];simp only[Lk]
theorem lak(t:ByteArray):(bl (Cr t)).length<=300000000:=by
 unfold Cr;split
 .rename_i h;exact Caj h
 .show (9:Nat)<=_;omega
theorem jak(c:UInt8)(r:List UInt8):∀l:List UInt8,spl c (l++c::r)=spl c l++spl c r
 |[]=>by simp[spl]
 |x::l=>by
  rw[List.cons_append,gi,gi,jak c r l];split
  .rfl
  .cases h:spl c l with
   |nil=>exact absurd h (pr c l)
   |cons a t=>rfl
theorem Uak{a:List UInt8}(h:Bf a)(v:Sess×ByteArray)(b:List UInt8):aak v (a++b)=aak (aak v a) b:=by
 rcases h with rfl|⟨a,rfl⟩
 .show _=aak (Ng v (mkB [])) b;rw[step_nil];rfl
 .unfold aak;rw[List.append_assoc,List.singleton_append,jak,jak,List.map_append,List.map_append,Baj,Baj];show _=Se (Ng (Se v ((spl 10 a).map mkB)) (mkB [])) _;rw[step_nil]
theorem Vak(l:List UInt8)(s:Sess)(o:ByteArray):aak (s,o) l=((aak (s,aam) l).1,o++(aak (s,aam) l).2):=eak _ s o
theorem Wak{a b:List UInt8}(h:Bf a):Qk (mkB (a++b))=Qk (mkB a)++(aak ((aak (s0,aam) a).1,aam) b).2:=by
 show(aak (s0,aam) (a++b)).2=(aak (s0,aam) a).2++_;rw[Uak h,Vak b (aak (s0,aam) a).1 (aak (s0,aam) a).2]
theorem Xak{a:UInt8}{b:List UInt8}:mkB (a::b)≠aam:=λh=>nomatch (show a::b=[] from congrArg bl h)
theorem Wal{a b c:ByteArray}(h:a=b++c):fal a b/\eal a b=true:=by
 have hl:(bl a).length=(bl b).length+(bl c).length:=by rw[h,Pb,aan]
 have hi:=uc a;have hj:=uc b
 have hc:cmp .leq (fa b) (fa a)=true:=by
  show decide (fa b<=fa a)=true;exact decide_eq_true (by omega)
 have hs:Jc a 0 (fa b)=b:=Mg (by rw[nr,h,Pb,hj];simp);have hh:le3 0 (fa b) (fa a):=⟨Int.le_refl _,by omega,by omega⟩;simp only[fal,eal,gal,Tr.val,Tr.ob,ga,hc,hs,fg,ocR];exact⟨by simp[hh],by simp⟩
abbrev cal:List UInt8:=[97,116,32,48,32,48,10,97,116,32,49,32,49,10,111,110,10]
abbrev dal:List UInt8:=[110,111,116,104,105,110,103,10]
theorem Xal:Bf dal:=.inr ⟨[110,111,116,104,105,110,103],rfl⟩
theorem Yal(s:Sess)(o:ByteArray):aak (s,o) dal=(s,o++bs [119,104,97,116,10]):=by
 have h1:spl 10 dal=[[110,111,116,104,105,110,103],[]]:=by decide
 have h2:spl 32 [110,111,116,104,105,110,103]=[[110,111,116,104,105,110,103]]:=by decide
 have h3:yh [110,111,116,104,105,110,103]=false:=by decide
 have h4:Af s (mkB [110,111,116,104,105,110,103])=(s,bs [119,104,97,116]):=by
  unfold Af;rw[vf,h3,h2];have n:∀l:List UInt8,l≠[110,111,116,104,105,110,103]->¬ mkB [110,111,116,104,105,110,103]=bs l:=λl hl h=>hl (congrArg bl h).symm;simp only[cond_false,List.map_cons,List.map_nil,List.headD_cons,List.tail_cons,YB,Ec];rw[if_neg (λh=>n _ (by decide) h.1),if_neg (λh=>n _ (by decide) h.1),if_neg (λh=>n _ (by decide) h.1)]
 unfold aak;rw[h1];show Ng (Ng (s,o) (mkB [110,111,116,104,105,110,103])) (mkB [])=_;rw[step_nil];unfold Ng;rw[if_neg Xak,h4];rfl
theorem Zal(c:List Int)(hc:∀x∈c,0<=x/\x<=255):lal c/\kal c=true:=by
 obtain⟨d1,d2⟩:=Zaj hc;have hI:=λt=>(Xaj t).1;have vI:=λt=>(Xaj t).2;have hS:=λt=>(Yaj t).1;have vS:=λt=>(Yaj t).2;simp only[lal,kal,jal,Tr.val,Tr.ob,ga,vI,vS,fg,decide_true,Bool.not_true,cond_false];cases hbig:cmp .gtr (ba .byte c) 1048576 with
 |true=>exact⟨by simp,rfl⟩
 |false=>
  generalize uG c=T at d2⊢;have hz:=uc T;cases h1:cmp .gtr (fa T) 1960 with
  |true=>exact⟨by simp[d1,hI,hS],rfl⟩
  |false=>
   rw[hz,Lb]at h1;have h1:=of_decide_eq_false h1;have hh:=d2.fin;have eA:T++bs cal=mkB (bl T++cal):=Mg (by simp);have eN:T++bs dal++bs cal=mkB (bl T++(dal++cal)):=Mg (by simp);have g0:Cr T=Qk (mkB (bl T)):=by rw[bak (by omega),Gm]
   have gA:Cr (T++bs cal)=Cr T++(aak ((aak (s0,aam) (bl T)).1,aam) cal).2:=by
    rw[eA,bak (by rw[vf,aan];have:cal.length=17:=rfl;omega),Wak hh,g0]
   have gN:Cr (T++bs dal++bs cal)=Cr T++bs [119,104,97,116,10]++(aak ((aak (s0,aam) (bl T)).1,aam) cal).2:=by
    rw[eN,bak (by rw[vf,aan,aan];have:cal.length=17:=rfl;have:dal.length=8:=rfl;omega),Wak hh,g0,Uak Xal,Yal,Vak cal _ (_++_)];simp only[Tak,Lk]
   generalize (aak ((aak (s0,aam) (bl T)).1,aam) cal).2=R at gA gN;obtain⟨b1,b2⟩:=Wal gA
   have hj:Jc (Cr (T++bs cal)) (fa (Cr T)) (fa (Cr (T++bs cal)))=R:=Mg (by
    rw[nr,uc,uc,gA,Pb,Int.toNat_natCast,Int.toNat_natCast,List.take_length,List.drop_left])
   have hR:(bl R).length<=300000000:=by
    have:=lak (T++bs cal);rw[gA,Pb,aan]at this;omega
   have hT:=lak T;have m1:lim (fa T) (fa (bs cal)):=zf (by have:(bl (bs cal)).length=17:=rfl;omega);have m2:lim (fa T) (fa (bs dal)):=zf (by have:(bl (bs dal)).length=8:=rfl;omega);have m3:lim (fa (T++bs dal)) (fa (bs cal)):=zf (by rw[Pb,aan];have:(bl (bs cal)).length=17:=rfl;have:(bl (bs dal)).length=8:=rfl;omega);have m4:lim (fa (Cr T)) (fa (bs [119,104,97,116,10])):=zf (by have:(bl (bs [119,104,97,116,10])).length=5:=rfl;omega);have m5:lim (fa (Cr T++bs [119,104,97,116,10])) (fa R):=zf (by rw[Pb,aan];have:(bl (bs [119,104,97,116,10])).length=5:=rfl;omega)
   have hi:le3 (fa (Cr T)) (fa (Cr (T++bs cal))) (fa (Cr (T++bs cal))):=by
    refine⟨by rw[uc];omega,?_,Int.le_refl _⟩;rw[uc,uc,gA,Pb,aan];omega
   simp only[b2,hj,gN,ocR,cond_true,decide_true];exact⟨by simp only[d1,hI,hS,b1,m1,m2,m3,m4,m5,hi,implies_true,and_self],trivial⟩
end
section
open Go Go.Proofs Go.Shelf Go.RowKit Go.Lib
section
variable {P:aal}{ρ:Ren}
end
end
theorem ral:CP 11 ial:=oal (g0)
theorem sal:CP 4 mal:=qal (.cons Maj (.cons Naj (.cons Oaj (.cons ral g0))))
end Go.Proofs.YteogppapbognjaaGreatDoor
