/-
  How the abstract state follows the machine's: what a new value, or more memory, leaves as it was. Each operation's run, as the abstract evaluator tells it: those that make no memory. Each operation's run, as the abstract evaluator tells it: addresses, loads, indices. No statement is proved here.
-/
import Derived.Test.YteogppapbognjaaGreatDoorB3
import Derived.Laws.BytesArg
import Derived.Laws.IdiomCopy
import Derived.Laws.AppendOwn
import Derived.Laws.MakeOwn
import Derived.Laws.StructEq
import Derived.Laws.Slices
import Derived.Tactics
import Derived.Test.YteogppapbognjaaGreatDoorProg
import Derived.Shelf.SlSortFuncK.WholeK
import Derived.Shelf.GgSortFunc.Tiny
import Derived.Tactics2
import Derived.ProofKit
import Derived.SizedLaws
import Derived.LaidMore
import Derived.Lay
import Derived.Stop.Joined
import Derived.Shelf.Strings.Split
import Derived.Shelf.Strconv.Itoa3
import Derived.Shelf.Strings.Builder1
import Derived.Shelf.Strings.Prefix
import Derived.Shelf.Small.Wraps
import Derived.IntWalk
import Derived.KernelRfl
import Derived.Lib.AppendStr
import Derived.WalkKit
import Derived.Lib.Walk
import Derived.Shelf.RegionOpenPlain
namespace Go.Proofs.YteogppapbognjaaGreatDoor
open Go
open Go renaming Program→aal
open _root_.List renaming length_cons→aam,append_nil→aao,length_append→aar
open _root_.Int renaming toNat_natCast→aap
open Go.DataW renaming TrodAll→aaq
open Go.OpenSpec renaming ofChange→aas
open _root_.Nat renaming le_refl→aat
open _root_.ByteArray renaming empty→aau
set_option maxRecDepth 100000
section
variable {F F':Fz}{w w':World} (hg:Ua F w F' w') (hl:Live F w)
include hg hl
end
section
variable {P:aal}{F:Fz}{B:Nat}{w:World}{a:Act}{ge g:Get}{ow:Nat->Option Nat->Option Nat}
end
section
variable {P:aal}{w:World}
variable {F:Fz}{B:Nat}{a:Act}{ge g:Get}{ow:Nat->Option Nat->Option Nat}
end
section
variable {P:aal}{tt:TT} (htt:dc P tt)
include htt
end
section
variable {P:aal}{w:World}{F:Fz}{B:Nat}
variable {a:Act}{ge g:Get}{ow:Nat->Option Nat->Option Nat}
end
section
variable {P:aal}{w:World}{F:Fz}{B:Nat}
variable {a:Act}{ge g:Get}{ow:Nat->Option Nat->Option Nat}
end
section
variable {P:aal}{w:World}{F:Fz}{B:Nat}{a:Act}{ge raw:Get}{ow:Nat->Option Nat->Option Nat}
end
section
variable {P:aal}{w:World}{F:Fz}{B:Nat}{a:Act}{ge g:Get}{ow:Nat->Option Nat->Option Nat}
end
section
variable {P:aal}{w:World}{F:Fz}{B:Nat}{a:Act}{ge raw:Get}{ow:Nat->Option Nat->Option Nat}
end
section
variable {w w1:World}{F:Fz}{B:Nat}{b:Nat} (hp:Pk w b w1) (hF:Df F w w1)
include hp hF
end
section
variable {P:aal}{tt:TT} (htt:dc P tt) {sp:SP} (hsp:∀f s,spk sp f=some s->Con P f s)
include htt hsp
end
section
variable {B:Nat}{IoB:List Nat}{F0 F:Fz}{e:Env}{tm:Nat->Value}{w:World}{ow:Nat->Option Nat->Option Nat}
end
section
variable {P:aal}
end
section
variable {B:Nat}{IoB:List Nat}{F0 F:Fz}{e:Env}{tm:Nat->Value}{w:World}{ow:Nat->Option Nat->Option Nat}
end
section
variable {P:aal}{B:Nat}{IoB:List Nat}{F0 F:Fz}{e:Env}{tm:Nat->Value}{w:World}{ow:Nat->Option Nat->Option Nat}
end
section
variable {B:Nat}{IoB:List Nat}{F0 F:Fz}{e:Env}{tm:Nat->Value}{w:World}{ow:Nat->Option Nat->Option Nat}
end
section
variable {P:aal}{B:Nat}{IoB:List Nat}{F0 F:Fz}{e:Env}{w:World}{ow:Nat->Option Nat->Option Nat}{a:Act}
end
section
variable {P:aal}
variable {B:Nat}{IoB:List Nat}{F0 F:Fz}{e:Env}{w:World}{ow:Nat->Option Nat->Option Nat}{a:Act}
end
section
variable {P:aal}{tt:TT}{B:Nat}{IoB:List Nat}{F0 F:Fz}{e:Env}{w:World}{ow:Nat->Option Nat->Option Nat}{a:Act}
variable {sp:SP}
end
section
variable {E:Nat->Env}{W:Nat->List Nat}{L:Nat->Bool}
end
section
variable {P:aal}{tt:TT}{sp:SP}{B:Nat}{IoB:List Nat}{F0:Fz}{N:NP}{W0:World}
end
section
variable {B:Nat}{IoB:List Nat}{F0 F:Fz}{e:Env}{tm:Nat->Value}{w:World}{ow:Nat->Option Nat->Option Nat}
end
section
variable {P:aal}{tt:TT}{sp:SP}{B:Nat}{IoB:List Nat}{F0:Fz}{N:NP}{W0:World}
end
section
variable {P:aal}{tt:TT}{sp:SP}{N:NP}{fr:Fr}{c:Code}{e:Env}{n r:Env->Prop}{x:Nat->Env->Prop}
end
open Classical in
section
variable {P:aal}{N:NP}{fr:Fr}{c:Code}{n r:Env->Prop}{x:Nat->Env->Prop}
end
section
variable {P:aal}{tt:TT}{N:NP}{fr:Fr}{c:Code}{e:Env}{n r:Env->Prop}{x:Nat->Env->Prop}
end
section
variable {P:aal}{N:NP}{fr:Fr}{c:Code}{e:Env}{n r:Env->Prop}{x:Nat->Env->Prop}
end
section
variable {P:aal}{tt:TT}{B:Nat}{IoB:List Nat}{F0 F:Fz}{e:Env}{w:World}{ow:Nat->Option Nat->Option Nat}{a:Act}
end
section
variable {P:aal}{tt:TT}{N:NP}{fr:Fr}{c:Code}{e:Env}{n r:Env->Prop}{x:Nat->Env->Prop}
end
section
variable {R A X Y Z:Type}
end
section
variable (tt:TT) (sp:SP) (N:NP) (F:Fnn) (kp:List (Nat×List Nat)) (tb:List (Nat×Nat)) (af:List (Nat×Bool×Nat)) {R:Type} (subs:Gi R)
end
section
variable {P:aal}{tt:TT}{sp:SP}{N:NP}{F:Fnn}{kp:List (Nat×List Nat)}{tb:List (Nat×Nat)}{af:List (Nat×Bool×Nat)}{R:Type}{subs:Gi R}{fr:Fr}{C:Code}{n:Env->Prop}{r:RV->Prop}{x:Nat->Env->Prop}
end
section
variable {P:aal}
end
section
variable {w w':World}{F:Fz}{r:Nat}{B:Nat} (hp:Pk w r w') {o0:Obj} (ho:w.heap[r]? = some o0) (hc:isC o0=false)
include hp ho hc
end
section
variable {P:aal}{N:NP}{B:Nat}{IoB:List Nat}{W0:World}{F0:Fz}{obs:List (Nat×Obj)}{e:Env}{a:Act}{w:World}
end
section
variable {P:aal}{ops:Array Oper}{Q:Exit->Act->World->Prop}
end
section
variable {P:aal}{K n:Nat}
variable {T E:Nat} (M:ID P T K E n) {w:World}{r:Nat}{m:MP} (hr:w.heap[r]? = some (ya m)) (hm:Tb n m) {ks:List Int} (hk:ks.length=n)
include M hr
include hm hk
omit hm hk in
end
section
variable {P:aal}{w:World}{r it:Nat}{m:MP} (hr:w.heap[r]? = some (ya m)) {S:List Nat} (hit:w.heap[it]? = some (Qb r m S))
include hr hit
end
section
variable {P:aal}
end
section
variable {P:aal}{a:Act}{w:World}{o:Oper}
end
section
variable {P:aal}{N:NP}{B:Nat}{IoB:List Nat}{W0:World}{F0:Fz}{obs:List (Nat×Obj)}{e:Env}{a:Act}{w:World}{Q:Exit->Act->World->Prop}
end
section
variable {P:aal}{tt:TT}{sp:SP}{B:Nat}{IoB:List Nat}{F0:Fz}{N:NP}{W0:World}
end
section
variable {P:aal}{N:NP}{B:Nat}{IoB:List Nat}{W0:World}{F0:Fz}{obs:List (Nat×Obj)}{e:Env}{a:Act}{w:World}
end
section
variable {P:aal}{tt:TT}{N:NP}{sp:SP}{fr:Fr}{C:Code}{F:Fnn}{R:Type}
section
variable {A X Y Z:Type} [Dft A] [Dft X] [Dft Y] [Dft Z] {t:Tr R A X Y Z}{path:List Nat}{env:Env}{rv:R->RV}{pn:A->Env}{px:X->Nat×Env}{py:Y->Nat×Env}{pz:Z->Nat×Env}
end
end
section
variable {P:aal}{tt:TT}{sp:SP}
end
section
variable {N:NP}{B:Nat}{IoB:List Nat}{W0:World}{F0:Fz}{obs:List (Nat×Obj)}{e:Env}{a:Act}{w:World}
end
section
variable {F:Fz}{B:Nat}{w w1:World}{b:Nat}{o:Option Nat->Option Nat}
end
section
variable {P:aal}{tt:TT}{sp:SP}{a:Act}{w:World}
end
section
variable {P:aal}{tt:TT}{sp:SP}{B:Nat}{IoB:List Nat}{F0:Fz}{N:NP}{W0:World}
end
section
variable {P:aal}{tt:TT}{sp:SP}{B:Nat}{IoB:List Nat}{F0:Fz}{N:NP}{W0:World}
end
section
open Go Go.Shelf Go.RowKit Go.Lib Go.Sort
section
variable {P:aal}{α:Type} [Inhabited α] {enc:α->List Value}{k:Nat}{w w0 W:World}{blk off:Nat}{d dk X:Array α}
variable {g:Nat}{lb:Array Value}{lt:α->α->Bool}{size:Nat}
end
end
section
open Go Go.Shelf Go.RowKit Go.Lib Go.Sort
variable {P:aal}{ρ:Ren}{α:Type} [Inhabited α]
end
section
open Go Go.Shelf Go.RowKit Go.Lib Go.Sort
variable {P:aal}{ρ:Ren}{α:Type} [Inhabited α]
end
section
open Go Go.Shelf Go.RowKit Go.Lib Go.Sort
variable {P:aal}{ρ:Ren}{α:Type} [Inhabited α]
end
section
open Go Go.Shelf Go.RowKit Go.Lib Go.Sort
variable {P:aal}{ρ:Ren}{α:Type} [Inhabited α]
end
section
open Go Go.Shelf Go.RowKit Go.Lib Go.Sort
variable {P:aal}{ρ:Ren}{α:Type} [Inhabited α]
end
section
open Go Go.Shelf Go.RowKit Go.Lib Go.Sort
variable {P:aal}{ρ:Ren}{α:Type} [Inhabited α]
end
section
open Go Go.Shelf Go.RowKit Go.Lib Go.Sort
variable {P:aal}{ρ:Ren}{α:Type} [Inhabited α]
end
section
open Go Go.ChangeShapes Go.WideShapes Go.ChangeAt Go.RowKit
theorem rak{C:Checked}{os:Os}{H:Type}{enc:TypeId×Value->H}{f:FuncId}{fn:Func}{s:ChangeSpec}{conds:List PathCond}{laid:List (String×DataW Unit)}(own:ownKnob C.prog.godebug=none)(started:os.Started)(noInit:C.prog.inits.idxOf? f=none)(hfn:C.prog.funcs[f]? = some fn)
  (witness:∃(w:World) (tape:Tape) (i:Input),w.os=os/\(w.forCall tape i).Shaped C.prog/\i.vars=[]/\Input.okWide C.prog (w.forCall tape i) .any w.heap.size f i /\
    ((s.pre enc C.prog fn conds false (w.forCall tape i).memory i.args/\laidMetH C.prog laid (w.forCall tape i).memory)/\sizedMet enc C.prog fn (aas s) false (w.forCall tape i).memory i.args)/\({}:Assume).holds C.prog (lone (Frame.enter C.prog f i.args .normal) [] (w.forCall tape i)))
  {t e r:TypeId} (hp:fn.params=#[t]) (hr:fn.resultTypes=#[r]) (ht:C.prog.underlying t=some (.slice e)) (he:C.prog.underlying e=some (.int .u8)) (hce:C.prog.cellsOf e=1) (hrb:C.prog.underlying r=some .bool)
  (hT:∀W,laidMetH C.prog laid W->∀g cs,TabAt g cs->∃t z,W.heap[g]? = some (.cells cs t z))
  (hs:∀d,s.fn H [d]={ results:=[.lit (.bool true)],args:=[d] }) (hv:s.vars=[])
  {v:List Int->Bool}{p:List Int->Prop} (hcon:Con C.prog f ⟨[.lst .byte],.one .fr .bool,false,λx=>(v x.1,0),λx=>p x.1⟩) (h:∀c:List Int,(∀x∈c,0<=x/\x<=255)->p c/\v c=true) :
  ReturnsInHanded {} C os f .any (λw args=>(s.pre enc C.prog fn conds false w args/\laidMetH C.prog laid w)/\sizedMet enc C.prog fn (aas s) false w args) (s.post enc C.prog fn false true false false):=by
 refine returnsInHanded_of_change_and (C:=C) (X:=λw _=>laidMetH C.prog laid w) (λ_ _ _ hh h=>h.of_heap hh) own started noInit hfn witness ?_;intro W base args ds gs before hf hW _ _ hL _;have ha:∀(j:Nat) t v,fn.params[j]? = some t->args[j]? = some v->Value.okWide C.prog W .any base t v:=hf;have hj:=hW;obtain⟨q1,q2,hi,hV,rfl,hn,_⟩:=hW;have hA:aaq enc C.prog W 0 (λ_=>true) true fn.params.toList args.toList ds q1:=hi;rw[hp]at hA ha;obtain⟨v0,d0,rfl,rfl,h0⟩:=trodAll_one hA;rw[hv]at hV;obtain⟨rfl,rfl⟩:=trodVars_none hV;obtain⟨c,F0,hc,ho,hw,hy⟩:=Paj ht he hce h0 (ha 0 t v0 rfl rfl);obtain⟨F,hF,hl⟩:=Qaj F0 ho (hT W hL);have hu:=hw.mono hF (aat _) (λ_ _ _=>rfl);obtain⟨h1,h2⟩:=h c hc;simp only[aao]at hj;refine(hcon.call (c,()) h1 W F [v0] none hl ⟨_,[],rfl,hu,rfl,rfl⟩).mono λe W' he=>?_;obtain⟨v1,F',ow,rfl,hq,_,_,hg,_⟩:=he;have hg:RC F' W.heap.size W' (.bool (v c)) v1:=hg;rw[h2]at hg;have hz:v1=.bool true:=by cases hg;rfl
 subst hz;have hm:Below W.heap.size W W':=⟨hq.os,hq.tape,hq.output,hq.size,λk hk=>hq.block k hk (by simp)⟩;refine⟨_,rfl,[d0],[],q1,[],q1,[],hj,?_,?_,?_,hm.frame _,λh=>by cases h⟩
 .rw[hr];show aaq enc C.prog W' _ _ _ [r] [.bool true] (s.fn H ([d0]++[])).results [];rw[aao,hs];exact trodAll_mk1 (shut_bool hrb true)
 .rw[hp];show aaq enc C.prog W' _ _ _ [t] [v0] (s.fn H ([d0]++[])).args q1;rw[aao,hs];exact trodAll_mk1 (hy W' hm)
 .rw[hv,aao,hs];exact rfl
end
noncomputable section
set_option maxRecDepth 100000
def fan:SP:=[(8,wT),(9,AJ),(10,qW)]
abbrev F6:Fnn:=⟨[.tmp 2],.one .fr .bool,none,[]⟩
def Zam(y _ z:BA)(x:Int):TA Bool BA:=.w [le3 x (ar .add .i64 x 1) (fa y),lim (fa z) (fa (Jc y x (ar .add .i64 x 1)))] (.w [inb x (fa y)] (.c (cmp .eql (Tc y x) 10) (.w [lim (fa (z++(Jc y x (ar .add .i64 x 1)))) (fa (bs [10]))] (.l (.n ((z++(Jc y x (ar .add .i64 x 1)))++(bs [10])))))
 (.l (.n (z++(Jc y x (ar .add .i64 x 1)))))))
def Tam:=λx y a z=>pcT (Zam x y a z) [0,1,0,0,1,0,1,1,1,1,1,1] [(3,.v .fr (.str x)),(4,.v .fr (.str y)),(5,.v .fr (.str a)),(6,.I z)] (rvF F6) (λq=>[(3,.v .fr (.str x)),(4,.v .fr (.str y)),(5,.v .fr (.str q)),(6,.I z)])
def Qam(y a _ z:BA)(x:Int):TX Bool (BA×Int) BA:=.c (cmp .lss x (fa y)) (.sn (Tam y a z x) (λb=>.l (.n (b,(ar .add .i64 x 1)))))
 (.l (.x z))
def gan:=λy x b z a=>pcR (Qam y x b z a) [0,0,1,0,1,1,1,1,1,1] (λq=>[(3,.v .fr (.str y)),(4,.v .fr (.str x)),(5,.v .fr (.str q.1)),(6,.I q.2)]) (z,a) (rvF F6) (λq=>(0,[(4,.v .fr (.str x)),(5,.v .fr (.str q))]))
def Ram:=λy z x=>pcL (λs:BA×Int=>gan y z x s.1 s.2) (x,0)
def aan(x y z:BA):TA Bool BA:=.sx (Ram x y z) (λa=>.l (.n a))
def Uam:=λy x z=>pcT (aan y x z) [0,1,1,1,1,1,1] [(3,.v .fr (.str y)),(4,.v .fr (.str x)),(5,.v .fr (.str z))] (rvF F6) (λq=>[(4,.v .fr (.str x)),(5,.v .fr (.str q))])
def Vam(z:LB):TN Bool:=.c (cmp .gtr (ba .byte z) 1048576) (.l (.r true))
 (.k (uG z) λx=>.w [vG z] (.k (xk x) λy=>.w [Ix x] (.w [fB x] (.c (cond (!(seq y (eB x))) true (cmp .gtr (fa x) 999)) (.w [fB x] (.l (.r (seq y (eB x)))))
 (.sn (Uam x y (bs [10])) (λa=>.w [Ix a] (.l (.r (seq (xk a) y)))))))))
def Wam(x:LB):Bool:=ocR (Vam x).val
def Xam(x:LB):Prop:=(Vam x).ob
def ban:Spec:=spF [(.lst .byte)] (.one .fr .bool) Wam Xam
theorem han(G:Gd fan):CP 6 ban:=ma (F:=F6) (fn:=Tryz.f6) G λ_ _=>ia G (λe=>⟨Uam (gS e 3 0) (gS e 4 0) (gS e 5 0)⟩) λ_=>ia G (λe=>⟨Ram (gS e 3 0) (gS e 4 0) (gS e 5 0)⟩) λ_=>ra λ_=>ia G (λe=>⟨Tam (gS e 3 0) (gS e 4 0) (gS e 5 0) (gI e 6 0)⟩) λ_=>ka G
end
section
namespace Ds
open Go
set_option maxRecDepth 100000
section
variable {P:aal}{tt:TT}{N:NP}{fr:Fr}{Cd:Code}{F:Fnn}{R A X Y Z:Type}
end
end Ds
end
section
variable {P:aal}{K n:Nat}
variable {T E:Nat} (M:PX P T K E n) {w:World}{r:Nat}{S:Aa} (hr:w.heap[r]? = some (Va S)) (hm:Cc n S) {ks:List Int} (hk:ks.length=n)
include M hr hm hk
end
section
open Go Tg
section
variable {a:List Row} (hr:Nb a=true) {kind:Int} (hkind:1<=kind/\kind<=3)
include hr hkind
end
end
section
variable {d m:Nat} (ih:∀w:List ByteArray,w.length<=1000000->(nb m).2 w (d:Int)/\((nb m).1 w (d:Int)).2.1.length<=w.length/\∀p r,okM d p=true->w=Rc d p++r->(nb m).1 w (d:Int)=(p,r,true,()))
 {D:Int} (hsub:ar .sub .i64 D 1=(d:Int)) {w1:List ByteArray} (hw:w1.length<=1000000)
include ih hsub hw
variable {w0:ByteArray}
end
section
variable {d m:Nat}{D:Int}{w0:ByteArray}{w1:List ByteArray} (h0:(bl w0).length<=1000000)
include h0
end
section
variable {d m:Nat} (ih:∀w:List ByteArray,w.length<=1000000->(∀x∈w,(bl x).length<=1000000)->(xb m).2 w (d:Int)/\(∃k,((xb m).1 w (d:Int)).2.1=w.drop k)/\∀p r,okM d p=true->w=Rc d p++r->(xb m).1 w (d:Int)=(p,r,()))
 {D:Int} (hsub:ar .sub .i64 D 1=(d:Int)) {w1:List ByteArray} (hw:w1.length<=1000000) (hb:∀x∈w1,(bl x).length<=1000000)
include ih hsub hw hb
end
open Classical in
section
open Go Tg
def dup(l:List UInt8):List UInt8:=l.flatMap λc=>if c=10 then [10,10] else [c]
theorem dan(l:List UInt8)(x:UInt8):dup (l++[x])=dup l++(if x=10 then [10,10] else [x]):=by simp[dup]
theorem Yam:∀l:List UInt8,(dup l).length<=2*l.length
 |[]=>aat _
 |x::r=>by
  have:=Yam r;show((if x=10 then [10,10] else [x])++dup r).length<=_;rw[aar,aam];split<;>simp<;>omega
def ne0(w:List (List UInt8)):List (List UInt8):=w.filter λx=>!x.isEmpty
theorem ean:∀l:List UInt8,∃h t t',spl 10 (dup l)=h::t/\spl 10 l=h::t'/\ne0 t=ne0 t'
 |[]=>⟨[],[],[],rfl,rfl,rfl⟩
 |x::r=>by
  obtain⟨h,t,t',h1,h2,h3⟩:=ean r;by_cases hx:x=10
  .subst hx;refine⟨[],[]::spl 10 (dup r),spl 10 r,?_,?_,?_⟩
   .show spl 10 (10::10::dup r)=_;rw[gi,if_pos rfl,gi,if_pos rfl]
   .rw[gi,if_pos rfl]
   .rw[h1,h2];show ne0 (h::t)=ne0 (h::t');cases h with
    |nil=>exact h3
    |cons a b=>show(a::b)::ne0 t=(a::b)::ne0 t';rw[h3]
  .refine⟨x::h,t,t',?_,?_,h3⟩
   .have e:dup (x::r)=x::dup r:=by
     show(if x=10 then [10,10] else [x])++dup r=_;rw[if_neg hx];rfl
    rw[e,gi,if_neg hx,h1]
   .rw[gi,if_neg hx,h2]
theorem Sam:∀(w:List (List UInt8)) (v:Sess×ByteArray),Se v (w.map mkB)=Se v ((ne0 w).map mkB)
 |[],_=>rfl
 |[]::w,v=>by
  show Se (Ng v (mkB [])) (w.map mkB)=_;rw[step_nil,Sam w v];rfl
 |(a::b)::w,v=>by
  show Se (Ng v (mkB (a::b))) (w.map mkB)=Se (Ng v (mkB (a::b))) ((ne0 w).map mkB);rw[Sam w]
theorem Kan(v:Sess×ByteArray)(l:List UInt8):aak v (10::dup l)=aak v l:=by
 obtain⟨h,t,t',h1,h2,h3⟩:=ean l;unfold aak;rw[gi,if_pos rfl,Sam,Sam (spl 10 l),h1,h2];show Se v ((ne0 (h::t)).map mkB)=_;cases h with
 |nil=>show Se v ((ne0 t).map mkB)=Se v ((ne0 t').map mkB);rw[h3]
 |cons a b=>show Se v (((a::b)::ne0 t).map mkB)=Se v (((a::b)::ne0 t').map mkB);rw[h3]
theorem Lan(c:List Int)(hc:∀x∈c,0<=x/\x<=255):Xam c/\Wam c=true:=by
 obtain⟨d1,d2⟩:=Zaj hc;have hI:=λt=>(Xaj t).1;have vI:=λt=>(Xaj t).2;have hS:=λt=>(Yaj t).1;have vS:=λt=>(Yaj t).2;simp only[Xam,Wam,Vam,Uam,aan,pcT,Tr.val,Tr.ob,ga,vI,vS,fg,decide_true,Bool.not_true,cond_false];cases hbig:cmp .gtr (ba .byte c) 1048576 with
 |true=>exact⟨by simp,rfl⟩
 |false=>
  generalize uG c=T at d2⊢;have hz:=uc T;cases h1:cmp .gtr (fa T) 999 with
  |true=>exact⟨by simp[d1,hI,hS],rfl⟩
  |false=>
   rw[hz,Lb]at h1;have h1:=of_decide_eq_false h1
   have k:ua (λs:ByteArray×Int=>Qam T (Cr T) (bs [10]) s.1 s.2) (bs [10],0) (.x (mkB (10::dup (bl T)))):=by
    refine la.fold (bl T) (λi b=>(b,(i:Int))) (λl=>mkB (10::dup l)) rfl (λl x r hx=>?_) ?_
    .have hlen:(bl T).length=l.length+(r.length+1):=by rw[hx];simp
     have hj:inb (l.length:Int) (fa T):=⟨by omega,by omega⟩;have hl:cmp .lss (l.length:Int) (fa T)=true:=by rw[Ra];exact decide_eq_true hj.2
     have hm:=Ea (l:=l) (by omega)
     have hn:Jc T (l.length:Int) ((l.length+1:Nat):Int)=mkB [x]:=Mg (by
      rw[nr,hx,vf,aap,aap,List.take_append,List.take_of_length_le (by omega),show l.length+1 - l.length=1 by omega];simp)
     have ho:cmp .eql (Tc T (l.length:Int)) 10=decide (x=10):=by
      rw[mr,aap,List.getD_eq_getElem?_getD,hx];simp only[List.getElem?_append_right (aat _),Nat.sub_self,List.getElem?_cons_zero,Option.getD_some];rw[mb];exact decide_eq_decide.2 ⟨λe=>UInt8.toNat_inj.1 (by show _=10;omega),λe=>by rw[e];rfl⟩
     have hk:le3 (l.length:Int) ((l.length+1:Nat):Int) (fa T):=⟨by omega,by omega,by omega⟩;have hh:=Yam l;have m1:lim (fa (mkB (10::dup l))) (fa (mkB [x])):=zf (by simp only[vf,aam,List.length_nil];omega);have m2:lim (fa (mkB (10::dup l)++mkB [x])) (fa (bs [10])):=zf (by simp only[Pb,vf,tc,aar,aam,List.length_nil];omega);simp only[Qam,Tam,Zam,pcT,Tr.val,Tr.ob,ga,hl,hm,hn,ho];by_cases h:x=10
     .rw[decide_eq_true h];refine⟨⟨λ_=>by simp[hj,m1,m2];exact hk,λh=>nomatch h⟩,?_⟩;have e:mkB (10::dup l)++mkB [x]++bs [10]=mkB (10::dup (l++[x])):=Mg (by rw[dan,if_pos h,h];simp);simp only[e,na]
     .rw[decide_eq_false h];refine⟨⟨λ_=>by simp[hj,m1];exact hk,λh=>nomatch h⟩,?_⟩;have e:mkB (10::dup l)++mkB [x]=mkB (10::dup (l++[x])):=Mg (by rw[dan,if_neg h];simp);simp only[e,na]
    .have hi:cmp .lss ((bl T).length:Int) (fa T)=false:=by rw[Ra];exact decide_eq_false (by omega)
     simp only[Qam,Tr.val,Tr.ob,hi];exact⟨by simp,rfl⟩
   have a2:(Ram T (Cr T) (bs [10])).o=_:=k.v;have b2:(Ram T (Cr T) (bs [10])).ob:=k.t;have hh:=Yam (bl T)
   have e:Cr (mkB (10::dup (bl T)))=Cr T:=by
    rw[bak (t:=T) (by omega),bak (by rw[vf,aam];omega)];show(aak (s0,aau) (10::dup (bl T))).2=(aak (s0,aau) (bl T)).2;rw[Kan]
   simp only[a2,e,ocR,decide_true];exact⟨by simp[d1,hI,hS,b2],trivial⟩
end
section
open Go Go.Proofs Go.Shelf Go.RowKit Go.Lib
section
variable {P:aal}{ρ:Ren}
end
end
theorem ian:CP 6 ban:=han (.cons Maj (.cons Naj (.cons Oaj g0)))
end Go.Proofs.YteogppapbognjaaGreatDoor
