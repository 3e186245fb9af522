/-
  How the abstract state follows the machine's: what a new value, or more memory, leaves as it was. Each operation's run, as the abstract evaluator tells it: those that make no memory. Each operation's run, as the abstract evaluator tells it: addresses, loads, indices. No statement is proved here.
-/
import Derived.Test.YteogppapbognjaaGreatDoorB3
import Derived.Test.YteogppapbognjaaGreatDoorProg
import Derived.LaidMore
import Derived.Lay
import Derived.Stop.Joined
namespace Go.Proofs.YteogppapbognjaaGreatDoor
open Go
open Go renaming Program→aal
open _root_.ByteArray renaming empty→aan
open _root_.List renaming append_nil→aao
open Go.DataW renaming TrodAll→aap
open Go.OpenSpec renaming ofChange→aaq
set_option maxRecDepth 100000
open Classical in
section
variable {P:aal}{K n:Nat}
variable {T E:Nat} (M:ID P T K E n) {w:World}{r:Nat}{m:MP} (hr:w.heap[r]? = some (ya m)) (hm:Tb n m) {ks:List Int} (hk:ks.length=n)
include M hr
include hm hk
omit hm hk in
end
section
open Go Go.ChangeShapes Go.WideShapes Go.ChangeAt Go.RowKit
theorem mam{C:Checked}{os:Os}{H:Type}{enc:TypeId×Value->H}{f:FuncId}{fn:Func}{s:ChangeSpec}{conds:List PathCond}{laid:List (String×DataW Unit)}(own:ownKnob C.prog.godebug=none)(started:os.Started)(noInit:C.prog.inits.idxOf? f=none)(hfn:C.prog.funcs[f]? = some fn)
  (witness:∃(w:World) (tape:Tape) (i:Input),w.os=os/\(w.forCall tape i).Shaped C.prog/\i.vars=[]/\Input.okWide C.prog (w.forCall tape i) .any w.heap.size f i /\
    ((s.pre enc C.prog fn conds false (w.forCall tape i).memory i.args/\laidMetH C.prog laid (w.forCall tape i).memory)/\sizedMet enc C.prog fn (aaq s) false (w.forCall tape i).memory i.args)/\({}:Assume).holds C.prog (lone (Frame.enter C.prog f i.args .normal) [] (w.forCall tape i)))
  {t e r:TypeId} (hp:fn.params=#[t,t]) (hr:fn.resultTypes=#[r]) (ht:C.prog.underlying t=some (.slice e)) (he:C.prog.underlying e=some (.int .u8)) (hce:C.prog.cellsOf e=1) (hrb:C.prog.underlying r=some .bool)
  (hT:∀W,laidMetH C.prog laid W->∀g cs,TabAt g cs->∃t z,W.heap[g]? = some (.cells cs t z))
  (hs:∀d d',s.fn H [d,d']={ results:=[.lit (.bool true)],args:=[d,d'] }) (hv:s.vars=[])
  {v:List Int->List Int->Bool}{p:List Int->List Int->Prop} (hcon:Con C.prog f ⟨[.lst .byte,.lst .byte],.one .fr .bool,false,λx=>(v x.1 x.2.1,0),λx=>p x.1 x.2.1⟩) (h:∀c c':List Int,(∀x∈c,0<=x/\x<=255)->(∀x∈c',0<=x/\x<=255)->p c c'/\v c c'=true) :
  ReturnsInHanded {} C os f .any (λw args=>(s.pre enc C.prog fn conds false w args/\laidMetH C.prog laid w)/\sizedMet enc C.prog fn (aaq s) false w args) (s.post enc C.prog fn false true false false):=by
 refine returnsInHanded_of_change_and (C:=C) (X:=λw _=>laidMetH C.prog laid w) (λ_ _ _ hh h=>h.of_heap hh) own started noInit hfn witness ?_;intro W base args ds gs before io hW _ _ hL _;have ih:∀(j:Nat) t v,fn.params[j]? = some t->args[j]? = some v->Value.okWide C.prog W .any base t v:=io;have hj:=hW;obtain⟨q1,q2,hi,hV,rfl,ho,_⟩:=hW;have hA:aap enc C.prog W 0 (λ_=>true) true fn.params.toList args.toList ds q1:=hi;rw[hp]at hA ih;obtain⟨v0,v1,d0,d1,qa,qb,rfl,rfl,rfl,h0,h1⟩:=trodAll_two hA;rw[hv]at hV;obtain⟨rfl,rfl⟩:=trodVars_none hV;obtain⟨c,Fa,hc,hq,hy,ha⟩:=Paj ht he hce h0 (ih 0 t v0 rfl rfl);obtain⟨c',Fb,hn,hu,hz,hf⟩:=Paj ht he hce h1 (ih 1 t v1 rfl rfl);obtain⟨F,hF,hl⟩:=Qaj (λb o=>Fa b o\/Fb b o) (λb o h=>h.elim (hq b o) (hu b o)) (hT W hL);obtain⟨g1,g2⟩:=h c c' hc hn;simp only[aao]at hj
 refine(hcon.call (c,c',()) g1 W F [v0,v1] none hl
  ⟨_,_,rfl,hy.mono (λ_ _ h=>hF _ _ (.inl h)) (Nat.le_refl _) (λ_ _ _=>rfl),_,[],rfl,hz.mono (λ_ _ h=>hF _ _ (.inr h)) (Nat.le_refl _) (λ_ _ _=>rfl),rfl,rfl⟩).mono λe W' he=>?_
 obtain⟨w1,F2,ow,rfl,hw,_,_,it,_⟩:=he;have it:RC F2 W.heap.size W' (.bool (v c c')) w1:=it;rw[g2]at it;have hg:w1=.bool true:=by cases it;rfl
 subst hg;have hm:Below W.heap.size W W':=⟨hw.os,hw.tape,hw.output,hw.size,λk hk=>hw.block k hk (by simp)⟩;refine⟨_,rfl,[d0,d1],[],qa++qb,[],qa++qb,[],hj,?_,?_,?_,hm.frame _,λh=>by cases h⟩
 .rw[hr];show aap enc C.prog W' _ _ _ [r] [.bool true] (s.fn H ([d0,d1]++[])).results [];rw[aao,hs];exact trodAll_mk1 (shut_bool hrb true)
 .rw[hp];show aap enc C.prog W' _ _ _ [t,t] [v0,v1] (s.fn H ([d0,d1]++[])).args (qa++qb);rw[aao,hs];exact trodAll_mk2 (ha W' hm) (hf W' hm)
 .rw[hv,aao,hs];exact rfl
end
noncomputable section
set_option maxRecDepth 100000
def nal:SP:=[]
abbrev F11:Fnn:=⟨[.tmp 4],.one .fr .bool,none,[]⟩
def gal(y x:BA):TN Bool:=.w [((cmp .leq (fa x) (fa y))&&true)=true->le3 0 (fa x) (fa y)] (.l (.r (cond (cmp .leq (fa x) (fa y)) (seq (Jc y 0 (fa x)) x) false)))
def eal(x:BA)(y:BA):Bool:=ocR (gal x y).val
def fal(x:BA)(y:BA):Prop:=(gal x y).ob
def ial:Spec:=spF [.str,.str] (.one .fr .bool) eal fal
theorem oal(G:Gd nal):CP 11 ial:=ma (F:=F11) (fn:=Tryz.f11) G λ_ _=>ka G
def iam:SP:=[(8,wT),(9,AJ),(10,qW),(11,ial)]
abbrev F5:Fnn:=⟨[.tmp 4],.one .fr .bool,none,[]⟩
def aam(y _:BA)(_ x:Int):TX Bool Int Int:=.w [((cmp .gtr x 0)&&true)=true->inb (ar .sub .i64 x 1) (fa y)] (.c (cond (cmp .gtr x 0) (cmp .neq (Tc y (ar .sub .i64 x 1)) 10) false) (.l (.n (ar .sub .i64 x 1)))
 (.l (.x x)))
def jam:=λx y a z=>pcR (aam x y a z) [0,0,0,1,1,1,1,1,1] (λq=>[(5,.v .fr (.str x)),(6,.v .fr (.str y)),(7,.I q)]) z (rvF F5) (λq=>(0,[(5,.v .fr (.str x)),(6,.v .fr (.str y)),(7,.I q)]))
def bam:=λy z x=>pcL (λs:Int=>jam y z x s) x
def gam(x y:BA)(z:Int):TA Bool Int:=.sx (bam x y z) (λa=>.l (.n a))
def cam:=λx y z=>pcT (gam x y z) [0,1,1,1,1,1,1] [(5,.v .fr (.str x)),(6,.v .fr (.str y)),(7,.I z)] (rvF F5) (λq=>[(5,.v .fr (.str x)),(6,.v .fr (.str y)),(7,.I q)])
def dam(z b:LB):TN Bool:=.c (cond (cmp .gtr (ba .byte z) 1048576) true (cmp .gtr (ba .byte b) 1048576)) (.l (.r true))
 (.k (uG z) λx=>.w [vG z] (.k (xk x) λy=>.w [Ix x] (.w [fB x] (.c (cond (cond (!(seq y (eB x))) true (cmp .gtr (fa x) 2000)) true (cmp .eql (fa x) 0)) (.w [fB x] (.l (.r (seq y (eB x)))))
 (.w [((fa x):Int)≠0] (.sn (cam x y (ar .rem .i64 (ba .byte b) (fa x))) (λa=>.k (xk (Jc x 0 a)) λc=>.w [le3 0 a (fa x),Ix (Jc x 0 a),fal y c] (.l (.r (eal y c))))))))))
def eam(x:LB)(y:LB):Bool:=ocR (dam x y).val
def fam(x:LB)(y:LB):Prop:=(dam x y).ob
def ham:Spec:=spF [(.lst .byte),(.lst .byte)] (.one .fr .bool) eam fam
theorem kam(G:Gd iam):CP 5 ham:=ma (F:=F5) (fn:=Tryz.f5) G λ_ _=>ia G (λe=>⟨cam (gS e 5 0) (gS e 6 0) (gI e 7 0)⟩) λ_=>ia G (λe=>⟨bam (gS e 5 0) (gS e 6 0) (gI e 7 0)⟩) λ_=>ra λ_=>ka G
end
section
namespace Ds
open Go
set_option maxRecDepth 100000
end Ds
end
theorem Tak(a:ByteArray):aan++a=a:=Mg (by simp)
section
variable {d m:Nat} (ih:∀w:List ByteArray,w.length<=1000000->(nb m).2 w (d:Int)/\((nb m).1 w (d:Int)).2.1.length<=w.length/\∀p r,okM d p=true->w=Rc d p++r->(nb m).1 w (d:Int)=(p,r,true,()))
 {D:Int} (hsub:ar .sub .i64 D 1=(d:Int)) {w1:List ByteArray} (hw:w1.length<=1000000)
include ih hsub hw
variable {w0:ByteArray}
end
section
variable {d m:Nat} (ih:∀w:List ByteArray,w.length<=1000000->(∀x∈w,(bl x).length<=1000000)->(xb m).2 w (d:Int)/\(∃k,((xb m).1 w (d:Int)).2.1=w.drop k)/\∀p r,okM d p=true->w=Rc d p++r->(xb m).1 w (d:Int)=(p,r,()))
 {D:Int} (hsub:ar .sub .i64 D 1=(d:Int)) {w1:List ByteArray} (hw:w1.length<=1000000) (hb:∀x∈w1,(bl x).length<=1000000)
include ih hsub hw hb
end
open Classical in
section
open Go Tg
theorem eak:∀(w:List ByteArray) (s:Sess) (o:ByteArray),Se (s,o) w=((Se (s,aan) w).1,o++(Se (s,aan) w).2)
 |[],s,o=>by simp[Se]
 |l::w,s,o=>by
  show Se (Ng (s,o) l) w=((Se (Ng (s,aan) l) w).1,o++(Se (Ng (s,aan) l) w).2);unfold Ng;by_cases h:l=aan
  .rw[if_pos h,if_pos h,eak w s o]
  .rw[if_neg h,if_neg h];simp only[Tak];rw[eak w _ (o++_),eak w _ (_++bs [10])];simp only[Lk]
theorem jak(c:UInt8)(r:List UInt8):∀l:List UInt8,spl c (l++c::r)=spl c l++spl c r
 |[]=>by simp[spl]
 |x::l=>by
  rw[List.cons_append,gi,gi,jak c r l];split
  .rfl
  .cases h:spl c l with
   |nil=>exact absurd h (pr c l)
   |cons a t=>rfl
theorem Uak{a:List UInt8}(h:Bf a)(v:Sess×ByteArray)(b:List UInt8):aak v (a++b)=aak (aak v a) b:=by
 rcases h with rfl|⟨a,rfl⟩
 .show _=aak (Ng v (mkB [])) b;rw[step_nil];rfl
 .unfold aak;rw[List.append_assoc,List.singleton_append,jak,jak,List.map_append,List.map_append,Baj,Baj];show _=Se (Ng (Se v ((spl 10 a).map mkB)) (mkB [])) _;rw[step_nil]
theorem Vak(l:List UInt8)(s:Sess)(o:ByteArray):aak (s,o) l=((aak (s,aan) l).1,o++(aak (s,aan) l).2):=eak _ s o
theorem Wak{a b:List UInt8}(h:Bf a):Qk (mkB (a++b))=Qk (mkB a)++(aak ((aak (s0,aan) a).1,aan) b).2:=by
 show(aak (s0,aan) (a++b)).2=(aak (s0,aan) a).2++_;rw[Uak h,Vak b (aak (s0,aan) a).1 (aak (s0,aan) a).2]
theorem Wal{a b c:ByteArray}(h:a=b++c):fal a b/\eal a b=true:=by
 have hl:(bl a).length=(bl b).length+(bl c).length:=by rw[h,Pb,List.length_append]
 have hi:=uc a;have hj:=uc b
 have hc:cmp .leq (fa b) (fa a)=true:=by
  show decide (fa b<=fa a)=true;exact decide_eq_true (by omega)
 have hs:Jc a 0 (fa b)=b:=Mg (by rw[nr,h,Pb,hj];simp);have hh:le3 0 (fa b) (fa a):=⟨Int.le_refl _,by omega,by omega⟩;simp only[fal,eal,gal,Tr.val,Tr.ob,ga,hc,hs,fg,ocR];exact⟨by simp[hh],by simp⟩
theorem Oam(T S:ByteArray){k:Nat}(hk:k<=(bl T).length)(hT:(bl T).length<=2000):∃n:Nat,(bam T S k).o=.x (n:Int)/\(bam T S k).ob/\n<=k/\Bf ((bl T).take n):=by
 have hz:=uc T
 have key:∃q,ua (λs:Int=>aam T S k s) (k:Int) q/\∃n:Nat,q=.x (n:Int)/\n<=k/\Bf ((bl T).take n):=by
  refine la.list (List.range k) (λi (_:Unit)=>((k - i:Nat):Int)) (λ_ _=>True) (b0:=()) rfl trivial (λl x r _ hx _=>?_) (λ_ _=>?_)
  .have hlen:k=l.length+(r.length+1):=by have:=congrArg List.length hx;simpa using this
   obtain⟨m,hm⟩ : ∃m,k - l.length=m+1:=⟨r.length,by omega⟩;rw[hm];have hg:cmp .gtr ((m+1:Nat):Int) 0=true:=by rw[Lb];exact decide_eq_true (by omega)
   have hs:ar .sub .i64 ((m+1:Nat):Int) 1=(m:Int):=by rw[fh (by omega)];omega
   have hh:inb (m:Int) (fa T):=⟨by omega,by omega⟩
   have hj:cmp .neq (Tc T (m:Int)) 10=!decide ((bl T).getD m 0=10):=by
    rw[mr,Int.toNat_natCast];show(!((((bl T).getD m 0).toNat:Int) == 10))=_;generalize (bl T).getD m 0=y;by_cases h:y=10
    .subst h;rfl
    .rw[decide_eq_false h];have:¬ ((y.toNat:Int)=10):=λe=>h (UInt8.toNat_inj.1 (by show _=10;omega));simp[this]
   simp only[aam,Tr.val,Tr.ob,ga,hg,hs,hj];by_cases h:(bl T).getD m 0=10
   .rw[decide_eq_true h];refine⟨by simp[hh],.inr ⟨_,rfl,m+1,rfl,by omega,.inr ⟨(bl T).take m,?_⟩⟩⟩;have hi:m<(bl T).length:=by omega
    rw[List.getD_eq_getElem?_getD,List.getElem?_eq_getElem hi]at h;rw[List.take_succ_eq_append_getElem hi];have h:(bl T)[m]=10:=h;rw[h]
   .rw[decide_eq_false h];refine⟨by simp[hh],.inl ⟨(),?_,trivial⟩⟩;rw[show k - (l.length+1)=m by omega];rfl
  .have he:((k - (List.range k).length:Nat):Int)=0:=by simp
   rw[he];have hg:cmp .gtr 0 0=false:=rfl;simp only[aam,Tr.val,Tr.ob,ga,hg];exact⟨by simp,_,rfl,0,rfl,by omega,.inl rfl⟩
 obtain⟨q,k1,n,rfl,k2,k3⟩:=key;exact⟨n,k1.v,k1.t,k2,k3⟩
theorem Pam(c c':List Int)(hc:∀x∈c,0<=x/\x<=255)(_:∀x∈c',0<=x/\x<=255):fam c c'/\eam c c'=true:=by
 obtain⟨d1,d2⟩:=Zaj hc;have hI:=λt=>(Xaj t).1;have vI:=λt=>(Xaj t).2;have hS:=λt=>(Yaj t).1;have vS:=λt=>(Yaj t).2;simp only[fam,eam,dam,cam,gam,pcT,Tr.val,Tr.ob,ga,vI,vS,fg,decide_true,Bool.not_true,cond_false];cases hbig:cond (cmp .gtr (ba .byte c) 1048576) true (cmp .gtr (ba .byte c') 1048576) with
 |true=>exact⟨by simp,rfl⟩
 |false=>
  generalize uG c=T at d2⊢;have hz:=uc T;by_cases h1:0<(bl T).length/\(bl T).length<=2000
  .have e1:cmp .gtr (fa T) 2000=false:=by rw[hz,Lb];exact decide_eq_false (by omega)
   have e2:cmp .eql (fa T) 0=false:=by rw[hz,mb];exact decide_eq_false (by omega)
   have e3:¬ ((fa T:Int)=0):=by omega
   have hr:ar .rem .i64 (ba .byte c') (fa T)=((c'.length % (bl T).length:Nat):Int):=by
    rw[Xj,hz];show((c'.length:Nat):Int).tmod _=_;rw[Int.tmod_eq_emod_of_nonneg (by omega)];rfl
   have hi:=Nat.mod_lt c'.length h1.1;generalize c'.length % (bl T).length=k at hr hi;obtain⟨n,n1,n2,n3,n4⟩:=Oam T (Cr T) (k:=k) (by omega) h1.2;have hj:Jc T 0 (n:Int)=mkB ((bl T).take n):=Mg (by rw[nr,vf];simp);have hh:le3 0 (n:Int) (fa T):=⟨Int.le_refl _,by omega,by omega⟩
   have e4:Cr T=Cr (mkB ((bl T).take n))++(aak ((aak (s0,aan) ((bl T).take n)).1,aan) ((bl T).drop n)).2:=by
    rw[bak h1.2,bak (by rw[vf,List.length_take];omega),<-Wak n4,List.take_append_drop,Gm]
   obtain⟨b1,b2⟩:=Wal e4;simp only[e1,e2,hr,n1,hj,b2,ocR,cond_false];exact⟨by simp[d1,hI,hS,e3,n2,hj,hh,b1],trivial⟩
  .have e1:cond (cmp .gtr (fa T) 2000) true (cmp .eql (fa T) 0)=true:=by
    rw[hz,Lb,mb,Km];exact decide_eq_true (by omega)
   simp only[e1,ocR];exact⟨by simp[d1,hI,hS],trivial⟩
end
theorem ral:CP 11 ial:=oal (g0)
theorem lam:CP 5 ham:=kam (.cons Maj (.cons Naj (.cons Oaj (.cons ral g0))))
end Go.Proofs.YteogppapbognjaaGreatDoor
