/-
  Printed by a program: what functions compute, and their contracts (part 2). 'DrawPlanFlow' by hand: a list of lists that is cut and written. Sums over changes, and what is left of them when they are put in order. Sums but for multiples of 2 to the power of 64: what is left of changes put in order depends on these alone. Maps from structs of numbers to 'true': sets; how the machine's operations on them run. Batches aggregated: the program's function and the reference's. Laws of plans over batches: that they make batches; that what is taken away twice is there, and a plan and its taking away make nothing; that a plan makes of its parts what they make. Printed by a program: the contracts, with those of the callees. No statement is proved here.
-/
import Derived.Test.YthfkpijcajdnhaaGreatB2
import Derived.IntWalk

namespace Go.Proofs.YthfkpijcajdnhaaGreat
open Go
noncomputable section
set_option maxRecDepth 100000
def Hat:SP:=[(12,wu),(13,bI),(14,IJ),(15,MJ),(17,mI)]
abbrev F4:Fnn:=⟨[.tmp 2],.one .fr .bool,none,[]⟩
abbrev rv4:Bool→RV:=fun q=>(some (RT.av (.one .fr .bool) q),.dead)
abbrev Ok4 (fr:Fr) {A X Y Z:Type} (S:da Bool A X Y Z):Prop:=ua Tryz.prog tt ⟨Tryz.f4.ntmps,none,[]⟩ fr (ia Tryz.f4) F4 S
def Aat (a0:LB):Tr Bool Empty Empty Empty Empty :=
 .c (cmp .gtr (aa .byte a0) 1048576)
 (.l (.r true))
 (.k (Qg a0) fun u2=>.w [(ij a0)] (.k (ao (Plan.mk u2.1.Kind u2.1.Num u2.1.Kids) u2.2.1) fun u3=>.w [(eo (Plan.mk u2.1.Kind u2.1.Num u2.1.Kids) u2.2.1)] (.k (Ip (Plan.mk u2.1.Kind u2.1.Num u2.1.Kids) u2.2.1) fun u4=>.w [(Jp (Plan.mk u2.1.Kind u2.1.Num u2.1.Kids) u2.2.1)] (.k (vC u4.1 u3.1) fun u5=>.w [(((!(!(u4.2.1 == u3.2.1)))&&true)=true→(wC u4.1 u3.1))] (.c (cond (cond (!(u4.2.1 == u3.2.1)) true (!u5)) true (!u4.2.1))
 (.w [(((u4.2.1 == u3.2.1)&&true)=true→(wC u4.1 u3.1))] (.l (.r (cond (u4.2.1 == u3.2.1) u5 false))))
 (.k (Ip (Plan.mk 3 0 [(Plan.mk u2.1.Kind u2.1.Num u2.1.Kids),(Plan.mk 4 0 [(Plan.mk u2.1.Kind u2.1.Num u2.1.Kids)])]) u2.2.1) fun u7=>.w [(Jp (Plan.mk 3 0 [(Plan.mk u2.1.Kind u2.1.Num u2.1.Kids),(Plan.mk 4 0 [(Plan.mk u2.1.Kind u2.1.Num u2.1.Kids)])]) u2.2.1)] (.w [(Qy (Plan.mk 3 0 [(Plan.mk u2.1.Kind u2.1.Num u2.1.Kids),(Plan.mk 4 0 [(Plan.mk u2.1.Kind u2.1.Num u2.1.Kids)])]))] (.l (.r (cond (u7.2.1 == (Py (Plan.mk 3 0 [(Plan.mk u2.1.Kind u2.1.Num u2.1.Kids),(Plan.mk 4 0 [(Plan.mk u2.1.Kind u2.1.Num u2.1.Kids)])]))) (cmp .eql (aa .row u7.1) 0) false))))))))))
def Bat:=fun a0=>(Aat a0).val
def Cat:=fun a0=>(Aat a0).ob
def Iat:=fun a0=>da.mk (Bat a0) (Cat a0) [] [(0,.S .byte a0)] rv4 nE nE nE nE
theorem Sat (G:Good Tryz.prog tt Hat) {fr:Fr}:∀ a0,Ok4 fr (Iat a0) :=
 fun a0=>fa G [] trivial [(0,[0]),(1,[0,14]),(2,[2]),(3,[3,4]),(4,[3,4,5,6]),(5,[3,4,5,6,7,8]),(6,[3,4,5,6,7,8,44]),(7,[2]),(8,[4,9]),(9,[9,10,11]),(10,[2])] [] [] (Aat a0) rfl rfl (by kernel_rfl)
def Dat (a0:LB):Bool:=ocR (Bat a0)
def Eat (a0:LB):Prop:=Cat a0
def Jat:Spec:=⟨[(.lst .byte)],.one .fr .bool,false,fun x=>(Dat x.1,0),fun x=>Eat x.1⟩
theorem Tat (G:Good Tryz.prog tt Hat):Con Tryz.prog 4 Jat :=
 Ca (pts:=[(.lst .byte)]) (rt:=.one .fr .bool) (o:=fun x=>Bat x.1) (ob:=fun x=>Cat x.1) G (fn:=Tryz.f4) (c:=ia Tryz.f4) (by kernel_rfl) (by kernel_rfl) (by kernel_rfl) (rs:=[.tmp 2]) (fz:=F4.fz) (by kernel_rfl) (by kernel_rfl) (fun _=>rfl) rfl (fun x=>Iat x.1) (fun _=>⟨rfl,rfl,rfl,rfl,rfl⟩) (fun x _=>Sat G x.1)
end
end Go.Proofs.YthfkpijcajdnhaaGreat

namespace Go.Proofs.YthfkpijcajdnhaaGreat
namespace Dp
open Go
set_option maxRecDepth 100000
section
variable {Q:Exit→Act→World→Prop} {B:Nat} {W0:World} {F0:Fz} {a:Act} {w:World} {p:Plan} {l:List LR}
end
end Dp
end Go.Proofs.YthfkpijcajdnhaaGreat

namespace Go.Proofs.YthfkpijcajdnhaaGreat
open Go
theorem Kat (a b:List Row):chR (a++b)=chR a++chR b:=List.map_append
end Go.Proofs.YthfkpijcajdnhaaGreat

namespace Go.Proofs.YthfkpijcajdnhaaGreat
open Go
theorem Lat {a b:List Row} (h:∀ k,Eqm (sumT (chR a) k) (sumT (chR b) k)):Za a=Za b :=
 congrArg (List.map mkR) (AZ (tF a) (tF b) h)
theorem Mat (a b:List Row) (k:List Int):sumT (chR (a++b)) k=sumT (chR a) k+sumT (chR b) k:=by
 rw[Kat,IM]
end Go.Proofs.YthfkpijcajdnhaaGreat

namespace Go.Proofs.YthfkpijcajdnhaaGreat
open Go
section
variable {P:Program} {K n:Nat}
variable {T E:Nat} (M:WW P T K E n) {w:World} {r:Nat} {S:wa} (hr:w.heap[r]? = some (Ha S)) (hm:Xb n S) {ks:List Int} (hk:ks.length=n)
include M hr hm hk
end
end Go.Proofs.YthfkpijcajdnhaaGreat

namespace Go.Proofs.YthfkpijcajdnhaaGreat
open Go Tg
section
variable {a:List Row} (hr:Hb a=true) {kind:Int} (hkind:1≤kind∧kind≤3)
include hr hkind
end
end Go.Proofs.YthfkpijcajdnhaaGreat

namespace Go.Proofs.YthfkpijcajdnhaaGreat
open Go
theorem Gat {α β:Type} {f g:α→Option β}:∀ {l:List α},(∀ x∈l,f x=g x)→Nb f l=Nb g l
 | [],_=>rfl
 | x::l,h=>by
   simp only[Nb,h x (by simp),Gat (l:=l) fun y hy=>h y (by simp[hy])]
theorem Fat {ins:List (List Row)}:∀ (d e:Nat),d≤e→∀ p:Plan,okM d p=true→Ob e ins p=Ob d ins p
 | 0,_,_,p,h=>by cases h
 | d+1,e,he,p,h=>by
   obtain ⟨e,rfl⟩ : ∃ m,e=m+1:=⟨e - 1,by omega⟩
   have hk:=(bO h).2
   simp only[Ob]
   rw[Gat (f:=Ob e ins) (g:=Ob d ins) fun x hx=>Fat d e (by omega) x (hk x hx)]
theorem Oat {d:Nat} {p:Plan} {ins:List (List Row)} {x:List Row} (hd:d+1≤4) (h:YN p ins x) (hk:okM d p=true):Ob (d+1) ins ⟨4,0,[p]⟩=some (gb x):=by
 have hf:=h.flow
 rw[Fat d 4 (by omega) p hk] at hf
 have hb:=BN h.batch
 have ho:opR 4 0 [x] ins=gb x:=by rw[VN];exact zN hb
 simp only[Ob,Nb,hf,ho,hb,if_true]
theorem Pat {x:List Row} (k:List Int):Eqm (sumT (chR (x++gb x)) k) 0:=by
 rw[Mat]
 have h:Eqm (sumT (chR (gb x)) k) (-sumT (chR x) k):=by
  induction x with
  | nil=>exact Eqm.refl _
  | cons y r ih =>
    show Eqm ((if rK (Gh y)=k then (Gh y).Diff else 0)+sumT (chR (gb r)) k) (-((if rK y=k then y.Diff else 0)+sumT (chR r) k))
    have e:rK (Gh y)=rK y:=rfl
    rw[e]
    by_cases hk:rK y=k
    ·rw[if_pos hk,if_pos hk]
     exact (Eqm.add (SZ (n:=y.Diff)) ih).trans (Eqm.of (by omega))
    ·rw[if_neg hk,if_neg hk]
     exact (Eqm.add (Eqm.refl 0) ih).trans (Eqm.of (by omega))
 exact (Eqm.add (Eqm.refl _) h).trans (Eqm.of (by omega))
theorem Qat {x:List Row}:Za (x++gb x)=[]:=Lat (b:=[]) fun k=>Pat k
theorem Rat (c:List Int) (hc:∀ x∈c,0≤x∧x≤255):Eat c∧Dat c=true:=by
 by_cases hbig:cmp .gtr (aa .byte c) 1048576=true
 ·simp only[Eat,Dat,Cat,Bat,hbig,ocR,Aat,Tr.val,Tr.ob,ga]
  exact ⟨by simp,trivial⟩
 ·have hbig:cmp .gtr (aa .byte c) 1048576=false:=by simpa using hbig
  obtain ⟨p,ins,h⟩:=R3 hc
  simp only[Eat,Dat,Cat,Bat,Aat,Tr.val,Tr.ob,ga,hbig,h.d2,Xf,h.s2,h.i2]
  cases hF:Te p ins with
  | none =>
    have l1:=nN [] [] (by simp)
    have l2:=oN [] (by simp)
    simp only[xc,l2,ocR]
    exact ⟨by simp[h.d1,h.s1,h.i1,l1],by simp⟩
  | some x =>
    have f:=T3 hF
    have hs:=f.short
    have l1:=nN x x (by omega)
    have l2:=oN x (by omega)
    obtain ⟨g1,g2⟩:=J3 ⟨3,0,[p,⟨4,0,[p]⟩]⟩ ins (by have:=h.len;omega) (fun a ha=>by have:=h.each a ha;omega)
    obtain ⟨q1,q2⟩:=Y3 ⟨3,0,[p,⟨4,0,[p]⟩]⟩
    have hy:Te ⟨3,0,[p,⟨4,0,[p]⟩]⟩ ins=if okM 4 ⟨3,0,[p,⟨4,0,[p]⟩]⟩=true then some [] else none:=by
     by_cases hk:okM 4 ⟨3,0,[p,⟨4,0,[p]⟩]⟩=true
     ·rw[if_pos hk]
      have k1:=(bO hk).2 p (by simp)
      have k2:=(bO ((bO hk).2 ⟨4,0,[p]⟩ (by simp))).2 p (by simp)
      refine YN.of hk f.len f.every ?_
      have e1:=f.flow
      rw[Fat 3 4 (by omega) p k1] at e1
      have e2:=Oat (d:=2) (by omega) f k2
      have ho:opR 3 0 [x,gb x] ins=[]:=by rw[UN];exact Qat
      have hb:Qa []=true:=rfl
      rw[Ob]
      simp only[Nb,e1,e2,ho,hb,if_true]
     ·rw[if_neg hk]
      unfold Te
      rw[if_neg fun h=>hk h.1]
    rw[hy] at g2
    have e0:cmp .eql (aa .row []) 0=true:=rfl
    simp only[xc,l2,g2,q2]
    cases okM 4 ⟨3,0,[p,⟨4,0,[p]⟩]⟩ with
    | true=>simp[h.d1,h.s1,h.i1,l1,g1,q1,e0,ocR]
    | false=>simp[h.d1,h.s1,h.i1,l1,g1,q1,e0,ocR]
end Go.Proofs.YthfkpijcajdnhaaGreat

namespace Go.Proofs.YthfkpijcajdnhaaGreat
open Go
theorem Uat:Con Tryz.prog 4 Jat:=Tat (.cons Aae (.cons Rae (.cons naf (.cons oaf (.cons Uae (.nil ya za))))))
end Go.Proofs.YthfkpijcajdnhaaGreat
