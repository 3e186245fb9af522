/-
  Printed by a program: what functions compute, and their contracts (part 2). 'DrawPlanFlow' by hand: a list of lists that is cut and written. Maps from structs of numbers to 'true': sets; how the machine's operations on them run. Batches aggregated: the program's function and the reference's. Laws of plans over batches: that they make batches; that what is taken away twice is there, and a plan and its taking away make nothing; that a plan makes of its parts what they make. Printed by a program: the contracts, with those of the callees. No statement is proved here.
-/
import Derived.Test.YthfkpijcajdnhaaGreatB2
import Derived.IntWalk

namespace Go.Proofs.YthfkpijcajdnhaaGreat
open Go
noncomputable section
set_option maxRecDepth 100000
def Gau:SP:=[(45,xo),(48,MI),(47,Yj)]
abbrev F18:Fnn:=⟨[.tmp 2],.one .sh (.lst .row),none,[]⟩
abbrev Nau:LR→RV:=fun q=>(some (RT.av (.one .sh (.lst .row)) q),.dead)
abbrev Oau (fr:Fr) {A X Y Z:Type} (S:da LR A X Y Z):Prop:=ua Tryz.prog tt ⟨Tryz.f18.ntmps,none,[]⟩ fr (ia Tryz.f18) F18 S
def yau (a0:LR):Tr LR Empty Empty Empty Empty :=
 .w [(wo a0)] (.c (!(vo a0))
 (.l (.r []))
 (.w [(eA a0),(Vg (cA a0))] (.l (.r (me (cA a0)).1))))
def zau:=fun a0=>(yau a0).val
def Aau:=fun a0=>(yau a0).ob
def Hau:=fun a0=>da.mk (zau a0) (Aau a0) [] [(0,.S .row a0)] Nau nE nE nE nE
theorem Pau (G:Good Tryz.prog tt Gau) {fr:Fr}:∀ a0,Oau fr (Hau a0) :=
 fun a0=>fa G [] trivial [(0,[0]),(1,[0,7]),(2,[2]),(3,[3]),(4,[2])] [] [] (yau a0) rfl rfl (by kernel_rfl)
def Bau (a0:LR):LR:=ocR (zau a0)
def Cau (a0:LR):Prop:=Aau a0
def Fau:Spec:=⟨[(.lst .row)],.one .sh (.lst .row),false,fun x=>(Bau x.1,0),fun x=>Cau x.1⟩
theorem Qau (G:Good Tryz.prog tt Gau):Con Tryz.prog 18 Fau :=
 Ca (pts:=[(.lst .row)]) (rt:=.one .sh (.lst .row)) (o:=fun x=>zau x.1) (ob:=fun x=>Aau x.1) G (fn:=Tryz.f18) (c:=ia Tryz.f18) (by kernel_rfl) (by kernel_rfl) (by kernel_rfl) (rs:=[.tmp 2]) (fz:=F18.fz) (by kernel_rfl) (by kernel_rfl) (fun _=>rfl) rfl (fun x=>Hau x.1) (fun _=>⟨rfl,rfl,rfl,rfl,rfl⟩) (fun x _=>Pau G x.1)
def Iau:SP:=[(12,wu),(13,bI),(14,IJ),(15,MJ),(17,mI),(18,Fau)]
abbrev F6:Fnn:=⟨[.tmp 2],.one .fr .bool,none,[]⟩
abbrev rv6:Bool→RV:=fun q=>(some (RT.av (.one .fr .bool) q),.dead)
abbrev Ok6 (fr:Fr) {A X Y Z:Type} (S:da Bool A X Y Z):Prop:=ua Tryz.prog tt ⟨Tryz.f6.ntmps,none,[]⟩ fr (ia Tryz.f6) F6 S
def vau (a0:LB):Tr Bool Empty Empty Empty Empty :=
 .c (cmp .gtr (aa .byte a0) 1048576)
 (.l (.r true))
 (.k (Qg a0) fun u2=>.w [(ij a0)] (.k (ao (Plan.mk u2.1.Kind u2.1.Num u2.1.Kids) u2.2.1) fun u3=>.w [(eo (Plan.mk u2.1.Kind u2.1.Num u2.1.Kids) u2.2.1)] (.k (Ip (Plan.mk u2.1.Kind u2.1.Num u2.1.Kids) u2.2.1) fun u4=>.w [(Jp (Plan.mk u2.1.Kind u2.1.Num u2.1.Kids) u2.2.1)] (.k (vC u4.1 u3.1) fun u5=>.w [(((!(!(u4.2.1 == u3.2.1)))&&true)=true→(wC u4.1 u3.1))] (.c (cond (cond (!(u4.2.1 == u3.2.1)) true (!u5)) true (!u4.2.1))
 (.w [(((u4.2.1 == u3.2.1)&&true)=true→(wC u4.1 u3.1))] (.l (.r (cond (u4.2.1 == u3.2.1) u5 false))))
 (.k (Ip (Plan.mk 4 0 [(Plan.mk u2.1.Kind u2.1.Num u2.1.Kids)]) u2.2.1) fun u7=>.w [(Jp (Plan.mk 4 0 [(Plan.mk u2.1.Kind u2.1.Num u2.1.Kids)]) u2.2.1)] (.k (Py (Plan.mk 4 0 [(Plan.mk u2.1.Kind u2.1.Num u2.1.Kids)])) fun u8=>.k (Bau u4.1) fun u9=>.w [(Qy (Plan.mk 4 0 [(Plan.mk u2.1.Kind u2.1.Num u2.1.Kids)])),(((!(!u7.2.1))&&((u7.2.1 == u8)&&true))=true→(Cau u4.1)),(((!(!u7.2.1))&&((u7.2.1 == u8)&&true))=true→(wC u7.1 u9))] (.l (.r (cond (u7.2.1 == u8) (cond (!u7.2.1) true (vC u7.1 u9)) false))))))))))
def wau:=fun a0=>(vau a0).val
def xau:=fun a0=>(vau a0).ob
def Jau:=fun a0=>da.mk (wau a0) (xau a0) [] [(0,.S .byte a0)] rv6 nE nE nE nE
theorem Rau (G:Good Tryz.prog tt Iau) {fr:Fr}:∀ a0,Ok6 fr (Jau a0) :=
 fun a0=>fa G [] trivial [(0,[0]),(1,[0,14]),(2,[2]),(3,[3,4]),(4,[3,4,5,6]),(5,[3,4,5,6,7,8]),(6,[3,4,5,6,7,8,44]),(7,[2]),(8,[4,7,9]),(9,[7,9,10,11]),(10,[2])] [] [] (vau a0) rfl rfl (by kernel_rfl)
def Dau (a0:LB):Bool:=ocR (wau a0)
def Eau (a0:LB):Prop:=xau a0
def Kau:Spec:=⟨[(.lst .byte)],.one .fr .bool,false,fun x=>(Dau x.1,0),fun x=>Eau x.1⟩
theorem Sau (G:Good Tryz.prog tt Iau):Con Tryz.prog 6 Kau :=
 Ca (pts:=[(.lst .byte)]) (rt:=.one .fr .bool) (o:=fun x=>wau x.1) (ob:=fun x=>xau x.1) G (fn:=Tryz.f6) (c:=ia Tryz.f6) (by kernel_rfl) (by kernel_rfl) (by kernel_rfl) (rs:=[.tmp 2]) (fz:=F6.fz) (by kernel_rfl) (by kernel_rfl) (fun _=>rfl) rfl (fun x=>Jau x.1) (fun _=>⟨rfl,rfl,rfl,rfl,rfl⟩) (fun x _=>Rau G x.1)
end
end Go.Proofs.YthfkpijcajdnhaaGreat

namespace Go.Proofs.YthfkpijcajdnhaaGreat
namespace Dp
open Go
set_option maxRecDepth 100000
section
variable {Q:Exit→Act→World→Prop} {B:Nat} {W0:World} {F0:Fz} {a:Act} {w:World} {p:Plan} {l:List LR}
end
end Dp
end Go.Proofs.YthfkpijcajdnhaaGreat

namespace Go.Proofs.YthfkpijcajdnhaaGreat
open Go
section
variable {P:Program} {K n:Nat}
variable {T E:Nat} (M:WW P T K E n) {w:World} {r:Nat} {S:wa} (hr:w.heap[r]? = some (Ha S)) (hm:Xb n S) {ks:List Int} (hk:ks.length=n)
include M hr hm hk
end
end Go.Proofs.YthfkpijcajdnhaaGreat

namespace Go.Proofs.YthfkpijcajdnhaaGreat
open Go Tg
section
variable {a:List Row} (hr:Hb a=true) {kind:Int} (hkind:1≤kind∧kind≤3)
include hr hkind
end
end Go.Proofs.YthfkpijcajdnhaaGreat

namespace Go.Proofs.YthfkpijcajdnhaaGreat
open Go
theorem Gat {α β:Type} {f g:α→Option β}:∀ {l:List α},(∀ x∈l,f x=g x)→Nb f l=Nb g l
 | [],_=>rfl
 | x::l,h=>by
   simp only[Nb,h x (by simp),Gat (l:=l) fun y hy=>h y (by simp[hy])]
theorem Fat {ins:List (List Row)}:∀ (d e:Nat),d≤e→∀ p:Plan,okM d p=true→Ob e ins p=Ob d ins p
 | 0,_,_,p,h=>by cases h
 | d+1,e,he,p,h=>by
   obtain ⟨e,rfl⟩ : ∃ m,e=m+1:=⟨e - 1,by omega⟩
   have hk:=(bO h).2
   simp only[Ob]
   rw[Gat (f:=Ob e ins) (g:=Ob d ins) fun x hx=>Fat d e (by omega) x (hk x hx)]
theorem Oat {d:Nat} {p:Plan} {ins:List (List Row)} {x:List Row} (hd:d+1≤4) (h:YN p ins x) (hk:okM d p=true):Ob (d+1) ins ⟨4,0,[p]⟩=some (gb x):=by
 have hf:=h.flow
 rw[Fat d 4 (by omega) p hk] at hf
 have hb:=BN h.batch
 have ho:opR 4 0 [x] ins=gb x:=by rw[VN];exact zN hb
 simp only[Ob,Nb,hf,ho,hb,if_true]
theorem Lau {x:List Row} (h:Qa x=true):Cau x∧Bau x=gb x:=by
 have hr:=Vf h
 have hl:=(Bb hr).1
 obtain ⟨r1,r2⟩:=jN x (by omega)
 obtain ⟨n1,n2⟩:=R1 (a:=x) (by omega)
 have hnl:(gb x).length=x.length:=by simp[gb]
 obtain ⟨b1,b2⟩:=Vl (xs:=gb x) (by omega) (cO _)
 have hb:=BN h
 rw[zN hb,if_pos hb] at b2
 simp only[Cau,Bau,Aau,zau,yau,Tr.val,Tr.ob,ga,r2,hr,n2,b2]
 exact ⟨by simp[r1,n1,b1],rfl⟩
theorem Mau (c:List Int) (hc:∀ x∈c,0≤x∧x≤255):Eau c∧Dau c=true:=by
 by_cases hbig:cmp .gtr (aa .byte c) 1048576=true
 ·simp only[Eau,Dau,xau,wau,hbig,ocR,vau,Tr.val,Tr.ob,ga]
  exact ⟨by simp,trivial⟩
 ·have hbig:cmp .gtr (aa .byte c) 1048576=false:=by simpa using hbig
  obtain ⟨p,ins,h⟩:=R3 hc
  simp only[Eau,Dau,xau,wau,vau,Tr.val,Tr.ob,ga,hbig,h.d2,Xf,h.s2,h.i2]
  cases hF:Te p ins with
  | none =>
    have l1:=nN [] [] (by simp)
    have l2:=oN [] (by simp)
    simp only[xc,l2,ocR]
    exact ⟨by simp[h.d1,h.s1,h.i1,l1],by simp⟩
  | some x =>
    have f:=T3 hF
    have hs:=f.short
    have l1:=nN x x (by omega)
    have l2:=oN x (by omega)
    obtain ⟨g1,g2⟩:=J3 ⟨4,0,[p]⟩ ins (by have:=h.len;omega) (fun a ha=>by have:=h.each a ha;omega)
    obtain ⟨q1,q2⟩:=Y3 ⟨4,0,[p]⟩
    obtain ⟨n1,n2⟩:=Lau f.batch
    have hy:Te ⟨4,0,[p]⟩ ins=if okM 4 ⟨4,0,[p]⟩=true then some (gb x) else none:=by
     by_cases hk:okM 4 ⟨4,0,[p]⟩=true
     ·rw[if_pos hk]
      exact YN.of hk f.len f.every (Oat (d:=3) (by omega) f ((bO hk).2 p (by simp)))
     ·rw[if_neg hk]
      unfold Te
      rw[if_neg fun h=>hk h.1]
    rw[hy] at g2
    have hnl:(gb x).length=x.length:=by simp[gb]
    have l3:=nN (gb x) (gb x) (by omega)
    have l4:=oN (gb x) (by omega)
    simp only[xc,l2,g2,q2,n2]
    cases okM 4 ⟨4,0,[p]⟩ with
    | true=>simp[h.d1,h.s1,h.i1,l1,g1,q1,n1,l3,l4,ocR]
    | false=>simp[h.d1,h.s1,h.i1,l1,g1,q1,ocR]
end Go.Proofs.YthfkpijcajdnhaaGreat

namespace Go.Proofs.YthfkpijcajdnhaaGreat
open Go
theorem Tau:Con Tryz.prog 18 Fau:=Qau (.cons Xae (.cons caf (.cons AC (.nil ya za))))
theorem Uau:Con Tryz.prog 6 Kau:=Sau (.cons Aae (.cons Rae (.cons naf (.cons oaf (.cons Uae (.cons Tau (.nil ya za)))))))
end Go.Proofs.YthfkpijcajdnhaaGreat
