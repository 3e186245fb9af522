/-
  Printed by a program: what functions compute, and their contracts (part 2). 'DrawPlanFlow' by hand: a list of lists that is cut and written. Maps from structs of numbers to 'true': sets; how the machine's operations on them run. Batches aggregated: the program's function and the reference's. Laws of plans over batches: that they make batches; that what is taken away twice is there, and a plan and its taking away make nothing; that a plan makes of its parts what they make. Laws of plans over batches: that a plan makes of its parts what they make, and that it does not change with what it does not ask for. Printed by a program: the contracts, with those of the callees. No statement is proved here.
-/
import Derived.Test.YthfkpijcajdnhaaGreatB2
import Derived.IntWalk

namespace Go.Proofs.YthfkpijcajdnhaaGreat
open Go
noncomputable section
set_option maxRecDepth 100000
abbrev V19:=Plan→Bool
abbrev Q19:=Plan→Prop
def gax (v:V19) (p:Q19):Spec:=⟨[(.st .plan)],.one .fr .bool,false,fun x=>(v x.1,0),fun x=>p x.1⟩
def Yaw (r19V:V19) (r19P:Q19):SP:=[(19,gax r19V r19P)]
abbrev F19:Fnn:=⟨[.tmp 2],.one .fr .bool,none,[]⟩
abbrev pax:Bool→RV:=fun q=>(some (RT.av (.one .fr .bool) q),.dead)
abbrev hax (fr:Fr) {A X Y Z:Type} (S:da Bool A X Y Z):Prop:=ua Tryz.prog tt ⟨Tryz.f19.ntmps,none,[]⟩ fr (ia Tryz.f19) F19 S
def Zaw (r19V:V19) (r19P:Q19) (_x5 _x6:Int) (x7:LP) (s12:Int):Tr Bool Int Unit Empty Empty :=
 .c (cmp .lss s12 (aa .plan x7))
 (.w [inb s12 (aa .plan x7),(r19P (Plan.mk (rd .plan x7 s12).Kind (rd .plan x7 s12).Num (rd .plan x7 s12).Kids))] (.c (!(r19V (Plan.mk (rd .plan x7 s12).Kind (rd .plan x7 s12).Num (rd .plan x7 s12).Kids)))
 (.l (.r false))
 (.l (.n (ar .add .i64 s12 1)))))
 (.l (.x ()))
def Xaw:=fun r19V r19P x5 x6 x7 s12=>(Zaw r19V r19P x5 x6 x7 s12).val
def aax:=fun r19V r19P x5 x6 x7 s12=>(Zaw r19V r19P x5 x6 x7 s12).ob
def qax:=fun r19V r19P x5 x6 x7 s12=>Na (Xaw r19V r19P x5 x6 x7 s12) (aax r19V r19P x5 x6 x7 s12) [0,0,1,0,1,1] (fun q=>[(1,.box [(.fr,.i x5),(.fr,.i x6),(.sh,.lst .plan x7)]),(3,.I q)]) s12 pax (fun _=>(0,[])) nE nE
theorem Gax {r19V:V19} {r19P:Q19} (G:Good Tryz.prog tt (Yaw r19V r19P)) {fr:Fr}:∀ x5 x6 x7 s12,hax fr (qax r19V r19P x5 x6 x7 s12) :=
 fun x5 x6 x7 s12=>fa G [] trivial [(4,[1,3,14]),(5,[1,3]),(6,[1,3,23]),(7,[2])] [] [] (Zaw r19V r19P x5 x6 x7 s12) rfl rfl (by kernel_rfl)
def uax:=fun r19V r19P x5 x6 x7=>lpV (fun s:Int=>ca (Xaw r19V r19P x5 x6 x7 s)) 0
def vax:=fun r19V r19P x5 x6 x7=>LpT (fun s:Int=>ca (Xaw r19V r19P x5 x6 x7 s)) (fun s=>aax r19V r19P x5 x6 x7 s) 0
def iax:=fun r19V r19P x5 x6 x7=>lpS (qax r19V r19P x5 x6 x7 0) (uax r19V r19P x5 x6 x7) (vax r19V r19P x5 x6 x7)
theorem Hax {r19V:V19} {r19P:Q19} (G:Good Tryz.prog tt (Yaw r19V r19P)) {fr:Fr}:∀ x5 x6 x7,hax fr (iax r19V r19P x5 x6 x7) :=
 fun x5 x6 x7=>Oa (fun s:Int=>qax r19V r19P x5 x6 x7 s) 0 (fun _=>rfl) (fun _=>⟨rfl,rfl,rfl,rfl,rfl⟩) (by kernel_rfl) fun _=>Gax G _ _ _ _
def jax (r19V:V19) (r19P:Q19) (x2 x3:Int) (x4:LP):Tr Bool Unit Empty Empty Empty :=
 .s (iax r19V r19P x2 x3 x4) nE (fun _=>.l (.n ())) nE nE
def wax:=fun r19V r19P x2 x3 x4=>(jax r19V r19P x2 x3 x4).val
def xax:=fun r19V r19P x2 x3 x4=>(jax r19V r19P x2 x3 x4).ob
def kax:=fun r19V r19P x2 x3 x4=>da.mk (wax r19V r19P x2 x3 x4) (xax r19V r19P x2 x3 x4) [0,1,1] [(1,.box [(.fr,.i x2),(.fr,.i x3),(.sh,.lst .plan x4)])] pax (fun _=>[]) nE nE nE
theorem Iax {r19V:V19} {r19P:Q19} (G:Good Tryz.prog tt (Yaw r19V r19P)) {fr:Fr}:∀ x2 x3 x4,hax fr (kax r19V r19P x2 x3 x4) :=
 fun x2 x3 x4=>fa G [([0,1,0,1,1],fun e=>⟨iax r19V r19P (gI e 1 0) (gI e 1 1) (gL .plan e 1 2)⟩)] ⟨fun _=>⟨rfl,Hax G _ _ _⟩,trivial⟩ [(3,[1,3])] [] [] (jax r19V r19P x2 x3 x4) rfl rfl (by kernel_rfl)
def lax (r19V:V19) (r19P:Q19) (a0:Plan):Tr Bool Empty Empty Empty Empty :=
 .c (cmp .eql a0.Kind 1)
 (.l (.r (cmp .eql a0.Num 0)))
 (.s (kax r19V r19P a0.Kind a0.Num a0.Kids) (fun _=>.l (.r true)) nE nE nE)
def bax:=fun r19V r19P a0=>(lax r19V r19P a0).val
def cax:=fun r19V r19P a0=>(lax r19V r19P a0).ob
def yax:=fun r19V r19P a0=>da.mk (bax r19V r19P a0) (cax r19V r19P a0) [] [(0,.agg false [.i a0.Kind,.i a0.Num,.lst .plan a0.Kids])] pax nE nE nE nE
theorem Jax {r19V:V19} {r19P:Q19} (G:Good Tryz.prog tt (Yaw r19V r19P)) {fr:Fr}:∀ a0,hax fr (yax r19V r19P a0) :=
 fun a0=>fa G [([0,1,1],fun e=>⟨kax r19V r19P (gI e 1 0) (gI e 1 1) (gL .plan e 1 2)⟩)] ⟨fun _=>⟨rfl,Iax G _ _ _⟩,trivial⟩ [(0,[1]),(1,[1,6]),(2,[2]),(8,[2])] [] [] (lax r19V r19P a0) rfl rfl (by kernel_rfl)
theorem Kax {r19V:V19} {r19P:Q19} (G:Good Tryz.prog tt (Yaw r19V r19P)):Con Tryz.prog 19 (gax (fun a0=>ocR (bax r19V r19P a0)) (fun a0=>cax r19V r19P a0)) :=
 Ca (pts:=[(.st .plan)]) (rt:=.one .fr .bool) (o:=fun x=>bax r19V r19P x.1) (ob:=fun x=>cax r19V r19P x.1) G (fn:=Tryz.f19) (c:=ia Tryz.f19) (by kernel_rfl) (by kernel_rfl) (by kernel_rfl) (rs:=[.tmp 2]) (fz:=F19.fz) (by kernel_rfl) (by kernel_rfl) (fun _=>rfl) rfl (fun x=>yax r19V r19P x.1) (fun _=>⟨rfl,rfl,rfl,rfl,rfl⟩) (fun x _=>Jax G x.1)
def Vaw:Nat→V19×Q19
 | 0=>(fun _=>default,fun _=>False)
 | n+1=>(fun a0=>ocR (bax (Vaw n).1 (Vaw n).2 a0),fun a0=>cax (Vaw n).1 (Vaw n).2 a0)
def rax:V19:=(Vaw Nc).1
def sax:Q19:=(Vaw Nc).2
def zax:Spec:=gax rax sax
def Aax:SP:=[(12,wu),(13,bI),(14,IJ),(15,MJ),(19,zax)]
abbrev F7:Fnn:=⟨[.tmp 2],.one .fr .bool,none,[]⟩
abbrev rv7:Bool→RV:=fun q=>(some (RT.av (.one .fr .bool) q),.dead)
abbrev Ok7 (fr:Fr) {A X Y Z:Type} (S:da Bool A X Y Z):Prop:=ua Tryz.prog tt ⟨Tryz.f7.ntmps,none,[]⟩ fr (ia Tryz.f7) F7 S
def dax (a0:LB):Tr Bool Empty Empty Empty Empty :=
 .c (cmp .gtr (aa .byte a0) 1048576)
 (.l (.r true))
 (.k (Qg a0) fun u2=>.w [(ij a0)] (.k (ao (Plan.mk u2.1.Kind u2.1.Num u2.1.Kids) u2.2.1) fun u3=>.w [(eo (Plan.mk u2.1.Kind u2.1.Num u2.1.Kids) u2.2.1)] (.k (Ip (Plan.mk u2.1.Kind u2.1.Num u2.1.Kids) u2.2.1) fun u4=>.w [(Jp (Plan.mk u2.1.Kind u2.1.Num u2.1.Kids) u2.2.1)] (.k (vC u4.1 u3.1) fun u5=>.w [(((!(!(u4.2.1 == u3.2.1)))&&true)=true→(wC u4.1 u3.1)),(((!(cond (cond (!(u4.2.1 == u3.2.1)) true (!u5)) true (!u4.2.1)))&&true)=true→(sax (Plan.mk u2.1.Kind u2.1.Num u2.1.Kids)))] (.c (cond (cond (cond (!(u4.2.1 == u3.2.1)) true (!u5)) true (!u4.2.1)) true (!(rax (Plan.mk u2.1.Kind u2.1.Num u2.1.Kids))))
 (.w [(((u4.2.1 == u3.2.1)&&true)=true→(wC u4.1 u3.1))] (.l (.r (cond (u4.2.1 == u3.2.1) u5 false))))
 (.k (Ip (Plan.mk u2.1.Kind u2.1.Num u2.1.Kids) [(rd .lrow u2.2.1 0),[]]) fun u8=>.w [inb 0 (aa .lrow u2.2.1),(Jp (Plan.mk u2.1.Kind u2.1.Num u2.1.Kids) [(rd .lrow u2.2.1 0),[]])] (.w [((u8.2.1&&true)=true→(wC u8.1 u4.1))] (.l (.r (cond u8.2.1 (vC u8.1 u4.1) false))))))))))
def eax:=fun a0=>(dax a0).val
def fax:=fun a0=>(dax a0).ob
def Bax:=fun a0=>da.mk (eax a0) (fax a0) [] [(0,.S .byte a0)] rv7 nE nE nE nE
theorem Lax (G:Good Tryz.prog tt Aax) {fr:Fr}:∀ a0,Ok7 fr (Bax a0) :=
 fun a0=>fa G [] trivial [(0,[0]),(1,[0,13]),(2,[2]),(3,[3,4]),(4,[3,4,5,6]),(5,[3,4,5,6,7,8]),(6,[3,4,5,6,7,8,48]),(7,[2]),(8,[7,9,10]),(9,[2])] [] [] (dax a0) rfl rfl (by kernel_rfl)
def nax (a0:LB):Bool:=ocR (eax a0)
def oax (a0:LB):Prop:=fax a0
def Cax:Spec:=⟨[(.lst .byte)],.one .fr .bool,false,fun x=>(nax x.1,0),fun x=>oax x.1⟩
theorem Max (G:Good Tryz.prog tt Aax):Con Tryz.prog 7 Cax :=
 Ca (pts:=[(.lst .byte)]) (rt:=.one .fr .bool) (o:=fun x=>eax x.1) (ob:=fun x=>fax x.1) G (fn:=Tryz.f7) (c:=ia Tryz.f7) (by kernel_rfl) (by kernel_rfl) (by kernel_rfl) (rs:=[.tmp 2]) (fz:=F7.fz) (by kernel_rfl) (by kernel_rfl) (fun _=>rfl) rfl (fun x=>Bax x.1) (fun _=>⟨rfl,rfl,rfl,rfl,rfl⟩) (fun x _=>Lax G x.1)
end
end Go.Proofs.YthfkpijcajdnhaaGreat

namespace Go.Proofs.YthfkpijcajdnhaaGreat
namespace Dp
open Go
set_option maxRecDepth 100000
section
variable {Q:Exit→Act→World→Prop} {B:Nat} {W0:World} {F0:Fz} {a:Act} {w:World} {p:Plan} {l:List LR}
end
end Dp
end Go.Proofs.YthfkpijcajdnhaaGreat

namespace Go.Proofs.YthfkpijcajdnhaaGreat
open Go
section
variable {P:Program} {K n:Nat}
variable {T E:Nat} (M:WW P T K E n) {w:World} {r:Nat} {S:wa} (hr:w.heap[r]? = some (Ha S)) (hm:Xb n S) {ks:List Int} (hk:ks.length=n)
include M hr hm hk
end
end Go.Proofs.YthfkpijcajdnhaaGreat

namespace Go.Proofs.YthfkpijcajdnhaaGreat
open Go Tg
section
variable {a:List Row} (hr:Hb a=true) {kind:Int} (hkind:1≤kind∧kind≤3)
include hr hkind
end
end Go.Proofs.YthfkpijcajdnhaaGreat

namespace Go.Proofs.YthfkpijcajdnhaaGreat
open Go
theorem Gat {α β:Type} {f g:α→Option β}:∀ {l:List α},(∀ x∈l,f x=g x)→Nb f l=Nb g l
 | [],_=>rfl
 | x::l,h=>by
   simp only[Nb,h x (by simp),Gat (l:=l) fun y hy=>h y (by simp[hy])]
end Go.Proofs.YthfkpijcajdnhaaGreat

namespace Go.Proofs.YthfkpijcajdnhaaGreat
open Go
def Waw:Nat→Plan→Bool
 | 0,_=>false
 | d+1,p=>if p.Kind=1 then decide (p.Num=0) else p.Kids.all (Waw d)
theorem Eax:∀ (d n:Nat),d≤n→∀ p:Plan,okM d p=true→(Vaw n).2 p∧(Vaw n).1 p=Waw d p:=by
 intro d
 induction d with
 | zero=>intro n _ p h;cases h
 | succ d ih =>
   intro n hn p hp
   obtain ⟨m,rfl⟩ : ∃ m,n=m+1:=⟨n - 1,by omega⟩
   obtain ⟨hkl,hk⟩:=bO hp
   have k:ja (fun s:Int=>ca (Xaw (Vaw m).1 (Vaw m).2 p.Kind p.Num p.Kids s)) (fun s=>aax (Vaw m).1 (Vaw m).2 p.Kind p.Num p.Kids s) 0 (if Rb (fun _ x=>!Waw d x) none p.Kids=true then .x () else .r false):=by
    refine ja.scan p.Kids _ (fun l x r hx=>?_) ?_
    ·have hlen:p.Kids.length=l.length+(r.length+1):=by rw[hx];simp
     have hrd:rd .plan p.Kids (l.length:Int)=x:=by rw[hx];exact Ya
     have hin:inb (l.length:Int) (aa .plan p.Kids):=by rw[hx];exact Ta (t:=.plan)
     have hlss:cmp .lss (l.length:Int) (aa .plan p.Kids)=true:=by rw[hx];exact db
     obtain ⟨b1,b2⟩:=ih m (by omega) x (hk x (by rw[hx];simp))
     simp only[aax,Xaw,Zaw,Tr.val,Tr.ob,ga,hlss,hrd,Xf,b2,Ua (l:=l) (by omega)]
     refine ⟨by simp[hin,b1],?_⟩
     cases Waw d x<;>rfl
    ·have hend:cmp .lss (p.Kids.length:Int) (aa .plan p.Kids)=false:=fb (t:=.plan)
     simp only[aax,Xaw,Zaw,Tr.val,Tr.ob,ga,hend]
     exact ⟨by simp,rfl⟩
   have a2:uax (Vaw m).1 (Vaw m).2 p.Kind p.Num p.Kids=_:=k.v
   have b2:vax (Vaw m).1 (Vaw m).2 p.Kind p.Num p.Kids:=k.t
   rw[Wf] at a2
   simp only[Vaw,cax,bax,lax,kax,xax,wax,jax,iax,lpS,Tr.val,Tr.ob,a2,Eb,Waw]
   by_cases h1:p.Kind=1
   ·simp[h1,ocR]
   ·cases h2:p.Kids.all (Waw d)<;>simp[h1,ocR,b2]
theorem faw {p:Plan} (h:Ld p=true) (hk:p.Kind=1):p.Kids=[]:=by
 simp only[Ld,decide_eq_true_eq,hk,kd] at h
 cases hl:p.Kids with
 | nil=>rfl
 | cons x r=>rw[hl] at h;simp at h;omega
theorem yan {d:Nat} {p:Plan} (h:okM (d+1) p=true):Ld p=true:=by
 simp only[okM,Bool.and_eq_true] at h;exact h.1
theorem gaw {kind num:Int} {ks i j:List (List Row)} (h:kind≠1):opR kind num ks i=opR kind num ks j:=by
 unfold opR
 rw[if_neg h,if_neg h]
theorem tax {a:List Row} {b:List (List Row)}:∀ (d:Nat) (p:Plan),okM d p=true→Waw d p=true→Ob d (a::b) p=Ob d [a,[]] p
 | 0,p,h,_=>by cases h
 | d+1,p,ho,h=>by
   simp only[Waw] at h
   by_cases h1:p.Kind=1
   ·rw[if_pos h1] at h
    have h0:p.Num=0:=by simpa using h
    have e:∀ ks,opR p.Kind p.Num ks (a::b)=opR p.Kind p.Num ks [a,[]]:=fun ks=>by
     rw[h1,h0,RN,RN];rfl
    simp only[Ob,faw (yan ho) h1,Nb,e]
   ·rw[if_neg h1] at h
    have hk:=(bO ho).2
    simp only[Ob]
    rw[Gat (f:=Ob d (a::b)) (g:=Ob d [a,[]]) fun x hx=>tax d x (hk x hx) (List.all_eq_true.1 h x hx)]
    cases Nb (Ob d [a,[]]) p.Kids with
    | none=>rfl
    | some ks=>simp only[gaw (i:=a::b) (j:=[a,[]]) h1]
theorem Fax (c:List Int) (hc:∀ x∈c,0≤x∧x≤255):oax c∧nax c=true:=by
 by_cases hbig:cmp .gtr (aa .byte c) 1048576=true
 ·simp only[oax,nax,fax,eax,hbig,ocR,dax,Tr.val,Tr.ob,ga]
  exact ⟨by simp,trivial⟩
 ·have hbig:cmp .gtr (aa .byte c) 1048576=false:=by simpa using hbig
  obtain ⟨p,ins,h⟩:=R3 hc
  simp only[oax,nax,fax,eax,dax,Tr.val,Tr.ob,ga,hbig,h.d2,Xf,h.s2,h.i2]
  cases hF:Te p ins with
  | none =>
    have l1:=nN [] [] (by simp)
    have l2:=oN [] (by simp)
    simp only[xc,l2,ocR]
    exact ⟨by simp[h.d1,h.s1,h.i1,l1],by simp⟩
  | some x =>
    have f:=T3 hF
    have hs:=f.short
    have l1:=nN x x (by omega)
    have l2:=oN x (by omega)
    obtain ⟨w1,w2⟩:=Eax 4 Nc (by decide) p f.ok
    have w1:sax p:=w1
    have w2:rax p=Waw 4 p:=w2
    obtain ⟨a,b,rfl⟩ : ∃ a b,ins=a::b:=by
     cases ins with
     | nil=>have:=f.len;simp at this
     | cons a b=>exact ⟨a,b,rfl⟩
    have ha:=h.each a (by simp)
    obtain ⟨g1,g2⟩:=J3 p [a,[]] (by simp) (fun y hy=>by simp at hy;rcases hy with rfl | rfl;exact (by omega);exact (by decide))
    have hrd:rd .lrow (a::b) 0=a:=rfl
    have hin:inb 0 (aa .lrow (a::b)):=by unfold inb aa;simp
    simp only[xc,l2,w2,hrd]
    cases hf:Waw 4 p with
    | false=>simp[h.d1,h.s1,h.i1,l1,w1,ocR]
    | true =>
      have hy:Te p [a,[]]=some x:=YN.of f.ok rfl (fun y hy=>by
       simp at hy
       rcases hy with rfl | rfl
       ·exact f.every y (by simp)
       ·rfl) (by rw[← tax 4 p f.ok hf];exact f.flow)
      rw[hy] at g2
      simp[h.d1,h.s1,h.i1,l1,l2,w1,hin,g1,g2,xc,ocR]
end Go.Proofs.YthfkpijcajdnhaaGreat

namespace Go.Proofs.YthfkpijcajdnhaaGreat
open Go
theorem Dax:∀ n,Con Tryz.prog 19 (gax (Vaw n).1 (Vaw n).2)
 | 0=>yl (fn:=Tryz.f19) (c:=ia Tryz.f19) (by kernel_rfl) (by kernel_rfl) (by kernel_rfl) fun _ h=>h
 | n+1=>Kax (.cons (Dax n) (.nil ya za))
theorem Nax:Con Tryz.prog 19 zax:=(Dax Nc)
theorem Oax:Con Tryz.prog 7 Cax:=Max (.cons Aae (.cons Rae (.cons naf (.cons oaf (.cons Nax (.nil ya za))))))
end Go.Proofs.YthfkpijcajdnhaaGreat
