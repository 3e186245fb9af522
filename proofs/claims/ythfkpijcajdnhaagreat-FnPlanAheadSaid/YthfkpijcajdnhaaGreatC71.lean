/-
  Printed by a program: what functions compute, and their contracts (part 2). 'DrawPlanFlow' by hand: a list of lists that is cut and written. 'advanced' by hand: a list of one's own is written while a parameter is read. What is drawn for laws of loops: bounds. Sums over changes, and what is left of them when they are put in order. Sums but for multiples of 2 to the power of 64: what is left of changes put in order depends on these alone. Maps from structs of numbers to 'true': sets; how the machine's operations on them run. What plans make of batches: a model of the operators. Rows, batches, and what they come to at a time: what the program's functions and the reference's compute. What operators make of changes sums up, at each time, to what they make of the sums. What an aggregate makes of changes sums up, at each time, to what it makes of the sums. Batches aggregated: the program's function and the reference's. No statement is proved here.
-/
import Derived.Test.YthfkpijcajdnhaaGreatB2
import Derived.IntWalk

namespace Go.Proofs.YthfkpijcajdnhaaGreat
open Go
noncomputable section
set_option maxRecDepth 100000
def cak:SP:=[(45,Bo),(49,vo),(50,PI)]
abbrev F20:Fnn:=⟨[.tmp 4],.one .fr (.lst .item),none,[]⟩
abbrev Eal:LI->RV:=rvF F20
abbrev Fal:=@OkF Tryz.prog tt Tryz.f20 F20 LI
def cai(a0:LR)(a1:Time):Tr LI Empty Empty Empty Empty:=.w [Ao a0,((!(!(zo a0)))&&true)=true->(ji a1)] (.c (cond (!(zo a0)) true (!(Hf a1))) (.l (.r []))
 (.w [Vo a0 a1] (.l (.r (Uo a0 a1)))))
def Xai:=λa0 a1=>(cai a0 a1).val
def Yai:=λa0 a1=>(cai a0 a1).ob
def Gal:=λa0 a1=>da.mk (Xai a0 a1) (Yai a0 a1) [] [(0,.S .row a0),(1,.agg true [.i a1.A,.i a1.B])] Eal nE nE nE nE
theorem Hal(G:Gd cak){fr a0 a1}:Fal fr (Gal a0 a1):=oa G [(0,[0,3]),(1,[0,3,12]),(2,[4]),(3,[4])] (cai a0 a1)
def Lah(a0:LR)(a1:Time):LI:=ocR (Xai a0 a1)
def Mah(a0:LR)(a1:Time):Prop:=Yai a0 a1
def Zai:Spec:=⟨[(.lst .row),(.st .time)],.one .fr (.lst .item),false,λx=>(Lah x.1 x.2.1,0),λx=>Mah x.1 x.2.1⟩
theorem Ial(G:Gd cak):Con Tryz.prog 20 Zai:=Ba (pts:=[(.lst .row),(.st .time)]) (F:=F20) G λ_ _=>Hal G
def Nah:SP:=[]
abbrev F21:Fnn:=⟨[.tmp 4],.one .fr .bool,none,[]⟩
abbrev aaj:Bool->RV:=rvF F21
abbrev dai:=@OkF Tryz.prog tt Tryz.f21 F21 Bool
def Dah(x4 x5:LI)(s9:Int):Tr Bool Int Unit Empty Empty:=.c (cmp .lss s9 (aa .item x4)) (.w [inb s9 (aa .item x4),inb s9 (aa .item x5)] (.c (!(cmp .eql (rd .item x4 s9).Key (rd .item x5 s9).Key&&(cmp .eql (rd .item x4 s9).Val (rd .item x5 s9).Val&&(cmp .eql (rd .item x4 s9).Count (rd .item x5 s9).Count&&true)))) (.l (.r false))
 (.l (.n (ar .add .i64 s9 1)))))
 (.l (.x ()))
def rah:=λx4 x5 s9=>(Dah x4 x5 s9).val
def Oah:=λx4 x5 s9=>(Dah x4 x5 s9).ob
def baj:=λx4 x5 s9=>Ka (rah x4 x5 s9) (Oah x4 x5 s9) [0,0,1,0,1,1] (λq=>[(0,.S .item x4),(1,.S .item x5),(5,.I q)]) s9 aaj (λ_=>(0,[])) nE nE
theorem Jal(G:Gd Nah){fr x4 x5 s9}:dai fr (baj x4 x5 s9):=oa G [(4,[0,1,5,14]),(5,[0,1,5]),(6,[0,1,5,25]),(7,[4])] (Dah x4 x5 s9)
def caj:=λx4 x5=>lpV (λs:Int=>ca (rah x4 x5 s)) 0
def dak:=λx4 x5=>LpT (λs:Int=>ca (rah x4 x5 s)) (λs=>Oah x4 x5 s) 0
def Pah:=λx4 x5=>lpS (baj x4 x5 0) (caj x4 x5) (dak x4 x5)
theorem Kal(G:Gd Nah){fr x4 x5}:dai fr (Pah x4 x5):=Na (λs:Int=>baj x4 x5 s) 0 λ_=>Jal G
def Qah(x2 x3:LI):Tr Bool Unit Empty Empty Empty:=.s (Pah x2 x3) nE (λ_=>.l (.n ())) nE nE
def daj:=λx2 x3=>(Qah x2 x3).val
def eaj:=λx2 x3=>(Qah x2 x3).ob
def Eah:=λx2 x3=>da.mk (daj x2 x3) (eaj x2 x3) [0,1,1] [(0,.S .item x2),(1,.S .item x3)] aaj (λ_=>[]) nE nE nE
theorem Lal(G:Gd Nah){fr x2 x3}:dai fr (Eah x2 x3):=ga G [([0,1,0,1,1],λe=>⟨Pah (gL .item e 0 0) (gL .item e 1 0)⟩)] ⟨λ_=>⟨rfl,Kal G⟩,trivial⟩ [(3,[0,1,5])] (Qah x2 x3)
def Fah(a0 a1:LI):Tr Bool Empty Empty Empty Empty:=.c (cmp .neq (aa .item a0) (aa .item a1)) (.l (.r false))
 (.s (Eah a0 a1) (λ_=>.l (.r true)) nE nE nE)
def Rah:=λa0 a1=>(Fah a0 a1).val
def Sah:=λa0 a1=>(Fah a0 a1).ob
def Mal:=λa0 a1=>da.mk (Rah a0 a1) (Sah a0 a1) [] [(0,.S .item a0),(1,.S .item a1)] aaj nE nE nE nE
theorem Nal(G:Gd Nah){fr a0 a1}:dai fr (Mal a0 a1):=ga G [([0,1,1],λe=>⟨Eah (gL .item e 0 0) (gL .item e 1 0)⟩)] ⟨λ_=>⟨rfl,Lal G⟩,trivial⟩ [(0,[0,1]),(1,[0,1,10]),(2,[4]),(8,[4])] (Fah a0 a1)
def Gah(a0:LI)(a1:LI):Bool:=ocR (Rah a0 a1)
def Hah(a0:LI)(a1:LI):Prop:=Sah a0 a1
def faj:Spec:=⟨[(.lst .item),(.lst .item)],.one .fr .bool,false,λx=>(Gah x.1 x.2.1,0),λx=>Hah x.1 x.2.1⟩
theorem Oal(G:Gd Nah):Con Tryz.prog 21 faj:=Ba (pts:=[(.lst .item),(.lst .item)]) (F:=F21) G λ_ _=>Nal G
def gaj:SP:=[(80,dE),(38,Ef)]
abbrev F51:Fnn:=⟨[.cell 2 38],.one .fr (.st .time),some 0,[]⟩
abbrev eak:LB->Time×Int->RV:=rvR F51
abbrev fak:=@OkF Tryz.prog tt Tryz.f51 F51 (Time×Int)
def eai(x2:LB)(x3:Int)(x4:Time):Tr (Time×Int) (Int×Int×Int) Empty Empty Empty:=.k (ua (x2,x3) 16) λu5=>.w [Eb (x2,x3) 16] (.c (cmp .eql u5.1 0) (.k (ua (x2,u5.2) 2) λu7=>.w [Eb (x2,u5.2) 2,inb u7.1 (aa .int [(-1),8])] (.l (.n (u7.2,(rd .int [(-1),8] u7.1),x4.B))))
 (.c (cmp .eql u5.1 1) (.k (ua (x2,u5.2) 2) λu9=>.w [Eb (x2,u5.2) 2,inb u9.1 (aa .int [(-1),8])] (.l (.n (u9.2,x4.A,(rd .int [(-1),8] u9.1)))))
 (.l (.n (u5.2,x4.A,x4.B)))))
def Pal:=λx2 x3 x4=>(eai x2 x3 x4).val
def iaj:=λx2 x3 x4=>(eai x2 x3 x4).ob
def fai:=λx2 x3 x4=>da.mk (Pal x2 x3 x4) (iaj x2 x3 x4) [0,1,1] [(0,.R x2 x3),(2,.B [0,0]),(3,.B [x4.A,x4.B])] (eak x2) (λq=>[(0,.R x2 q.1),(2,.B [0,0]),(3,.B [q.2.1,q.2.2])]) nE nE nE
theorem Qal(G:Gd gaj){fr x2 x3 x4}:fak fr (fai x2 x3 x4):=oa G [(2,[0,2,3,7]),(3,[0,2,3,7,8]),(4,[0,2,3]),(5,[0,2,3,16]),(6,[0,2,3])] (eai x2 x3 x4)
def gai(a0:(LB×Int)):Tr (Time×Int) Empty Empty Empty Empty:=.k (Qr (a0.1,a0.2)) λu1=>.w [Rr (a0.1,a0.2)] (.s (fai a0.1 u1.2 u1.1) (λq13=>.l (.r ((Time.mk q13.2.1 q13.2.2),q13.1))) nE nE nE)
def gak:=λa0=>(gai a0).val
def jaj:=λa0=>(gai a0).ob
def Ral:=λa0=>da.mk (gak a0) (jaj a0) [] [(0,.R a0.1 a0.2)] (eak a0.1) nE nE nE nE
theorem Sal(G:Gd gaj){fr a0}:fak fr (Ral a0):=ga G [([0,1,1],λe=>⟨fai (gL .byte e 0 0) (gI e 0 1) (Kd e 3)⟩)] ⟨λ_=>⟨rfl,Qal G⟩,trivial⟩ [(0,[0,2]),(1,[0,2,3]),(7,[0,2])] (gai a0)
def hak(a0:(LB×Int)):Time×Int:=ocR (gak a0)
def iai(a0:(LB×Int)):Prop:=jaj a0
def kaj:Spec:=⟨[.rdr],.one .fr (.st .time),true,λx=>hak x.1,λx=>iai x.1⟩
theorem Tal(G:Gd gaj):Con Tryz.prog 51 kaj:=Vf (pts:=[.rdr]) (F:=F51) G (λx=>x.1.1) λ_ _=>Sal G
def iak:SP:=[(35,PD),(39,lF),(51,kaj)]
abbrev F22:Fnn:=⟨[.tmp 2,.cell 3 38],.tup [(false,(.lst .row)),(false,(.st .time))],none,[]⟩
abbrev Ual:LR×Time×Unit->RV:=rvF F22
abbrev Wal:=@OkF Tryz.prog tt Tryz.f22 F22 (LR×Time×Unit)
def jai(a0:LB):Tr (LR×Time×Unit) Empty Empty Empty Empty:=.k (Pg a0) λu1=>.w [fm a0] (.k (Dd (u1.1,u1.2)) λu2=>.w [ci (u1.1,u1.2),iai (u1.1,u2.2)] (.l (.r (u2.1,((hak (u1.1,u2.2)).1,())))))
def laj:=λa0=>(jai a0).val
def maj:=λa0=>(jai a0).ob
def Xal:=λa0=>da.mk (laj a0) (maj a0) [] [(0,.S .byte a0)] Ual nE nE nE nE
theorem Yal(G:Gd iak){fr a0}:Wal fr (Xal a0):=oa G [(0,[0,3]),(1,[3,4]),(2,[2,3])] (jai a0)
def kai(a0:LB):LR×Time×Unit:=ocR (laj a0)
def lai(a0:LB):Prop:=maj a0
def naj:Spec:=⟨[(.lst .byte)],.tup [(false,(.lst .row)),(false,(.st .time))],false,λx=>(kai x.1,0),λx=>lai x.1⟩
theorem Zal(G:Gd iak):Con Tryz.prog 22 naj:=Ba (pts:=[(.lst .byte)]) (F:=F22) G λ_ _=>Yal G
def jak:SP:=[(45,Bo),(54,lI),(47,qk)]
abbrev F26:Fnn:=⟨[.tmp 4],.one .sh (.lst .row),none,[]⟩
abbrev aam:LR->RV:=rvF F26
abbrev bam:=@OkF Tryz.prog tt Tryz.f26 F26 LR
def mai(a0 a1:LR):Tr LR Empty Empty Empty Empty:=.w [Ao a0,((!(!(zo a0)))&&true)=true->(Ao a1)] (.c (cond (!(zo a0)) true (!(zo a1))) (.l (.r []))
 (.k (jy a0 a1) λu4=>.w [ly a0 a1,ah u4] (.l (.r (re u4).1))))
def oaj:=λa0 a1=>(mai a0 a1).val
def paj:=λa0 a1=>(mai a0 a1).ob
def cam:=λa0 a1=>da.mk (oaj a0 a1) (paj a0 a1) [] [(0,.S .row a0),(1,.S .row a1)] aam nE nE nE nE
theorem dam(G:Gd jak){fr a0 a1}:bam fr (cam a0 a1):=oa G [(0,[0,1]),(1,[0,1,14]),(2,[4]),(3,[5]),(4,[4])] (mai a0 a1)
def nai(a0:LR)(a1:LR):LR:=ocR (oaj a0 a1)
def oai(a0:LR)(a1:LR):Prop:=paj a0 a1
def qaj:Spec:=⟨[(.lst .row),(.lst .row)],.one .sh (.lst .row),false,λx=>(nai x.1 x.2.1,0),λx=>oai x.1 x.2.1⟩
theorem eam(G:Gd jak):Con Tryz.prog 26 qaj:=Ba (pts:=[(.lst .row),(.lst .row)]) (F:=F26) G λ_ _=>dam G
def sah:SP:=[]
abbrev F27:Fnn:=⟨[.tmp 0],.one (.acc true) (.lst .time),none,[]⟩
abbrev Tah:List Time->RV:=rvF F27
abbrev vah:=@OkF Tryz.prog tt Tryz.f27 F27 (List Time)
def Uah(_x29:List Time)(x30:Int)(s34:List Time)(s35:Int):Tr (List Time) ((List Time)×Int) ((List Time)) Empty Empty:=.c (cmp .leq s35 7) (.w [lim (aa .time s34) (aa .time [(Time.mk x30 s35)])] (.l (.n ((s34++[(Time.mk x30 s35)]),(ar .add .i64 s35 1)))))
 (.l (.x s34))
def wah:=λx29 x30 s34 s35=>(Uah x29 x30 s34 s35).val
def Iah:=λx29 x30 s34 s35=>(Uah x29 x30 s34 s35).ob
def raj:=λx29 x30 s34 s35=>Ka (wah x29 x30 s34 s35) (Iah x29 x30 s34 s35) [0,0,1,0,0,1,0,0,1,0,1,1] (λq=>[(1,.A .time q.1),(2,.I x30),(3,.I q.2)]) (s34,s35) Tah (λq=>(2,[(1,.A .time q),(2,.I x30)])) nE nE
theorem fam(G:Gd sah){fr x29 x30 s34 s35}:vah fr (raj x29 x30 s34 s35):=oa G [(6,[1,2,3,10]),(7,[1,2,3]),(8,[1,2,3])] (Uah x29 x30 s34 s35)
def kak:=λx29 x30=>lpV (λs:(List Time)×Int=>ca (wah x29 x30 s.1 s.2)) (x29,0)
def lak:=λx29 x30=>LpT (λs:(List Time)×Int=>ca (wah x29 x30 s.1 s.2)) (λs=>Iah x29 x30 s.1 s.2) (x29,0)
def pai:=λx29 x30=>lpS (raj x29 x30 x29 0) (kak x29 x30) (lak x29 x30)
theorem gam(G:Gd sah){fr x29 x30}:vah fr (pai x29 x30):=Na (λs:(List Time)×Int=>raj x29 x30 s.1 s.2) (x29,0) λ_=>fam G
def qai(x27:List Time)(x28:Int):Tr (List Time) ((List Time)) Empty Empty Empty:=.s (pai x27 x28) nE (λq44=>.l (.n q44)) nE nE
def mak:=λx27 x28=>(qai x27 x28).val
def nak:=λx27 x28=>(qai x27 x28).ob
def rai:=λx27 x28=>da.mk (mak x27 x28) (nak x27 x28) [0,1,0,0,1,0,1,1] [(1,.A .time x27),(2,.I x28)] Tah (λq=>[(1,.A .time q),(2,.I x28)]) nE nE nE
theorem ham(G:Gd sah){fr x27 x28}:vah fr (rai x27 x28):=ga G [([0,1,0,0,1,0,0,1,0,1,1],λe=>⟨pai (gL .time e 1 0) (gI e 2 0)⟩)] ⟨λ_=>⟨rfl,gam G⟩,trivial⟩ [(5,[1,2,3])] (qai x27 x28)
def Vah(s24:List Time)(s25:Int):Tr (List Time) ((List Time)×Int) ((List Time)) Empty Empty:=.c (cmp .leq s25 7) (.s (rai s24 s25) (λq47=>.l (.n (q47,(ar .add .i64 s25 1)))) nE nE nE)
 (.l (.x s24))
def xah:=λs24 s25=>(Vah s24 s25).val
def Jah:=λs24 s25=>(Vah s24 s25).ob
def saj:=λs24 s25=>Ka (xah s24 s25) (Jah s24 s25) [0,0,1,0,1,1] (λq=>[(1,.A .time q.1),(2,.I q.2)]) (s24,s25) Tah (λq=>(0,[(1,.A .time q)])) nE nE
theorem iam(G:Gd sah){fr s24 s25}:vah fr (saj s24 s25):=ga G [([0,1,0,0,1,0,1,1],λe=>⟨rai (gL .time e 1 0) (gI e 2 0)⟩)] ⟨λ_=>⟨rfl,ham G⟩,trivial⟩ [(3,[1,2,6]),(4,[1,2])] (Vah s24 s25)
def oak:=lpV (λs:(List Time)×Int=>ca (xah s.1 s.2)) ([],0)
def pak:=LpT (λs:(List Time)×Int=>ca (xah s.1 s.2)) (λs=>Jah s.1 s.2) ([],0)
def sai:=lpS (saj [] 0) (oak) (pak)
theorem jam(G:Gd sah){fr}:vah fr (sai):=Na (λs:(List Time)×Int=>saj s.1 s.2) ([],0) λ_=>iam G
def tai:Tr (List Time) ((List Time)) Empty Empty Empty:=.s sai nE (λq58=>.l (.n q58)) nE nE
def qak:=(tai).val
def rak:=(tai).ob
def uai:=da.mk (qak) (rak) [0,1,1] [(1,.A .time [])] Tah (λq=>[(1,.A .time q)]) nE nE nE
theorem kam(G:Gd sah){fr}:vah fr (uai):=ga G [([0,1,0,1,1],λe=>⟨sai⟩)] ⟨λ_=>⟨rfl,jam G⟩,trivial⟩ [(2,[1,2])] tai
def vai:Tr (List Time) Empty Empty Empty Empty:=.s uai (λq61=>.l (.r q61)) nE nE nE
def taj:=(vai).val
def uaj:=(vai).ob
def lam:=da.mk (taj) (uaj) [] [] Tah nE nE nE nE
theorem mam(G:Gd sah){fr}:vah fr (lam):=ga G [([0,1,1],λe=>⟨uai⟩)] ⟨λ_=>⟨rfl,kam G⟩,trivial⟩ [(0,[]),(1,[1]),(9,[0])] vai
def wai  : List Time:=ocR (taj)
def xai  : Prop:=uaj
def vaj:Spec:=⟨[],.one (.acc true) (.lst .time),false,λ_=>(wai,0),λ_=>xai⟩
theorem nam(G:Gd sah):Con Tryz.prog 27 vaj:=Ba (pts:=[]) (F:=F27) G λ_ _=>mam G
def sak:SP:=[(49,vo),(55,GI)]
abbrev F28:Fnn:=⟨[.tmp 4],.one .fr .bool,none,[]⟩
abbrev oam:Bool->RV:=rvF F28
abbrev pam:=@OkF Tryz.prog tt Tryz.f28 F28 Bool
def yai(a0 a1:Time):Tr Bool Empty Empty Empty Empty:=.k (Hf a0) λu1=>.w [ji a0,(u1&&true)=true->(ji a1),((cond u1 (Hf a1) false)&&true)=true->(FI a0 a1)] (.l (.r (cond (cond u1 (Hf a1) false) (DI a0 a1) false)))
def waj:=λa0 a1=>(yai a0 a1).val
def xaj:=λa0 a1=>(yai a0 a1).ob
def qam:=λa0 a1=>da.mk (waj a0 a1) (xaj a0 a1) [] [(0,.agg true [.i a0.A,.i a0.B]),(1,.agg true [.i a1.A,.i a1.B])] oam nE nE nE nE
theorem ram(G:Gd sak){fr a0 a1}:pam fr (qam a0 a1):=oa G [(0,[2,3]),(1,[4])] (yai a0 a1)
def zai(a0:Time)(a1:Time):Bool:=ocR (waj a0 a1)
def Aai(a0:Time)(a1:Time):Prop:=xaj a0 a1
def yaj:Spec:=⟨[(.st .time),(.st .time)],.one .fr .bool,false,λx=>(zai x.1 x.2.1,0),λx=>Aai x.1 x.2.1⟩
theorem sam(G:Gd sak):Con Tryz.prog 28 yaj:=Ba (pts:=[(.st .time),(.st .time)]) (F:=F28) G λ_ _=>ram G
def tah:SP:=[(12,Nt),(22,naj),(13,mH),(14,HJ),(15,NJ),(23,Th),(24,Yi),(25,Lo),(26,qaj),(27,vaj),(28,yaj),(20,Zai),(21,faj)]
abbrev F9:Fnn:=⟨[.tmp 4],.one .fr .bool,none,[]⟩
abbrev rv9:Bool->RV:=rvF F9
abbrev Ok9:=@OkF Tryz.prog tt Tryz.f9 F9 Bool
def Wah(_x17 _x18:Int)(_x19:LP)(_x20:List LR)(x21:LR)(x22:Time)(_x23 s28:LR)(s29:Int):Tr Bool (LR×Int) LR Empty Empty:=.c (cmp .lss s29 (aa .row x21)) (.w [inb s29 (aa .row x21)] (.k (mi (rd .row x21 s29).At x22) λu31=>.w [ni (rd .row x21 s29).At x22] (.w [lim (aa .row s28) (aa .row [(Row.mk (rd .row x21 s29).Key (rd .row x21 s29).Val u31 (rd .row x21 s29).Diff)])] (.l (.n ((s28++[(Row.mk (rd .row x21 s29).Key (rd .row x21 s29).Val u31 (rd .row x21 s29).Diff)]),(ar .add .i64 s29 1)))))))
 (.l (.x s28))
def Kah:=λx17 x18 x19 x20 x21 x22 x23 s28 s29=>(Wah x17 x18 x19 x20 x21 x22 x23 s28 s29).val
def Xah:=λx17 x18 x19 x20 x21 x22 x23 s28 s29=>(Wah x17 x18 x19 x20 x21 x22 x23 s28 s29).ob
def zaj:=λx17 x18 x19 x20 x21 x22 x23 s28 s29=>Ka (Kah x17 x18 x19 x20 x21 x22 x23 s28 s29) (Xah x17 x18 x19 x20 x21 x22 x23 s28 s29) [0,0,1,0,1,1,1,1,1,1,1,1] (λq=>[(5,.box [(.fr,.i x17),(.fr,.i x18),(.sh,.lst .plan x19)]),(6,.S .lrow x20),(7,.S .row x21),(8,.B [x22.A,x22.B]),(11,.S .row x23),(13,.A .row q.1),(14,.I q.2)]) (s28,s29) rv9 (λq=>(0,[(5,.box [(.fr,.i x17),(.fr,.i x18),(.sh,.lst .plan x19)]),(6,.S .lrow x20),(8,.B [x22.A,x22.B]),(11,.S .row x23),(13,.A .row q)])) nE nE
theorem tam(G:Gd tah){fr x17 x18 x19 x20 x21 x22 x23 s28 s29}:Ok9 fr (zaj x17 x18 x19 x20 x21 x22 x23 s28 s29):=oa G [(11,[5,6,7,8,11,13,14,86]),(12,[5,6,7,8,11,13,14]),(13,[5,6,7,8,11,13,14,15]),(14,[5,6,7,8,11,13,14,15]),(15,[5,6,7,8,11,13,14])] (Wah x17 x18 x19 x20 x21 x22 x23 s28 s29)
def tak:=λx17 x18 x19 x20 x21 x22 x23=>lpV (λs:LR×Int=>ca (Kah x17 x18 x19 x20 x21 x22 x23 s.1 s.2)) ([],0)
def uak:=λx17 x18 x19 x20 x21 x22 x23=>LpT (λs:LR×Int=>ca (Kah x17 x18 x19 x20 x21 x22 x23 s.1 s.2)) (λs=>Xah x17 x18 x19 x20 x21 x22 x23 s.1 s.2) ([],0)
def Bai:=λx17 x18 x19 x20 x21 x22 x23=>lpS (zaj x17 x18 x19 x20 x21 x22 x23 [] 0) (tak x17 x18 x19 x20 x21 x22 x23) (uak x17 x18 x19 x20 x21 x22 x23)
theorem uam(G:Gd tah){fr x17 x18 x19 x20 x21 x22 x23}:Ok9 fr (Bai x17 x18 x19 x20 x21 x22 x23):=Na (λs:LR×Int=>zaj x17 x18 x19 x20 x21 x22 x23 s.1 s.2) ([],0) λ_=>tam G
def Cai(x10 x11:Int)(x12:LP)(x13:List LR)(x14:LR)(x15:Time)(x16:LR):Tr Bool LR Empty Empty Empty:=.s (Bai x10 x11 x12 x13 x14 x15 x16) nE (λq39=>.l (.n q39)) nE nE
def vak:=λx10 x11 x12 x13 x14 x15 x16=>(Cai x10 x11 x12 x13 x14 x15 x16).val
def wak:=λx10 x11 x12 x13 x14 x15 x16=>(Cai x10 x11 x12 x13 x14 x15 x16).ob
def Dai:=λx10 x11 x12 x13 x14 x15 x16=>da.mk (vak x10 x11 x12 x13 x14 x15 x16) (wak x10 x11 x12 x13 x14 x15 x16) [0,1,1,1,1,1,1,1,1] [(5,.box [(.fr,.i x10),(.fr,.i x11),(.sh,.lst .plan x12)]),(6,.S .lrow x13),(7,.S .row x14),(8,.B [x15.A,x15.B]),(11,.S .row x16),(13,.A .row [])] rv9 (λq=>[(5,.box [(.fr,.i x10),(.fr,.i x11),(.sh,.lst .plan x12)]),(6,.S .lrow x13),(8,.B [x15.A,x15.B]),(11,.S .row x16),(13,.A .row q)]) nE nE nE
theorem vam(G:Gd tah){fr x10 x11 x12 x13 x14 x15 x16}:Ok9 fr (Dai x10 x11 x12 x13 x14 x15 x16):=ga G [([0,1,0,1,1,1,1,1,1,1,1],λe=>⟨Bai (gI e 5 0) (gI e 5 1) (gL .plan e 5 2) (gL .lrow e 6 0) (gL .row e 7 0) (Kd e 8) (gL .row e 11 0)⟩)] ⟨λ_=>⟨rfl,uam G⟩,trivial⟩ [(10,[5,6,7,8,11,13,14])] (Cai x10 x11 x12 x13 x14 x15 x16)
def yah(x51:Time)(x52 x53:LR)(x54:Bool)(x55:List Time)(s63:Int):Tr Bool Int Unit Empty Empty:=.c (cond (cmp .lss s63 (aa .time x55)) x54 false) (.k (zai x51 (rd .time x55 s63)) λu65=>.k (Lah x52 (rd .time x55 s63)) λu66=>.k (Lah x53 (rd .time x55 s63)) λu67=>.w [inb s63 (aa .time x55),Aai x51 (rd .time x55 s63),((!u65)&&true)=true->inb s63 (aa .time x55),((!u65)&&true)=true->(Mah x52 (rd .time x55 s63)),((!u65)&&true)=true->inb s63 (aa .time x55),((!u65)&&true)=true->(Mah x53 (rd .time x55 s63)),((!u65)&&true)=true->(Hah u66 u67)] (.c (cond (!u65) (!(Gah u66 u67)) false) (.l (.r false))
 (.l (.n (ar .add .i64 s63 1)))))
 (.l (.x ()))
def uah:=λx51 x52 x53 x54 x55 s63=>(yah x51 x52 x53 x54 x55 s63).val
def zah:=λx51 x52 x53 x54 x55 s63=>(yah x51 x52 x53 x54 x55 s63).ob
def Aaj:=λx51 x52 x53 x54 x55 s63=>Ka (uah x51 x52 x53 x54 x55 s63) (zah x51 x52 x53 x54 x55 s63) [0,0,1,0,1,1,1,1,1,1,1,1,1,1,1,1] (λq=>[(8,.B [x51.A,x51.B]),(11,.S .row x52),(17,.S .row x53),(18,.O x54),(19,.A .time x55),(20,.I q)]) s63 rv9 (λ_=>(2,[])) nE nE
theorem wam(G:Gd tah){fr x51 x52 x53 x54 x55 s63}:Ok9 fr (Aaj x51 x52 x53 x54 x55 s63):=oa G [(20,[8,11,17,18,19,20,124]),(21,[8,11,17,18,19,20]),(22,[8,11,17,18,19,20,149]),(23,[4])] (yah x51 x52 x53 x54 x55 s63)
def Baj:=λx51 x52 x53 x54 x55=>lpV (λs:Int=>ca (uah x51 x52 x53 x54 x55 s)) 0
def Caj:=λx51 x52 x53 x54 x55=>LpT (λs:Int=>ca (uah x51 x52 x53 x54 x55 s)) (λs=>zah x51 x52 x53 x54 x55 s) 0
def Eai:=λx51 x52 x53 x54 x55=>lpS (Aaj x51 x52 x53 x54 x55 0) (Baj x51 x52 x53 x54 x55) (Caj x51 x52 x53 x54 x55)
theorem xam(G:Gd tah){fr x51 x52 x53 x54 x55}:Ok9 fr (Eai x51 x52 x53 x54 x55):=Na (λs:Int=>Aaj x51 x52 x53 x54 x55 s) 0 λ_=>wam G
def Fai(x46:Time)(x47 x48:LR)(x49:Bool)(x50:List Time):Tr Bool Unit Empty Empty Empty:=.s (Eai x46 x47 x48 x49 x50) nE (λ_=>.l (.n ())) nE nE
def xak:=λx46 x47 x48 x49 x50=>(Fai x46 x47 x48 x49 x50).val
def yak:=λx46 x47 x48 x49 x50=>(Fai x46 x47 x48 x49 x50).ob
def Gai:=λx46 x47 x48 x49 x50=>da.mk (xak x46 x47 x48 x49 x50) (yak x46 x47 x48 x49 x50) [0,1,1,1,1,1,1,1,1,1,1,1,1] [(8,.B [x46.A,x46.B]),(11,.S .row x47),(17,.S .row x48),(18,.O x49),(19,.A .time x50)] rv9 (λ_=>[]) nE nE nE
theorem yam(G:Gd tah){fr x46 x47 x48 x49 x50}:Ok9 fr (Gai x46 x47 x48 x49 x50):=ga G [([0,1,0,1,1,1,1,1,1,1,1,1,1,1,1],λe=>⟨Eai (Kd e 8) (gL .row e 11 0) (gL .row e 17 0) (gB e 18 0) (gL .time e 19 0)⟩)] ⟨λ_=>⟨rfl,xam G⟩,trivial⟩ [(19,[8,11,17,18,19,20])] (Fai x46 x47 x48 x49 x50)
def Yah(a0 a1:LB):Tr Bool Empty Empty Empty Empty:=.c (cond (cmp .gtr (aa .byte a0) 1048576) true (cmp .gtr (aa .byte a1) 1048576)) (.l (.r true))
 (.k (Wg a0) λu2=>.w [nj a0] (.k (kai a1) λu3=>.w [lai a1] (.k (mo (Plan.mk u2.1.Kind u2.1.Num u2.1.Kids) u2.2.1) λu4=>.w [po (Plan.mk u2.1.Kind u2.1.Num u2.1.Kids) u2.2.1] (.k (Jp (Plan.mk u2.1.Kind u2.1.Num u2.1.Kids) u2.2.1) λu5=>.w [Kp (Plan.mk u2.1.Kind u2.1.Num u2.1.Kids) u2.2.1] (.k (rA u5.1 u4.1) λu6=>.w [((!(!(u5.2.1 == u4.2.1)))&&true)=true->(sA u5.1 u4.1),((!(cond (cond (!(u5.2.1 == u4.2.1)) true (!u6)) true (!u5.2.1)))&&true)=true->(Rg u3.1),((!(cond (cond (cond (!(u5.2.1 == u4.2.1)) true (!u6)) true (!u5.2.1)) true (!(jg u3.1))))&&true)=true->(Qg u3.2.1)] (.c (cond (cond (cond (cond (!(u5.2.1 == u4.2.1)) true (!u6)) true (!u5.2.1)) true (!(jg u3.1))) true (!(qe u3.2.1))) (.w [((u5.2.1 == u4.2.1)&&true)=true->(sA u5.1 u4.1)] (.l (.r (cond (u5.2.1 == u4.2.1) u6 false))))
 (.s (Dai u2.1.Kind u2.1.Num u2.1.Kids u2.2.1 u3.1 u3.2.1 u5.1) (λq42=>.k (nai (rd .lrow u2.2.1 0) q42) λu44=>.w [inb 0 (aa .lrow u2.2.1),oai (rd .lrow u2.2.1 0) q42,inb 1 (aa .lrow u2.2.1)] (.k (Jp (Plan.mk u2.1.Kind u2.1.Num u2.1.Kids) [u44,(rd .lrow u2.2.1 1)]) λu45=>.w [(Kp (Plan.mk u2.1.Kind u2.1.Num u2.1.Kids) [u44,(rd .lrow u2.2.1 1)])] (.w [xai] (.s (Gai u3.2.1 u5.1 u45.1 u45.2.1 wai) (λ_=>.l (.r true)) nE nE nE)))) nE nE nE)))))))
def Hai:=λa0 a1=>(Yah a0 a1).val
def Iai:=λa0 a1=>(Yah a0 a1).ob
def zam:=λa0 a1=>da.mk (Hai a0 a1) (Iai a0 a1) [] [(0,.S .byte a0),(1,.S .byte a1)] rv9 nE nE nE nE
theorem Aam(G:Gd tah){fr a0 a1}:Ok9 fr (zam a0 a1):=ga G [([0,1,1,1,1,1,1,1,1],λe=>⟨Dai (gI e 5 0) (gI e 5 1) (gL .plan e 5 2) (gL .lrow e 6 0) (gL .row e 7 0) (Kd e 8) (gL .row e 11 0)⟩),([0,1,1,1,1,1,1,1,1,1,1,1,1],λe=>⟨Gai (Kd e 8) (gL .row e 11 0) (gL .row e 17 0) (gB e 18 0) (gL .time e 19 0)⟩)] ⟨λ_=>⟨rfl,vam G⟩,λ_=>⟨rfl,yam G⟩,trivial⟩ [(0,[0,1]),(1,[0,1,28]),(2,[4]),(3,[1,5,6]),(4,[5,6,7,8]),(5,[5,6,7,8,9,10]),(6,[5,6,7,8,9,10,11,12]),(7,[5,6,7,8,9,10,11,12,73]),(8,[4]),(9,[5,6,7,8,11,13]),(16,[5,8,11,16]),(17,[8,11,17,18]),(18,[8,11,17,18,19]),(24,[4])] (Yah a0 a1)
def Jai(a0:LB)(a1:LB):Bool:=ocR (Hai a0 a1)
def Kai(a0:LB)(a1:LB):Prop:=Iai a0 a1
def zak:Spec:=⟨[(.lst .byte),(.lst .byte)],.one .fr .bool,false,λx=>(Jai x.1 x.2.1,0),λx=>Kai x.1 x.2.1⟩
theorem Bam(G:Gd tah):Con Tryz.prog 9 zak:=Ba (pts:=[(.lst .byte),(.lst .byte)]) (F:=F9) G λ_ _=>Aam G
end
end Go.Proofs.YthfkpijcajdnhaaGreat

namespace Go.Proofs.YthfkpijcajdnhaaGreat
namespace Dp
open Go
set_option maxRecDepth 100000
section
variable {Q:Exit->Act->World->Prop} {B:Nat} {W0:World} {F0:Fz} {a:Act} {w:World} {p:Plan} {l:List LR}
end
end Dp
end Go.Proofs.YthfkpijcajdnhaaGreat

namespace Go.Proofs.YthfkpijcajdnhaaGreat
namespace Da
open Go
set_option maxRecDepth 100000
section
variable {Q:Exit->Act->World->Prop} {B:Nat} {W0:World} {F0:Fz} {a:Act} {w:World} {f:List Time} {l:LR} {v:Value}
end
end Da
end Go.Proofs.YthfkpijcajdnhaaGreat

namespace Go.Proofs.YthfkpijcajdnhaaGreat
open Go
theorem Bah:∀l,0<=Sl l
 |[]=>Int.le_refl _
 |q::r=>by have:=Bah r;simp only[Sl];split<;>omega
theorem Laj:∀l k,sumT l k<=Sl l/\-Sl l<=sumT l k
 |[],k=>by simp[sumT,Sl]
 |q::r,k=>by
  have:=Laj r k;simp only[Sl,sumT];split<;>split<;>omega
theorem Hak{l:List (List Int×Int)}(h:Sl l<=1000000000000000)(k:List Int):Le l k=sumT l k:=by
 suffices ∀ (l:List (List Int×Int)) (s B:Int),B+Sl l<=1000000000000000->s<=B/\-B<=s->l.foldl (λs q=>if q.1=k then ar .add .i64 s q.2 else s) s=s+sumT l k by
  have:=this l 0 0 (by omega) (by omega);unfold Le;rw[this,Int.zero_add]
 intro l
 induction l with
 |nil=>intro s B _ _;simp[sumT]
 |cons q r ih=>
  intro s B h1 h2;have hn:=Bah r;simp only[Sl]at h1;rw[List.foldl_cons]
  have key:∀t:Int,(if q.1=k then ar .add .i64 s q.2 else s)=t->(t=s+(if q.1=k then q.2 else 0))->(r.foldl (λs q=>if q.1=k then ar .add .i64 s q.2 else s) (if q.1=k then ar .add .i64 s q.2 else s))=s+sumT (q::r) k:=by
   intro t h3 h4;rw[h3,ih t (B+(if 0<=q.2 then q.2 else -q.2)) (by split at h1<;>split<;>omega) (by split at h4<;>split<;>omega),h4];simp only[sumT];omega
  refine key _ rfl ?_;by_cases hq:q.1=k
  ·rw[if_pos hq,if_pos hq,nc];split at h1<;>omega
  .rw[if_neg hq,if_neg hq,Int.add_zero]
theorem Maj{c:Int}:∀ {xs:List Item},uD c xs->Sl (chI xs)<=(xs.length:Int)*c
 |[],_=>by simp[chI,Sl]
 |x::r,h=>by
  have h1:=Maj (xs:=r) (λy hy=>h y (by simp[hy]));have h2:=h x (by simp);show (if 0<=x.Count then x.Count else -x.Count)+Sl (chI r)<=_;rw[List.length_cons,Int.natCast_add,Int.add_mul];split<;>omega
theorem Iak{c:Int}{xs:List Item}(h:uD c xs)(hb:(xs.length:Int)*c<=1000000000000):uD ((xs.length:Int)*c) (gathI xs):=by
 intro y hy;obtain⟨p,hp,rfl⟩:=List.mem_map.1 hy;obtain⟨x,_,e⟩:=tD hp;obtain⟨h1,_⟩:=ze.1 hp;have h2:=Maj h
 have hc:(mkI p).Count=p.2:=by
  obtain⟨k,d⟩:=p;have e:k=kI x:=e;subst e;rfl
 rw[hc,h1,Hak (by omega)];have:=Laj (chI xs) p.1;omega
theorem Jak{xs:List Item}(h:∀x∈xs,InR x.Count):(gathI xs).length<=xs.length:=by
 rw[← ZY,List.length_map];have:=rD (xs:=xs.map itR) (λy hy=>by obtain⟨x,hx,rfl⟩:=List.mem_map.1 hy;exact h x hx);simpa using this
end Go.Proofs.YthfkpijcajdnhaaGreat

namespace Go.Proofs.YthfkpijcajdnhaaGreat
open Go
theorem Daj(φ:List Int->Bool)(q:List Int×Int):∀m:MP,(if 0<=q.2 then q.2 else -q.2)+Sl m<=1000000000000000 ->
  sumF φ (gc q m)=(if φ q.1=true then q.2 else 0)+sumF φ m/\Sl (gc q m)<=(if 0<=q.2 then q.2 else -q.2)+Sl m
 |[],_=>by simp[gc,sumF,Sl]
 |p::m,h=>by
  have hn:=Bah m;unfold gc;split
  .exact⟨rfl,Int.le_refl _⟩
  ·split
   ·rename_i h1 h2;simp only[Sl]at h;have ha:ar .add .i64 q.2 p.2=q.2+p.2:=nc (by split at h<;>split at h<;>omega);simp only[sumF,Sl,ha,h2];constructor
    .split<;>omega
    .split<;>split<;>split<;>omega
   ·simp only[Sl]at h;obtain⟨h1,h2⟩:=Daj φ q m (by split at h<;>split at h<;>split<;>omega);simp only[sumF,Sl,h1];exact⟨by omega,by omega⟩
theorem Aak(φ:List Int->Bool)(l:List (List Int×Int))(h:Sl l<=1000000000000000):sumF φ (Se l)=sumF φ l/\Sl (Se l)<=Sl l:=by
 suffices ∀ (l:List (List Int×Int)) (m:MP),Sl m+Sl l<=1000000000000000->sumF φ (l.foldl (λm q=>gc q m) m)=sumF φ m+sumF φ l/\Sl (l.foldl (λm q=>gc q m) m)<=Sl m+Sl l by
  have:=this l [] (by simp[Sl];exact h);simpa [Se,sumF,Sl] using this
 intro l
 induction l with
 |nil=>intro m _;simp[sumF,Sl]
 |cons q r ih=>
  intro m h;have hn:=Bah r;simp only[Sl]at h;obtain⟨h1,h2⟩:=Daj φ q m (by omega);obtain⟨h3,h4⟩:=ih (gc q m) (by omega);rw[List.foldl_cons];simp only[sumF,Sl];exact⟨by omega,by omega⟩
theorem Eaj:∀ {l:List (List Int×Int)},Sl l<=1000000000000000->∀q∈l,IntKind.i64.wrap q.2=q.2
 |[],_,q,hq=>by simp at hq
 |p::r,h,q,hq=>by
  have hn:=Bah r;simp only[Sl]at h;rcases List.mem_cons.1 hq with rfl|hq
  .exact IntWalk.i64_in _ (by split at h<;>omega)
  .exact Eaj (l:=r) (by split at h<;>omega) q hq
theorem Bak{n:Nat}{l:List (List Int×Int)}(hk:yb n l)(h:Sl l<=1000000000000000)(φ:List Int->Bool):sumF φ (mc l)=sumF φ l/\Sl (mc l)<=Sl l:=by
 obtain⟨h1,h2⟩:=Aak φ l h;obtain⟨h3,h4⟩:=LM φ (Se l);rw[← HM hk (Eaj h),h3,h4];exact⟨h1,h2⟩
theorem Lai(φ:List Int->Bool)(k:List Int):∀l:List (List Int×Int),sumT (l.filter λq=>φ q.1) k=if φ k=true then sumT l k else 0
 |[]=>by simp[sumT]
 |q::r=>by
  have ih:=Lai φ k r;by_cases h:φ q.1=true
  ·rw[List.filter_cons_of_pos (by exact h)];simp only[sumT,ih];by_cases e:q.1=k
   .rw[e]at h;simp[h,e]
   .simp[e]
  ·rw[List.filter_cons_of_neg (by exact h)];simp only[sumT,ih];by_cases e:q.1=k
   .rw[e]at h;simp[h]
   .simp[e]
theorem Zah(xs:List Row):chR (ab xs)=mc (chR xs):=by
 unfold ab
 have:∀m:MP,(∀p∈m,∃x∈xs,p.1=rK x)->chR (m.map mkR)=m:=by
  intro m
  induction m with
  |nil=>exact λ_=>rfl
  |cons p m ih=>
   intro h;obtain⟨x,_,e⟩:=h p (by simp);show (rK (mkR p),(mkR p).Diff)::chR (m.map mkR)=_;rw[ih λq hq=>h q (by simp[hq])];obtain⟨k,d⟩:=p;have e:k=rK x:=e;subst e;rfl
 exact this _ λp hp=>GY hp
theorem Faj{a:List Row}(ha:Sl (chR a)<=1000000000000000):Sl (chR (ab a))<=Sl (chR a):=by
 rw[Zah];exact (Bak (pD a) ha λ_=>true).2
theorem Gaj:∀ {l:List (List Int×Int)} {q:List Int×Int},q∈l->-Sl l<=q.2/\q.2<=Sl l
 |p::r,q,h=>by
  have hn:=Bah r;simp only[Sl];rcases List.mem_cons.1 h with rfl|h
  .split<;>omega
  ·have:=Gaj h;split<;>omega
theorem Haj{xs:List Row}{x:Row}(h:x∈xs) : -Sl (chR xs)<=x.Diff/\x.Diff<=Sl (chR xs):=Gaj (q:=(rK x,x.Diff)) (List.mem_map.2 ⟨x,h,rfl⟩)
theorem Mai{c:Int}:∀ {xs:List Row},(∀x∈xs,-c<=x.Diff/\x.Diff<=c)->Sl (chR xs)<=(xs.length:Int)*c
 |[],_=>by simp[chR,Sl]
 |x::r,h=>by
  have h1:=Mai (xs:=r) (λy hy=>h y (by simp[hy]));have h2:=h x (by simp);show (if 0<=x.Diff then x.Diff else -x.Diff)+Sl (chR r)<=_;rw[List.length_cons,Int.natCast_add,Int.add_mul];split<;>omega
def φT(k:List Int)(t:Time):List Int->Bool
 |[a,b,x,y]=>decide ([a,b,0]=k)&&(decide (x<=t.A)&&decide (y<=t.B))
 |_=>false
theorem Nai(k:List Int)(t:Time):∀L:List Row,sumT (chI (Va L t)) k=sumF (φT k t) (chR L)
 |[]=>rfl
 |r::L=>by
  have ih:=Nai k t L;show _=(if φT k t (rK r)=true then r.Diff else 0)+sumF (φT k t) (chR L);rw[← ih];unfold Va;by_cases h:Bf r.At t=true
  ·rw[List.filter_cons_of_pos (by exact h)];show (if kI (rIt r)=k then r.Diff else 0)+_=_;have h2:(decide (r.At.A<=t.A)&&decide (r.At.B<=t.B))=true:=h
   have:φT k t (rK r)=decide (kI (rIt r)=k):=by
    show (decide ([r.Key,r.Val,0]=k)&&(decide (r.At.A<=t.A)&&decide (r.At.B<=t.B)))=_;rw[h2,Bool.and_true];rfl
   rw[this];simp only[decide_eq_true_eq];rfl
  ·rw[List.filter_cons_of_neg (by exact h)];have h2:(decide (r.At.A<=t.A)&&decide (r.At.B<=t.B))=false:=by simpa [Bf] using h
   have:φT k t (rK r)=false:=by
    show (decide ([r.Key,r.Val,0]=k)&&(decide (r.At.A<=t.A)&&decide (r.At.B<=t.B)))=_;rw[h2,Bool.and_false]
   rw[this];simp
theorem Cak(xs:List Row):(ab xs).Pairwise Te:=by
 have h:=Gh (pD xs);rw[← Zah]at h;have h2:=List.pairwise_map.1 (show ((ab xs).map λr=>(rK r,r.Diff)).Pairwise (λp q=>ltK p.1 q.1=true) from h);exact h2
theorem Iaj{xs:List Row}{z:Row}:z∈ab xs↔z.Diff=Le (chR xs) (rK z)/\z.Diff≠0:=by
 have h:z∈ab xs↔(rK z,z.Diff)∈chR (ab xs):=by
  refine⟨λh=>List.mem_map.2 ⟨z,h,rfl⟩,λh=>?_⟩;obtain⟨y,hy,e⟩:=List.mem_map.1 h
  have:y=z:=by
   obtain⟨a,b,⟨c,d⟩,f⟩:=y;obtain⟨a',b',⟨c',d'⟩,f'⟩:=z;simp[rK]at e;obtain⟨⟨rfl,rfl,rfl,rfl⟩,rfl⟩:=e;rfl
  exact this▸hy
 rw[h,Zah,ze]
theorem Dak{xs:List Row}{z:Row}(h:z∈ab xs):∃x∈xs,rK x=rK z:=by
 obtain⟨h1,h2⟩:=Iaj.1 h;obtain⟨q,hq,e⟩:=Ll (h1▸h2);obtain⟨x,hx,rfl⟩:=List.mem_map.1 hq;exact⟨x,hx,e⟩
end Go.Proofs.YthfkpijcajdnhaaGreat

namespace Go.Proofs.YthfkpijcajdnhaaGreat
open Go
theorem Eak{a:List Row}(h:∀x∈a,InR x.Diff):∀q∈chR a,InR q.2:=λq hq=>by
 obtain⟨x,hx,rfl⟩:=List.mem_map.1 hq;exact h x hx
def sumW(w:List Int->Int):List (List Int×Int)->Int
 |[]=>0
 |q::r=>w q.1*q.2+sumW w r
theorem Jaj(w:List Int->Int):∀m:MP,sumW w (m.filter λp=>p.2 != 0)=sumW w m
 |[]=>rfl
 |p::m=>by
  have h1:=Jaj w m;by_cases h:p.2=0
  .simp[h,sumW,h1]
  .simp[h,sumW,h1]
theorem Kaj(w:List Int->Int)(q:List Int×Int):∀m:MP,Eqm (sumW w (gc q m)) (w q.1*q.2+sumW w m)
 |[]=>Eqm.refl _
 |p::m=>by
  unfold gc;split
  .exact Eqm.refl _
  ·split
   ·rename_i h1 h2;simp only[sumW,h2];have ha:Eqm (w q.1*ar .add .i64 q.2 p.2) (w q.1*(q.2+p.2)):=Eqm.mul _ (Nl _);rw[Int.mul_add]at ha;exact (ha.add (Eqm.refl _)).trans (Eqm.of (by omega))
   ·simp only[sumW];exact ((Eqm.refl _).add (Kaj w q m)).trans (Eqm.of (by omega))
theorem Fak(w:List Int->Int)(l:List (List Int×Int)):Eqm (sumW w (Se l)) (sumW w l):=by
 suffices ∀ (l:List (List Int×Int)) (m:MP),Eqm (sumW w (l.foldl (λm q=>gc q m) m)) (sumW w m+sumW w l) by
  have:=this l [];simpa [Se,sumW] using this
 intro l
 induction l with
 |nil=>intro m;exact Eqm.of (by simp[sumW])
 |cons q r ih=>
  intro m;rw[List.foldl_cons];simp only[sumW];exact (ih (gc q m)).trans (((Kaj w q m).add (Eqm.refl _)).trans (Eqm.of (by omega)))
theorem Gak{n:Nat}{l:List (List Int×Int)}(hk:yb n l)(hr:∀q∈l,InR q.2)(w:List Int->Int):Eqm (sumW w (mc l)) (sumW w l):=by
 rw[← HM hk λq hq=>mD (hr q hq),Jaj w (Se l)];exact Fak w l
theorem Oai{a:List Item}(h:∀x∈a,InR x.Count)(w:List Int->Int):Eqm (sumW w (chI (gathI a))) (sumW w (chI a)):=by
 rw[Ml]
 exact Gak (Rl a) (λq hq=>by
  obtain⟨x,hx,rfl⟩:=List.mem_map.1 hq;exact h x hx) w
theorem Aah{L:List Row}(h:∀x∈L,InR x.Diff)(t:Time):xd (ab L) t=xd L t:=JY λk=>by
  rw[Nai,Nai,Zah];exact MY (pD L) (Eak h) _
end Go.Proofs.YthfkpijcajdnhaaGreat

namespace Go.Proofs.YthfkpijcajdnhaaGreat
open Go
section
variable {P:Program} {K n:Nat}
variable {T E:Nat} (M:WV P T K E n) {w:World} {r:Nat} {S:va} (hr:w.heap[r]? = some (Ha S)) (hm:Yb n S) {ks:List Int} (hk:ks.length=n)
include M hr hm hk
end
end Go.Proofs.YthfkpijcajdnhaaGreat

namespace Go.Proofs.YthfkpijcajdnhaaGreat
open Go Tg
theorem Kak(L:List Row)(t:Time):(Va L t).map Jb=Va (L.map Nh) t:=by
 unfold Va;rw[List.filter_map,List.map_map,List.map_map];rfl
end Go.Proofs.YthfkpijcajdnhaaGreat

namespace Go.Proofs.YthfkpijcajdnhaaGreat
open Go
theorem Naj(xs:List Row)(t:Time)(hl:xs.length<10000000):Mah xs t/\Lah xs t=if Ib xs=true/\Ea t=true then xd xs t else []:=by
 obtain⟨r1,r2⟩:=kN xs (by omega);obtain⟨q1,q2⟩:=mN xs t (by omega);simp only[Mah,Lah,Yai,Xai,cai,Tr.val,Tr.ob,fa,r2,fN,q2];cases h1:Ib xs<;>cases h2:Ea t<;>simp[r1,gN,q1,ocR]
theorem Lak(xs:List Row):Sb Ad none (ab xs)=true:=nN _ none (Cak xs) (λx hx=>(Iaj.1 hx).2) λz hz=>by cases hz
theorem Mak(xs:List Row):Qa (ab xs)=Ib (ab xs):=by
 unfold Qa;rw[Lak];rfl
end Go.Proofs.YthfkpijcajdnhaaGreat

namespace Go.Proofs.YthfkpijcajdnhaaGreat
open Go Tg
theorem Rak(s:List Item):(chI s).map mkI=s:=by
 unfold chI;rw[List.map_map];have:(mkI ∘ λx:Item=>(kI x,x.Count))=id:=by funext x;cases x;rfl
 rw[this,List.map_id]
theorem Canon.gath{s:List Item}(h:Canon s):gathI s=s:=by
 have h1:mc (chI s)=chI s:=T1 (n:=3) (List.pairwise_map.2 h.1) (Rl s) λp hp=>by
  obtain⟨x,hx,rfl⟩:=List.mem_map.1 hp;exact h.2 x hx
 unfold gathI;rw[h1,Rak]
def aai(h:Int)(x:Item):List Item:=if (cc h x.Key x.Val).2.2=true then [⟨(cc h x.Key x.Val).1,(cc h x.Key x.Val).2.1,x.Count⟩] else []
def oah(h:Int)(s:List Item):List Item:=s.flatMap (aai h)
theorem Paj(h:Int)(t:Time):∀a:List Row,Va (xc h a) t=oah h (Va a t)
 |[]=>rfl
 |x::l=>by
  have ih:=Paj h t l;unfold xc oah at *;rw[List.flatMap_cons,lD,ih,X1,List.flatMap_append]
  congr 1
  unfold Yf;by_cases hk:(cc h x.Key x.Val).2.2=true
  ·rw[if_pos hk,X1,Y1,List.append_nil];by_cases hb:Bf x.At t=true
   ·rw[if_pos hb,if_pos hb];simp[aai,rIt,hk]
   ·rw[if_neg hb,if_neg hb];rfl
  ·rw[if_neg hk,Y1];by_cases hb:Bf x.At t=true
   ·rw[if_pos hb];simp[aai,rIt,hk]
   ·rw[if_neg hb];rfl
def wE(h:Int)(k:List Int):List Int->Int
 |[a,b,_]=>if (cc h a b).2.2=true/\[(cc h a b).1,(cc h a b).2.1,0]=k then 1 else 0
 |_=>0
theorem Rai(h:Int)(k:List Int):∀s:List Item,sumT (chI (oah h s)) k=sumW (wE h k) (chI s)
 |[]=>rfl
 |x::s=>by
  have ih:=Rai h k s;show _=wE h k (kI x)*x.Count+sumW (wE h k) (chI s);unfold oah at *;rw[List.flatMap_cons,NM,ih]
  congr 1
  show _=(if (cc h x.Key x.Val).2.2=true/\[(cc h x.Key x.Val).1,(cc h x.Key x.Val).2.1,0]=k then 1 else 0)*x.Count;unfold aai;by_cases hk:(cc h x.Key x.Val).2.2=true
  ·rw[if_pos hk];show (if [(cc h x.Key x.Val).1,(cc h x.Key x.Val).2.1,0]=k then x.Count else 0)+0=_;by_cases e : [(cc h x.Key x.Val).1,(cc h x.Key x.Val).2.1,0]=k
   .rw[if_pos e,if_pos ⟨hk,e⟩];omega
   .rw[if_neg e,if_neg λhh=>e hh.2];omega
  ·rw[if_neg hk,if_neg λhh=>hk hh.1];simp[chI,sumT]
theorem Sak(h:Int){s:List Item}(hs:∀x∈s,InR x.Count):gathI (oah h (gathI s))=gathI (oah h s):=JY λk=>by rw[Rai,Rai];exact Oai hs _
theorem pah{xs:List Row}(h:∀x∈xs,InR x.Diff)(t:Time):∀x∈Va xs t,InR x.Count:=λx hx=>by
 obtain⟨r,hr,rfl⟩:=List.mem_map.1 hx;exact h r ((List.mem_filter.1 hr).1)
theorem Tak{h:Int}{a:List Row}(ha:∀x∈a,InR x.Diff)(t:Time):xd (ab (xc h a)) t=gathI (oah h (xd a t)):=by
 rw[Aah (GD ha)];unfold xd;rw[Paj,Sak h (pah ha t)]
theorem Uak{a b:List Row}(ha:∀x∈a,InR x.Diff)(hb:∀x∈b,InR x.Diff)(t:Time):xd (ab (a++b)) t=gathI (xd a t++xd b t):=by
 rw[Aah λx hx=>(List.mem_append.1 hx).elim (ha x) (hb x)];refine JY λk=>?_;rw[lD,NM,NM];exact (QY (pah ha t) k).symm.add (QY (pah hb t) k).symm
theorem Vak{a:List Row}(ha:∀x∈a,InR x.Diff)(t:Time)(hm:∀x∈xd a t,x.Count≠-9223372036854775808):xd (ab (ib a)) t=(xd a t).map Jb:=by
 rw[Aah (dO a)];have h1:=((V1 (Va a t)).neg hm).gath;rw[← show xd a t=gathI (Va a t) from rfl]at h1;rw[← h1];refine JY λk=>?_;unfold ib;rw[← Kak];exact (xD _ k).trans (((QY (pah ha t) k).neg.symm).trans (xD _ k).symm)
def Cah(x y:Item):List Item:=if x.Key=y.Key then [⟨x.Key,Vl x.Val y.Val,x.Count*y.Count⟩] else []
def qah(s u:List Item):List Item:=s.flatMap λx=>u.flatMap (Cah x)
theorem Sai(s t u:Time):Bf (bb s t) u=(Bf s u&&Bf t u):=by
 unfold Bf bb;simp only[si];rw[Bool.eq_iff_iff];simp only[Bool.and_eq_true,decide_eq_true_eq];split<;>split<;>omega
theorem Qaj(t:Time)(x:Row):∀b:List Row,Va (b.flatMap (ic x)) t=if Bf x.At t=true then (Va b t).flatMap (Cah (rIt x)) else []
 |[]=>by split<;>rfl
 |y::b=>by
  have ih:=Qaj t x b;rw[List.flatMap_cons,lD,ih,X1,List.flatMap_append];by_cases hx:Bf x.At t=true
  ·rw[if_pos hx,if_pos hx]
   congr 1
   unfold ic;by_cases hk:x.Key=y.Key
   ·rw[if_pos hk,X1,Y1,List.append_nil,show (Row.At ⟨x.Key,Vl x.Val y.Val,bb x.At y.At,x.Diff*y.Diff⟩)=bb x.At y.At from rfl,Sai,hx,Bool.true_and];by_cases hy:Bf y.At t=true
    ·rw[if_pos hy,if_pos hy];simp[Cah,rIt,hk]
    ·rw[if_neg hy,if_neg hy];rfl
   ·rw[if_neg hk,Y1];by_cases hy:Bf y.At t=true
    ·rw[if_pos hy];simp[Cah,rIt,hk]
    ·rw[if_neg hy];rfl
  ·rw[if_neg hx,if_neg hx,List.append_nil];unfold ic;by_cases hk:x.Key=y.Key
   ·rw[if_pos hk,X1,Y1,List.append_nil,show (Row.At ⟨x.Key,Vl x.Val y.Val,bb x.At y.At,x.Diff*y.Diff⟩)=bb x.At y.At from rfl,Sai];rw[if_neg (by simp[hx])]
   .rw[if_neg hk,Y1]
theorem Raj(t:Time)(b:List Row):∀a:List Row,Va (dc a b) t=qah (Va a t) (Va b t)
 |[]=>rfl
 |x::a=>by
  have ih:=Raj t b a;unfold dc qah at *;rw[List.flatMap_cons,lD,ih,X1,List.flatMap_append,Qaj]
  congr 1
  by_cases hx:Bf x.At t=true
  ·rw[if_pos hx,if_pos hx];simp
  ·rw[if_neg hx,if_neg hx];rfl
def wJ2(a b:Int)(k:List Int):List Int->Int
 |[c,d,_]=>if a=c/\[a,Vl b d,0]=k then 1 else 0
 |_=>0
def wJ(u:List Item)(k:List Int):List Int->Int
 |[a,b,_]=>sumW (wJ2 a b k) (chI u)
 |_=>0
theorem Saj(x:Item)(k:List Int):∀u:List Item,sumT (chI (u.flatMap (Cah x))) k=sumW (wJ2 x.Key x.Val k) (chI u)*x.Count
 |[]=>by simp[chI,sumT,sumW]
 |y::u=>by
  have ih:=Saj x k u;rw[List.flatMap_cons,NM,ih];show _=(wJ2 x.Key x.Val k (kI y)*y.Count+sumW (wJ2 x.Key x.Val k) (chI u))*x.Count;rw[Int.add_mul]
  congr 1
  show _=(if x.Key=y.Key/\[x.Key,Vl x.Val y.Val,0]=k then 1 else 0)*y.Count*x.Count;unfold Cah;by_cases hk:x.Key=y.Key
  ·rw[if_pos hk];show (if [x.Key,Vl x.Val y.Val,0]=k then x.Count*y.Count else 0)+0=_;by_cases e : [x.Key,Vl x.Val y.Val,0]=k
   .rw[if_pos e,if_pos ⟨hk,e⟩,Int.one_mul,Int.add_zero,Int.mul_comm]
   .rw[if_neg e,if_neg λhh=>e hh.2];simp
  ·rw[if_neg hk,if_neg λhh=>hk hh.1];simp[chI,sumT]
theorem Tai(u:List Item)(k:List Int):∀s:List Item,sumT (chI (qah s u)) k=sumW (wJ u k) (chI s)
 |[]=>rfl
 |x::s=>by
  have ih:=Tai u k s;unfold qah at *;rw[List.flatMap_cons,NM,ih,Saj];rfl
theorem Taj{w w':List Int->Int}(h:∀k,Eqm (w k) (w' k)):∀l,Eqm (sumW w l) (sumW w' l)
 |[]=>Eqm.refl _
 |q::r=>by
  simp only[sumW];have h1:=Eqm.mul q.2 (h q.1);rw[Int.mul_comm,Int.mul_comm q.2]at h1;exact h1.add (Taj h r)
theorem Wak{s u:List Item}(hs:∀x∈s,InR x.Count)(hu:∀x∈u,InR x.Count):gathI (qah (gathI s) (gathI u))=gathI (qah s u):=JY λk=>by
  rw[Tai,Tai];refine (Oai hs _).trans (Taj (λkey=>?_) _)
  match key with
  |[a,b,_]=>exact Oai hu _
  |[]=>exact Eqm.refl _
  |[_]=>exact Eqm.refl _
  |[_,_]=>exact Eqm.refl _
  |_::_::_::_::_=>exact Eqm.refl _
theorem Xak{a b:List Row}(ha:∀x∈a,InR x.Diff)(hb:∀x∈b,InR x.Diff)(hj:∀x∈dc a b,InR x.Diff)(t:Time):xd (ab (dc a b)) t=gathI (qah (xd a t) (xd b t)):=by
 rw[Aah hj];unfold xd;rw[Raj,Wak (pah ha t) (pah hb t)]
end Go.Proofs.YthfkpijcajdnhaaGreat

namespace Go.Proofs.YthfkpijcajdnhaaGreat
open Go Tg
def φK(k:Int):List Int->Bool
 |[a,_,_]=>decide (a=k)
 |_=>false
theorem Uaj(k:Int)(s:List Item):chI (s.filter λx=>decide (x.Key=k))=(chI s).filter λq=>φK k q.1:=by
 unfold chI;rw[List.filter_map];rfl
theorem Yak(k:Int){s:List Item}(hs:∀x∈s,InR x.Count):gathI (s.filter λx=>decide (x.Key=k))=(gathI s).filter λx=>decide (x.Key=k):=by
 rw[← ((V1 s).filter _).gath];refine JY λkey=>?_;rw[Uaj,Uaj,Lai,Lai];split
 .exact (QY hs key).symm
 .exact Eqm.refl _
theorem Vaj(k:Int)(t:Time):∀a:List Row,Va (na k a) t=(Va a t).filter λx=>decide (x.Key=k)
 |[]=>rfl
 |x::a=>by
  have ih:=Vaj k t a;rw[X1,List.filter_append,← ih];unfold na;by_cases hk:x.Key=k
  ·rw[List.filter_cons_of_pos (by simpa using hk),X1]
   congr 1
   by_cases hb:Bf x.At t=true
   .rw[if_pos hb];simp[rIt,hk]
   .rw[if_neg hb];rfl
  ·rw[List.filter_cons_of_neg (by simpa using hk)];by_cases hb:Bf x.At t=true
   .rw[if_pos hb];simp[rIt,hk]
   .rw[if_neg hb];rfl
theorem Zak{k:Int}{a:List Row}(ha:∀x∈a,InR x.Diff)(t:Time):xd (na k a) t=(xd a t).filter λx=>decide (x.Key=k):=by
 unfold xd;rw[Vaj,Yak k (pah ha t)]
theorem aal(p:Time->Bool)(i:Int)(n:Nat):(rowP p i n).Pairwise λx y=>Bf y x=false:=by
 unfold rowP;rw[List.pairwise_map];refine (List.Pairwise.sublist List.filter_sublist List.pairwise_lt_range).imp λ{a b} h=>?_;simp[Bf];omega
theorem Waj(p:Time->Bool):∀n,(qc p n).Pairwise λx y=>Bf y x=false
 |0=>.nil
 |n+1=>by
  simp only[qc];rw[List.pairwise_append];refine⟨Waj p n,aal p n 8,λx hx y hy=>?_⟩;have h1:=BA.1 hx;have h2:=uag.1 hy;unfold Bf;rw[h2.2.1];simp;omega
theorem Uai{kind k:Int}{own:List Row}:∀ (ts:List Time) (m:List Row),∃e,ts.foldl (Ue kind k own) m=m++e/\∀x∈e,x.At∈ts
 |[],m=>⟨[],by simp,by simp⟩
 |t::r,m=>by
  obtain⟨e,h1,h2⟩:=Uai r (Ue kind k own m t);refine⟨(Oh kind k own m t).map (rowT t)++e,?_,λx hx=>?_⟩
  ·rw[List.foldl_cons,h1];unfold Ue;rw[List.append_assoc]
  ·rcases List.mem_append.1 hx with hx|hx
   ·obtain⟨y,_,rfl⟩:=List.mem_map.1 hx;simp[rowT]
   .simp[h2 x hx]
theorem bai{l:List Row}{t:Time}(h:∀x∈l,Bf x.At t=false):Va l t=[]:=by
 unfold Va;rw[List.filter_eq_nil_iff.2 λx hx=>by rw[h x hx];simp];rfl
theorem bal(l:List Item)(t:Time):Va (l.map (rowT t)) t=l:=by
 unfold Va
 rw[List.filter_eq_self.2 λx hx=>by
  obtain⟨y,_,rfl⟩:=List.mem_map.1 hx;simp[Bf,rowT],List.map_map]
 have:(rIt ∘ rowT t)=id:=by funext x;cases x;rfl
 rw[this,List.map_id]
theorem Xaj{l:List Row}{s t:Time}(h:∀x∈l,Bf x.At s=Bf x.At t):Va l s=Va l t:=by
 unfold Va;rw[List.filter_congr λx hx=>h x hx]
theorem cal{kind k:Int}{own:List Row}(ho:yc k own){ts:List Time}(hp:ts.Pairwise λx y=>Bf y x=false)(hok:∀t∈ts,Ea t=true){s:Time}(hs:s∈ts)(key:List Int) :
  Eqm (sumT (chI (Va (Ab kind k own ts) s)) key) (sumT (chI (Wa kind k (xd own s))) key):=by
 obtain⟨l1,l2,rfl⟩:=List.append_of_mem hs
 have h1:Ab kind k own (l1++s::l2)=l2.foldl (Ue kind k own) (Ue kind k own (Ab kind k own l1) s):=by
  unfold Ab;rw[List.foldl_append,List.foldl_cons]
 obtain⟨e,h2,h3⟩:=Uai (kind:=kind) (k:=k) (own:=own) l2 (Ue kind k own (Ab kind k own l1) s);have hM:=(Yl (kind:=kind) ho l1 λt ht=>hok t (by simp[ht])).1;generalize Ab kind k own l1=M at *
 have h9:Va e s=[]:=bai λx hx=>by
  have:=(List.pairwise_append.1 hp).2.1;exact (List.pairwise_cons.1 this).1 x.At (h3 x hx)
 rw[h1,h2];unfold Ue;rw[lD,lD,bal,h9,List.append_nil,NM]
 ·unfold Oh;have hd:=fZ (kind:=kind) (t:=s) ho hM;refine ((Eqm.refl _).add (QY (λx hx=>(hd x hx).2.2.2) key)).trans ?_;rw[NM];have h4:=xD (xd M s) key;have h5:=QY (λx hx=>(hM.items s x hx).2.2.2) key;have h5:Eqm (sumT (chI (xd M s)) key) (sumT (chI (Va M s)) key):=h5;exact ((Eqm.refl _).add ((Eqm.refl _).add (h4.trans h5.neg))).trans (Eqm.of (by omega))
theorem Vai(f:Row->Int):∀l:List Row,l≠[]->∃x∈l,∀y∈l,f y<=f x
 |[],h=>absurd rfl h
 |[x],_=>⟨x,by simp,by simp⟩
 |x::y::r,_=>by
  obtain⟨z,h1,h2⟩:=Vai f (y::r) (by simp);by_cases h:f z<=f x
  ·exact⟨x,by simp,λw hw=>by
    rcases List.mem_cons.1 hw with rfl|hw
    .exact Int.le_refl _
    .exact Int.le_trans (h2 w hw) h⟩
  ·exact⟨z,by simp only[List.mem_cons]at h1⊢;exact .inr h1,λw hw=>by
    rcases List.mem_cons.1 hw with rfl|hw
    .omega
    .exact h2 w hw⟩
theorem dal{kind k:Int}{a:List Row}(hr:Ib a=true){t:Time}(key:List Int) :
  Eqm (sumT (chI (Va (Ab kind k (na k a) (Xa a k)) t)) key) (sumT (chI (Wa kind k (xd (na k a) t))) key):=by
 have hrow:=(Bb hr).2;have ho:=Ph (k:=k) hrow;have hts:Xa a k=qc (jT a k) 8:=by unfold Xa;rw[if_pos hr]
 have hok:=(Zl (a:=a) (k:=k)).1;rw[hts]at hok⊢;obtain⟨e,he1,he2⟩:=Uai (kind:=kind) (k:=k) (own:=na k a) (qc (jT a k) 8) [];have hmade:Ab kind k (na k a) (qc (jT a k) 8)=e:=by unfold Ab;rw[he1];rfl
 have hJ:∀j∈qc (jT a k) 8,(∃x∈na k a,x.At.A=j.A/\x.At.B<=j.B)/\∃x∈na k a,x.At.B=j.B/\x.At.A<=j.A:=λj hj=>by
  obtain⟨⟨x,m1,k1,a1,b1⟩,y,n1,l1,c1,d1⟩:=Vp.1 (BA.1 hj).1;exact⟨⟨x,List.mem_filter.2 ⟨m1,by simpa using k1⟩,a1,b1⟩,y,List.mem_filter.2 ⟨n1,by simpa using l1⟩,c1,d1⟩
 by_cases hn:(na k a).filter (λx=>Bf x.At t)=[]
 ·have h0:∀x∈na k a,Bf x.At t=false:=λx hx=>by
   have:=List.filter_eq_nil_iff.1 hn x hx;simpa using this
  have h1:xd (na k a) t=[]:=by unfold xd;rw[bai h0];rfl
  rw[h1,Z1,hmade,bai λx hx=>?_]
  .exact Eqm.refl _
  ·obtain⟨⟨y,m1,a1,b1⟩,_⟩:=hJ _ (he2 x hx);have h2:=h0 y m1;cases hb:Bf x.At t with
   |false=>rfl
   |true=>
    simp only[Bf,Bool.and_eq_true,decide_eq_true_eq]at hb;have:Bf y.At t=true:=by simp only[Bf,Bool.and_eq_true,decide_eq_true_eq];omega
    rw[h2]at this;cases this
 ·obtain⟨x,hx1,hx2⟩:=Vai (λr=>r.At.A) _ hn;obtain⟨y,hy1,hy2⟩:=Vai (λr=>r.At.B) _ hn;obtain⟨mx1,bx⟩:=List.mem_filter.1 hx1;obtain⟨my1,bY⟩:=List.mem_filter.1 hy1;have mx2:=List.mem_filter.1 mx1;have my2:=List.mem_filter.1 my1;simp only[Bf,Bool.and_eq_true,decide_eq_true_eq]at bx bY;have ox:=Og (hrow x mx2.1);have oy:=Og (hrow y my2.1);simp only[Ea,decide_eq_true_eq]at ox oy;have exy:y.At.A<=x.At.A:=hx2 y hy1;have eyx:x.At.B<=y.At.B:=hy2 x hx1
  have hs:(⟨x.At.A,y.At.B⟩ : Time)∈qc (jT a k) 8:=by
   refine BA.2 ⟨Vp.2 ⟨⟨x,mx2.1,by simpa using mx2.2,rfl,eyx⟩,y,my2.1,by simpa using my2.2,rfl,exy⟩,?_⟩;show 0<=x.At.A/\x.At.A<8/\0<=y.At.B/\y.At.B<8;omega
  have hrows:∀r∈na k a,Bf r.At t=Bf r.At ⟨x.At.A,y.At.B⟩:=λr hr=>by
   rw[Bool.eq_iff_iff];constructor
   ·intro h;have hm:r∈(na k a).filter (λx=>Bf x.At t):=List.mem_filter.2 ⟨hr,h⟩;have h1:r.At.A<=x.At.A:=hx2 r hm;have h2:r.At.B<=y.At.B:=hy2 r hm;simp only[Bf,Bool.and_eq_true,decide_eq_true_eq];exact⟨h1,h2⟩
   ·intro h;simp only[Bf,Bool.and_eq_true,decide_eq_true_eq]at h⊢;omega
  have h1:xd (na k a) t=xd (na k a) ⟨x.At.A,y.At.B⟩:=by unfold xd;rw[Xaj hrows]
  have h2:Va e t=Va e ⟨x.At.A,y.At.B⟩:=Xaj λz hz=>by
   obtain⟨⟨r1,m1,a1,b1⟩,r2,m2,a2,b2⟩:=hJ _ (he2 z hz);have q1:=hrows r1 m1;have q2:=hrows r2 m2;rw[Bool.eq_iff_iff]at q1 q2⊢;simp only[Bf,Bool.and_eq_true,decide_eq_true_eq]at q1 q2⊢;constructor
   ·intro h;have c1:=q1.1 (by omega);have c2:=q2.1 (by omega);omega
   ·intro h;omega
  have h3:=cal (kind:=kind) ho (Waj (jT a k) 8) hok hs key;rw[hmade]at h3⊢;rw[h1,h2];exact h3
theorem eal{k:Int}{s:List Item}(hs:Canon s)(hk:∀x∈s,x.Key=k):Canon (Ec k s):=by
 refine⟨?_,λx hx=>?_⟩
 ·unfold Ec;rw[List.pairwise_map];refine List.Pairwise.imp_of_mem (λ{x y} hx hy h=>?_) (hs.1.sublist List.filter_sublist);have h1:=hk x (List.mem_filter.1 hx).1;have h2:=hk y (List.mem_filter.1 hy).1;unfold kI at h⊢;rw[h1,h2]at h;exact h
 ·obtain⟨y,_,rfl⟩:=List.mem_map.1 hx;exact⟨by simp,by unfold InR;simp⟩
theorem fal{kind k:Int}{s:List Item}(hs:Canon s)(hk:∀x∈s,x.Key=k):Canon (Wa kind k s):=by
 have h:=eal hs hk;unfold Wa;split
 ·split
  .exact⟨.nil,by simp⟩
  .exact⟨by simp,by simp[InR]⟩
 ·split
  .exact h
  .exact⟨h.1.sublist (List.take_sublist _ _),λx hx=>h.2 x (List.mem_of_mem_take hx)⟩
theorem gal{kind k:Int}{s:List Item}{x:Item}(hx:x∈Wa kind k s):x.Key=k:=by
 have honce:∀x∈Ec k s,x.Key=k:=λx hx=>by
  obtain⟨y,hy,rfl⟩:=List.mem_map.1 hx;rfl
 unfold Wa at hx;split at hx
 ·split at hx
  .cases hx
  ·simp at hx;subst hx;rfl
 ·split at hx
  .exact honce x hx
  .exact honce x (List.mem_of_mem_take hx)
theorem ial{kind:Int}{s:List Item}(hs:Canon s):Canon (fg kind s):=by
 have h:∀k:Nat,Canon (Wa kind k (s.filter λx=>decide (x.Key=k))):=λk=>fal (hs.filter _) λx hx=>by simpa using (List.mem_filter.1 hx).2
 have hk:∀ (k:Nat) x,x∈Wa kind k (s.filter λx=>decide (x.Key=k))->x.Key=k:=λk x hx=>gal hx;unfold fg;rw[Qh,List.append_nil];refine (h 0).append ((h 1).append ((h 2).append (h 3) λx hx y hy=>?_) λx hx y hy=>?_) λx hx y hy=>?_
 .rw[hk 2 x hx,hk 3 y hy];decide
 ·rw[hk 1 x hx];rcases List.mem_append.1 hy with hy|hy
  .rw[hk 2 y hy];decide
  .rw[hk 3 y hy];decide
 ·rw[hk 0 x hx];rcases List.mem_append.1 hy with hy|hy
  .rw[hk 1 y hy];decide
  ·rcases List.mem_append.1 hy with hy|hy
   .rw[hk 2 y hy];decide
   .rw[hk 3 y hy];decide
theorem jal(f:Nat->List Row)(t:Time):Va ((List.range 4).flatMap f) t=(List.range 4).flatMap λk=>Va (f k) t:=by
 show Va (f 0++(f 1++(f 2++(f 3++[])))) t=Va (f 0) t++(Va (f 1) t++(Va (f 2) t++(Va (f 3) t++[])));rw[lD,lD,lD,lD];rfl
theorem kal{kind:Int}{a:List Row}(hr:Ib a=true)(t:Time):xd (ab (Ce kind a)) t=fg kind (xd a t):=by
 have hrow:=(Bb hr).2;have hin:∀x∈a,InR x.Diff:=λx hx=>Zf (hrow x hx);rw[Aah λx hx=>((AD (kind:=kind) hrow).1 x hx).1];rw[← (ial (kind:=kind) (s:=xd a t) (V1 _)).gath];refine JY λkey=>?_
 have h:∀k:Nat,Eqm (sumT (chI (Va (Ab kind k (na k a) (Xa a k)) t)) key) (sumT (chI (Wa kind k ((xd a t).filter λx=>decide (x.Key=k)))) key):=λk=>by
  rw[← Zak hin];exact dal hr key
 unfold Ce fg;rw[jal,Qh,Qh];simp only[NM];exact (h 0).add ((h 1).add ((h 2).add ((h 3).add (Eqm.refl _))))
end Go.Proofs.YthfkpijcajdnhaaGreat

namespace Go.Proofs.YthfkpijcajdnhaaGreat
open Go Tg
section
variable {a:List Row} (hr:Ib a=true) {kind:Int} (hkind:1<=kind/\kind<=3)
include hr hkind
end
end Go.Proofs.YthfkpijcajdnhaaGreat

namespace Go.Proofs.YthfkpijcajdnhaaGreat
open Go Tg
def opS(kind num:Int)(ks ins:List (List Item)):List Item:=if kind=1 then ins.getD num.toNat [] else if kind=2 then gathI (oah num (ks.getD 0 [])) else if kind=3 then gathI (ks.getD 0 []++ks.getD 1 []) else
 if kind=4 then (ks.getD 0 []).map Jb else if kind=5 then gathI (qah (ks.getD 0 []) (ks.getD 1 [])) else fg num (ks.getD 0 [])
def Pai:Nat->List (List Item)->Plan->List Item
 |0,_,_=>[]
 |d+1,ins,p=>opS p.Kind p.Num (p.Kids.map (Pai d ins)) ins
theorem Nak{a:List Row}(h:Ib a=true)(t:Time):∀x∈xd a t,-39999600<=x.Count/\x.Count<=39999600:=by
 obtain⟨h1,h2⟩:=Bb h
 have hs:uD 99999 (Va a t):=λx hx=>by
  obtain⟨r,hr,rfl⟩:=List.mem_map.1 hx;have:=h2 r (List.mem_filter.1 hr).1;simp only[vb,decide_eq_true_eq]at this;exact⟨this.2.2.2.2.2.1,this.2.2.2.2.2.2⟩
 have hl:(Va a t).length<=400:=by
  unfold Va;rw[List.length_map];exact Nat.le_trans (List.length_filter_le _ _) h1
 have h3:=Iak hs (by omega);intro x hx;have:=h3 x hx;omega
theorem Oak{P:List Row->Prop}(h0:P []){ks:List (List Row)}(h:∀x∈ks,P x)(n:Nat):P (ks.getD n []):=by
 rw[List.getD_eq_getElem?_getD];cases hn:ks[n]? with
 |none=>exact h0
 |some x=>exact h x (List.mem_of_getElem? hn)
theorem Pak(ks:List (List Row))(t:Time)(n:Nat):(ks.map λx=>xd x t).getD n []=xd (ks.getD n []) t:=by
 rw[List.getD_eq_getElem?_getD,List.getD_eq_getElem?_getD,List.getElem?_map];cases ks[n]?<;>rfl
theorem Qak{kind num:Int}{ks ins:List (List Row)}(hk:∀x∈ks,Qa x=true)(t:Time):xd (opR kind num ks ins) t=opS kind num (ks.map λx=>xd x t) (ins.map λx=>xd x t):=by
 have hr:∀n,Ib (ks.getD n [])=true:=Oak (P:=λx=>Ib x=true) rfl λx hx=>bg (hk x hx);have hm:=λn=>(Bb (hr n)).2;have hi:∀n,∀x∈ks.getD n [],InR x.Diff:=λn x hx=>Zf (hm n x hx);unfold opR opS;simp only[Pak];split
 .rfl
 ·split
  .exact Tak (hi 0) t
  ·split
   .exact Uak (hi 0) (hi 1) t
   ·split
    .exact Vak (hi 0) t λx hx=>by have:=Nak (hr 0) t x hx;omega
    ·split
     .exact Xak (hi 0) (hi 1) (λx hx=>(Dr (hm 0) (hm 1) x hx).1) t
     .exact kal (hr 0) t
theorem Oaj{f:Plan->Option (List Row)}{g:Plan->List Item}{t:Time}:∀ {l:List Plan} {ks:List (List Row)},(∀p∈l,∀x,f p=some x->xd x t=g p)->Nb f l=some ks->(ks.map λx=>xd x t)=l.map g
 |[],ks,_,h=>by simp[Nb]at h;subst h;rfl
 |p::l,ks,hg,h=>by
  simp only[Nb]at h;split at h
  .cases h
  ·rename_i y hy;split at h
   .cases h
   ·rename_i zs hz;cases h;simp only[List.map_cons];rw[hg p (by simp) y hy,Oaj (λq hq=>hg q (by simp[hq])) hz]
theorem Qai{ins:List (List Row)}(t:Time):∀ (d:Nat) (p:Plan) (x:List Row),Ob d ins p=some x->xd x t=Pai d (ins.map λx=>xd x t) p
 |0,p,x,h=>by cases h
 |d+1,p,x,h=>by
  simp only[Ob]at h;split at h
  .cases h
  ·rename_i ks hks;split at h
   ·cases h
    have hk:∀x∈ks,Qa x=true:=λx hx=>by
     obtain⟨q,_,hq⟩:=vD hks x hx;exact wD hq
    rw[Qak hk t,Oaj (g:=Pai d (ins.map λx=>xd x t)) (λq _ y hy=>Qai t d q y hy) hks];rfl
   .cases h
end Go.Proofs.YthfkpijcajdnhaaGreat

namespace Go.Proofs.YthfkpijcajdnhaaGreat
open Go Tg
theorem lal{x y:Item}(h1:x.Key=y.Key)(h2:x.Val=y.Val)(h3:x.Count=y.Count):x=y:=by
 obtain⟨a,b,c⟩:=x;obtain⟨a',b',c'⟩:=y;simp at h1 h2 h3;subst h1 h2 h3;rfl
theorem Yaj(x y:Item):(cmp .eql x.Key y.Key&&(cmp .eql x.Val y.Val&&(cmp .eql x.Count y.Count&&true)))=true↔x=y:=by
 rw[Db,Db,Db];simp only[Bool.and_eq_true,decide_eq_true_eq,and_true];constructor
 .rintro⟨h1,h2,h3⟩;exact lal h1 h2 h3
 .rintro rfl;exact⟨rfl,rfl,rfl⟩
theorem mal(a b:List Item)(hl:a.length<1000000000):Hah a b/\(Gah a b=true↔a=b):=by
 by_cases hlen:a.length=b.length
 ·have hz:(a.zip b).length=a.length:=by rw[List.length_zip];omega
  have key:∃q,ia (λs=>ca ((λ(s:Int)=>rah a b s) s)) (λs=>Oah a b s) 0 q/\((q=.x ()/\a=b)\/(q=.r false/\a≠b)):=by
   refine ia.list (a.zip b) (λi (_:Unit)=>(i:Int)) (λl _=>a.take l.length=b.take l.length) (b0:=()) rfl rfl ?_ ?_
   ·rintro l ⟨u,v⟩ r ⟨⟩ hx hI;have hll:l.length<a.length:=by rw[← hz,hx];simp
    have hg:(a.zip b)[l.length]? = some (u,v):=by rw[hx];simp
    rw[List.getElem?_zip_eq_some]at hg
    have hu:rd .item a (l.length:Int)=u:=by
     show a.getD (Int.toNat l.length) _=u;rw[Int.toNat_natCast,List.getD_eq_getElem?_getD,hg.1];rfl
    have hv:rd .item b (l.length:Int)=v:=by
     show b.getD (Int.toNat l.length) _=v;rw[Int.toNat_natCast,List.getD_eq_getElem?_getD,hg.2];rfl
    have hla:aa .item a=(a.length:Int):=rfl;have hlb:aa .item b=(b.length:Int):=rfl;have hlss:cmp .lss (l.length:Int) (aa .item a)=true:=by rw[fc,hla];simp;omega
    have hi1:inb (l.length:Int) (aa .item a):=⟨by omega,by omega⟩;have hi2:inb (l.length:Int) (aa .item b):=⟨by omega,by omega⟩;refine⟨by simp[Oah,hlss,hi1,hi2,Dah,Tr.ob,fa],?_⟩;show (∃b',ca (rah a b (l.length:Int))=_/\_)\/∃q,ca (rah a b (l.length:Int))=_/\_;simp only[rah,hlss,hu,hv,Ua (l:=l) (by omega),Dah,Tr.val];by_cases he:u=v
    ·left;subst he;rw[(Yaj u u).2 rfl];refine⟨(),rfl,?_⟩;rw[List.length_append,List.length_singleton,List.take_add_one,List.take_add_one,hI,hg.1,hg.2]
    ·right
     have hne:(cmp .eql u.Key v.Key&&(cmp .eql u.Val v.Val&&(cmp .eql u.Count v.Count&&true)))=false:=by
      rw[← Bool.not_eq_true,Yaj];exact he
     rw[hne];refine⟨.r false,rfl,.inr ⟨rfl,λhab=>he ?_⟩⟩;have:=hg.1;rw[hab,hg.2]at this;exact (Option.some.inj this).symm
   ·rintro⟨⟩ hI;have hend:cmp .lss ((a.zip b).length:Int) (aa .item a)=false:=by rw[fc,hz];simp[aa]
    rw[hz,List.take_length,hlen,List.take_length]at hI;simp only[Oah,rah,hend,Dah,Tr.val,Tr.ob,fa];exact⟨by simp,_,rfl,.inl ⟨rfl,hI⟩⟩
  obtain⟨q,h1,h2⟩:=key;have b2:dak a b:=h1.t
  have hn:cmp .neq (aa .item a) (aa .item b)=false:=by
   show cmp .neq (a.length:Int) (b.length:Int)=false;rw[Ae,hlen];simp
  rcases h2 with⟨rfl,h2⟩|⟨rfl,h2⟩
  ·have a2:caj a b=.x ():=h1.v;simp only[Hah,Gah,Sah,Rah,eaj,daj,hn,a2,ocR,Fah,Eah,Qah,Pah,lpS,Tr.val,Tr.ob];exact⟨by simp[b2],λ_=>h2,λ_=>trivial⟩
  ·have a2:caj a b=.r false:=h1.v;simp only[Hah,Gah,Sah,Rah,eaj,daj,hn,a2,ocR,Fah,Eah,Qah,Pah,lpS,Tr.val,Tr.ob];exact⟨by simp[b2],(λh=>by cases h),λh=>absurd h h2⟩
 ·have hn:cmp .neq (aa .item a) (aa .item b)=true:=by
   show cmp .neq (a.length:Int) (b.length:Int)=true;rw[Ae];simp;omega
  simp only[Hah,Gah,Sah,Rah,hn,ocR,Fah,Eah,Tr.val,Tr.ob];exact⟨by simp,(λh=>by cases h),λh=>absurd (by rw[h]) hlen⟩
def atT(t:Time)(a:List Row):Prop:=∀x∈a,x.At=t
theorem atT.gath{t:Time}{a:List Row}(h:atT t a):atT t (ab a):=λx hx=>by
 obtain⟨y,hy,e⟩:=Dak hx;have e : [y.Key,y.Val,y.At.A,y.At.B]=[x.Key,x.Val,x.At.A,x.At.B]:=e;have hy:=h y hy;simp only[List.cons.injEq,and_true]at e;rcases hx:x.At with⟨A,B⟩;rw[hx,hy]at e;rw[← hy,hy];simp only at e;rw[← e.2.2.1,← e.2.2.2]
theorem nal{a:List Row}(h:Ib a=true)(t:Time):(xd a t).length<=400:=by
 obtain⟨h1,h2⟩:=Bb h;have hs:∀x∈Va a t,InR x.Count:=pah (λx hx=>Zf (h2 x hx)) t
 have hl:(Va a t).length<=400:=by
  unfold Va;rw[List.length_map];exact Nat.le_trans (List.length_filter_le _ _) h1
 exact Nat.le_trans (Jak hs) hl
end Go.Proofs.YthfkpijcajdnhaaGreat

namespace Go.Proofs.YthfkpijcajdnhaaGreat
open Go Tg
theorem Zaj(n:Nat):allT (n+1)=allT n++(List.range 8).map λb:Nat=>(⟨(n:Int),(b:Int)⟩ : Time):=by
 unfold allT;rw[List.range_succ (n:=n),List.flatMap_append];simp
theorem Wai:∀n,(allT n).length=8*n
 |0=>rfl
 |n+1=>by rw[Zaj,List.length_append,Wai n];simp;omega
theorem oal{t:Time}(h:t∈allT 8):Ea t=true:=by
 obtain⟨a,ha,h⟩:=List.mem_flatMap.1 h;obtain⟨b,hb,rfl⟩:=List.mem_map.1 h;have ha:=List.mem_range.1 ha;have hb:=List.mem_range.1 hb;simp only[Ea,decide_eq_true_eq];omega
theorem pal:xai/\wai=allT 8:=by
 have k4:∀ (m0:List Time) (n:Nat),m0.length<=64->ia (λs:List Time×Int=>ca (wah m0 (n:Int) s.1 s.2)) (λs=>Iah m0 (n:Int) s.1 s.2) (m0,0) (.x (m0++(List.range 8).map λb:Nat=>(⟨(n:Int),(b:Int)⟩ : Time))):=λm0 n hm=>by
  have h:=LN (step:=λs:List Time×Int=>ca (wah m0 (n:Int) s.1 s.2)) (ob:=λs=>Iah m0 (n:Int) s.1 s.2) (λk=>m0++(List.range k).map λb:Nat=>(⟨(n:Int),(b:Int)⟩ : Time)) (fin:=.x (m0++(List.range 8).map λb:Nat=>(⟨(n:Int),(b:Int)⟩ : Time))) (λi hi=>?_) ?_
  .simpa using h
  ·have e:cmp .leq (i:Int) 7=true:=decide_eq_true (by omega);have hlim:∀w,lim (aa .time (m0++(List.range i).map λb:Nat=>(⟨(n:Int),(b:Int)⟩ : Time))) (aa .time [w]):=λw=>Wb (t:=.time) (show List.length _<1099511627776 by rw[List.length_append,List.length_map,List.length_range];omega);simp only[Iah,wah,Uah,Tr.val,Tr.ob,fa,e];refine⟨by simp[hlim],?_⟩;have ea:ar .add .i64 (i:Int) 1=((i+1:Nat):Int):=by rw[nc (by omega)];omega
   rw[List.range_succ,List.map_append,← List.append_assoc,ea];rfl
  ·have e:cmp .leq ((8:Nat):Int) 7=false:=rfl;simp only[Iah,wah,Uah,Tr.val,Tr.ob,fa,e];exact⟨by simp,rfl⟩
 have k:ia (λs:List Time×Int=>ca (xah s.1 s.2)) (λs=>Jah s.1 s.2) ([],0) (.x (allT 8)):=by
  refine LN (step:=λs:List Time×Int=>ca (xah s.1 s.2)) (ob:=λs=>Jah s.1 s.2) allT (λi hi=>?_) ?_
  ·have e:cmp .leq (i:Int) 7=true:=decide_eq_true (by omega);have k:=k4 (allT i) i (by rw[Wai];omega);have a4:kak (allT i) (i:Int)=.x (allT (i+1)):=by rw[Zaj];exact k.v
   have b4:lak (allT i) (i:Int):=k.t;have ea:ar .add .i64 (i:Int) 1=((i+1:Nat):Int):=by rw[nc (by omega)];omega
   simp only[Jah,xah,Vah,rai,nak,mak,qai,pai,lpS,Tr.val,Tr.ob,e,a4,ea];exact⟨by simp[b4],rfl⟩
  ·have e:cmp .leq ((8:Nat):Int) 7=false:=rfl;simp only[Jah,xah,Vah,Tr.val,Tr.ob,e];exact⟨by simp,rfl⟩
 have a2:oak=.x (allT 8):=k.v;have b2:pak:=k.t;simp only[xai,wai,uaj,taj,vai,uai,rak,qak,tai,sai,lpS,Tr.val,Tr.ob,a2];exact⟨by simp[b2],rfl⟩
end Go.Proofs.YthfkpijcajdnhaaGreat

namespace Go.Proofs.YthfkpijcajdnhaaGreat
open Go Tg
def nah(a:List Row):Prop:=∀x∈a,-24<=x.Diff/\x.Diff<=24
theorem qal{xs:List Row}(hl:xs.length<=8)(hd:∀x∈xs,-3<=x.Diff/\x.Diff<=3):nah (ab xs):=λx hx=>by
 have h1:=Mai hd;have h2:=Faj (a:=xs) (by omega);have h3:=Haj hx;omega
theorem aak{b:List Int}(hb:Be b){p m:Int}(hp:0<=p/\p<=500000)(hm:0<=m/\m<=8):nah (Ic (b,p) m).1:=by
 obtain⟨a1,a2,a3,a4,a5⟩:=VM hb hp (show 0<=m/\m<=100 by omega);simp only[Ic,YE,Dt,Tr.val,ocR];generalize (Ff (b,p) m).1=xs at a4 a5;have hi:∀x∈xs,InR x.Diff:=λx hx=>by have:=a5 x hx;unfold InR;omega
 obtain⟨r1,r2⟩:=bm xs (by omega);obtain⟨s1,s2⟩:=Mh xs (by omega) hi;have hl2:=rD hi;obtain⟨b1,b2⟩:=yr (ab xs) (by omega)
 have hfv:Zh (ab xs)=if Qa (ab xs)=true then ab xs else []:=by
  simp only[Zh,vt,lj,Tr.val,b2];cases Qa (ab xs)<;>rfl
 simp only[Bt,VE,zt,Tr.val,r2,s2,hfv];cases Ib xs with
 |false=>exact λx hx=>by cases hx
 |true=>
  show nah (if Qa (ab xs)=true then ab xs else []);split
  .exact qal (by omega) a5
  .exact λx hx=>by cases hx
theorem bak{b:List Int}(hb:Be b){p:Int}(hp:0<=p/\p<=400000)(hr:Ib (Dd (b,p)).1=true):nah (Dd (b,p)).1:=by
 obtain⟨a1,a2,a3,a4,a5⟩:=VM hb (p:=p) (m:=10) (by omega) (by omega)
 revert hr
 simp only[Dd,jF,Mt,Tr.val];generalize hR:Ff (b,p) 10=R at a2 a3 a4 a5;obtain⟨c1,c2,c3,c4⟩:=bc hb (p:=R.2) (n:=14) (by omega) (by omega);obtain⟨d1,d2,d3,x,d4,d5⟩:=sZ hb (p:=R.2+1) (by omega) (xs:=R.1) (by omega);simp only[c2];cases hc:cmp .eql (ua (b,R.2) 14).1 0 with
 |true=>
  simp only[ocR,d4];intro hr y hy;have hy2:=(Bb hr).2 y hy;simp only[vb,decide_eq_true_eq]at hy2;rcases List.mem_append.1 hy with h|h
  .have:=a5 y h;omega
  .simp at h;subst h;omega
 |false=>
  simp only[ocR];intro _ y hy;have:=a5 y hy;omega
theorem ral{c:List Int}(hc:∀x∈c,0<=x/\x<=255):∀a∈(Wg c).2.1,Ib a=true->nah a:=by
 obtain⟨o1,b,o2,hb⟩:=TY hc;obtain⟨a1,a2,a3⟩:=qZ hb;simp only[Wg,o2];generalize Xe (b,0)=P at a2 a3;obtain⟨x1,x2,x3,x4⟩:=rN hb (p:=P.2) (m:=5) (by omega) (by omega);have x5:=aak hb (p:=P.2) (m:=5) (by omega) (by omega);generalize Ic (b,P.2) 5=X at x2 x3 x4 x5;obtain⟨y1,y2,y3,y4⟩:=rN hb (p:=X.2) (m:=5) (by omega) (by omega);have y5:=aak hb (p:=X.2) (m:=5) (by omega) (by omega);generalize Ic (b,X.2) 5=Y at y2 y3 y4 y5;obtain⟨e1,e2,_,_⟩:=bc hb (p:=Y.2) (n:=30) (by omega) (by omega);obtain⟨f1,f2,_,_⟩:=bc hb (p:=Y.2+1) (n:=30) (by omega) (by omega);have g5:=bak hb (p:=Y.2+1+1) (by omega);simp only[e2,f2];generalize (Dd (b,Y.2+1+1)).1=Z at g5;intro a ha;cases h1:cmp .eql (ua (b,Y.2) 30).1 0<;>cases h2:cmp .eql (ua (b,Y.2+1) 30).1 0<;>simp[h1,h2]at ha<;>(try rcases ha with rfl|rfl)<;>(try subst ha)<;>first|exact λ_=>x5|exact λ_=>y5|exact g5
theorem sal{b:List Int}(hb:Be b){p:Int}(hp:0<=p/\p<=700000):iai (b,p):=by
 obtain⟨a1,a2⟩:=UY hb (p:=p) (by omega);obtain⟨c1,c2,c3,c4⟩:=bc hb (p:=p+3) (n:=16) (by omega) (by omega);obtain⟨d1,d2,d3,d4⟩:=bc hb (p:=p+3+1) (n:=2) (by omega) (by omega);have hin:∀u v:Int,inb (ua (b,p+3+1) 2).1 (aa .int [u,v]):=λu v=>⟨d3,d4⟩
 have k:∀x,iaj b (p+3) x:=λx=>by
  simp only[iaj,eai,Tr.ob,fa,c2];simp[c1,d1,hin]
 simp only[iai,jaj,gai,fai,Tr.ob,fa,a2];simp[a1,k]
theorem tal{c:List Int}(hc:∀x∈c,0<=x/\x<=255):lai c/\∃e t,kai c=(e,t,())/\e.length<=20/\(Ib e=true->nah e):=by
 obtain⟨o1,b,o2,hb⟩:=TY hc;obtain⟨g1,g2,g3,g4⟩:=tZ hb (p:=0) (by omega);have g5:=bak hb (p:=0) (by omega);have h1:=sal hb (p:=(Dd (b,0)).2) (by omega);simp only[lai,kai,maj,laj,jai,Tr.val,Tr.ob,fa,o2,ocR];exact⟨by simp[o1,g1,h1],_,_,rfl,g4.len,g5⟩
def mah(t:Time)(a:List Row):List Row:=a.map λx=>(⟨x.Key,x.Val,bb x.At t,x.Diff⟩ : Row)
theorem ual{s t:Time}(hs:Ea s=true)(ht:Ea t=true):Ea (bb s t)=true:=by
 simp only[Ea,decide_eq_true_eq]at hs ht⊢;unfold bb;simp only[si];constructor
 .split<;>omega
 .refine⟨?_,?_,?_⟩<;>split<;>omega
theorem wal{t:Time}{a:List Row}(h:Ib a=true)(ht:Ea t=true):Ib (mah t a)=true:=by
 obtain⟨h1,h2⟩:=Bb h;simp only[Ib,Bool.and_eq_true,decide_eq_true_eq,List.all_eq_true];refine⟨λx hx=>?_,by unfold mah;rw[List.length_map];exact h1⟩;obtain⟨y,hy,rfl⟩:=List.mem_map.1 hx;have hy:=h2 y hy;have hj:=ual (Og hy) ht;simp only[Ea,decide_eq_true_eq]at hj;simp only[vb,decide_eq_true_eq]at hy⊢;omega
theorem xal{t s:Time}{a:List Row}(h:Bf t s=false):Va (mah t a) s=[]:=bai λx hx=>by
 obtain⟨y,_,rfl⟩:=List.mem_map.1 hx;show Bf (bb y.At t) s=false;rw[Sai,h,Bool.and_false]
theorem yal(a b:List Row)(t:Time):Va (a++b) t=Va a t++Va b t:=by
 unfold Va;rw[List.filter_append,List.map_append]
theorem zal{a e:List Row}{t s:Time}(ha:∀x∈a++mah t e,InR x.Diff)(h:Bf t s=false):xd (ab (a++mah t e)) s=xd a s:=by
 rw[Aah ha s];show gathI (Va (a++mah t e) s)=gathI (Va a s);rw[yal,xal h,List.append_nil]
theorem Aal{a e:List Row}(ha:Ib a=true)(he:Ib e=true)(hal:a.length<=20)(hel:e.length<=20)(hat:nah a)(het:nah e):Qa (ab (a++e))=true:=by
 have hm:∀x∈a++e,vb x=true:=λx hx=>(List.mem_append.1 hx).elim ((Bb ha).2 x) ((Bb he).2 x);have hi:∀x∈a++e,InR x.Diff:=λx hx=>Zf (hm x hx);have hl:=Ql hi;rw[List.length_append]at hl;have h1:=Mai (c:=24) (xs:=a++e) λx hx=>(List.mem_append.1 hx).elim (hat x) (het x);rw[List.length_append]at h1;have h2:=Faj (a:=a++e) (by omega);rw[Mak];simp only[Ib,Bool.and_eq_true,decide_eq_true_eq,List.all_eq_true];refine⟨λx hx=>?_,by omega⟩;have h3:=Haj hx;obtain⟨p,hp,hpx⟩:=List.mem_map.1 hx;obtain⟨q1,q2⟩:=ze.1 hp;obtain⟨q,hq,ek⟩:=Ll (q1▸q2);obtain⟨y,hy,rfl⟩:=List.mem_map.1 hq;obtain⟨k,v⟩:=p;have ek:rK y=k:=ek;subst ek;have hoy:=hm y hy;have e1:x.Key=y.Key:=by rw[← hpx];rfl
 have e2:x.Val=y.Val:=by rw[← hpx];rfl
 have e3:x.At=y.At:=by rw[← hpx];rfl
 simp only[vb,decide_eq_true_eq]at hoy⊢;rw[e1,e2,e3];omega
theorem Bal{a b:List Row}(ha:Ib a=true)(hb:Ib b=true)(hg:Qa (ab (a++b))=true):oai a b/\nai a b=ab (a++b):=by
 obtain⟨l1,m1⟩:=Bb ha;obtain⟨l2,m2⟩:=Bb hb;obtain⟨r1,r2⟩:=kN a (by omega);obtain⟨s1,s2⟩:=kN b (by omega);obtain⟨c1,c2⟩:=EZ (a:=a) (b:=b) (by omega) (by omega);obtain⟨b1,b2⟩:=cm (xs:=a++b) (by rw[List.length_append];omega) (λx hx=>Zf ((List.mem_append.1 hx).elim (m1 x) (m2 x)));rw[if_pos hg]at b2;simp only[oai,nai,paj,oaj,mai,Tr.val,Tr.ob,fa,r2,s2,ha,hb,c2,b2];exact⟨by simp[r1,s1,c1,b1],rfl⟩
theorem Cal(s t:Time):Aai s t/\zai s t=(Ea s&&Ea t&&Bf s t):=by
 simp only[Aai,zai,xaj,waj,yai,Tr.val,Tr.ob,fa,fN,iZ,ocR];refine⟨by simp[gN,iN],?_⟩;cases Ea s<;>cases Ea t<;>rfl
theorem Dal(c e:List Int)(hc:∀x∈c,0<=x/\x<=255)(he:∀x∈e,0<=x/\x<=255):Kai c e/\Jai c e=true:=by
 by_cases hbig:cond (cmp .gtr (aa .byte c) 1048576) true (cmp .gtr (aa .byte e) 1048576)=true
 ·simp only[Kai,Jai,Iai,Hai,hbig,ocR,Yah,Tr.val,Tr.ob,fa];exact⟨by simp,trivial⟩
 ·have hbig:cond (cmp .gtr (aa .byte c) 1048576) true (cmp .gtr (aa .byte e) 1048576)=false:=by simpa using hbig
  obtain⟨p,ins,h⟩:=F1 hc;have htiny:=ral hc;rw[h.d2]at htiny;obtain⟨m1,ex,at',m2,m3,m4⟩:=tal he;simp only[Kai,Jai,Iai,Hai,Yah,Tr.val,Tr.ob,fa,hbig,h.d2,m2,dg,h.s2,h.i2];cases hF:We p ins with
  |none=>
   have l1:=oN [] [] (by simp);have l2:=pN [] (by simp);simp only[zc,l2,ocR];exact⟨by simp[h.d1,h.s1,h.i1,l1,m1],by simp⟩
  |some x=>
   have f:=G1 hF;have hs:=f.short;have l1:=oN x x (by omega);have l2:=pN x (by omega);obtain⟨r1,r2⟩:=bm ex (by omega);have t1:=Qi at';have t2:=am at';simp only[zc,l2,r2,t2];cases hre:Ib ex with
   |false=>simp[h.d1,h.s1,h.i1,l1,m1,r1,ocR]
   |true=>
    cases hta:Ea at' with
    |false=>simp[h.d1,h.s1,h.i1,l1,m1,r1,t1,ocR]
    |true=>
     obtain⟨a,b,rfl⟩ : ∃a b,ins=[a,b]:=by
      match ins,f.len with
      |[a,b],_=>exact⟨a,b,rfl⟩
     have hal:=h.each a (by simp);have hbl:=h.each b (by simp);have hba:=f.every a (by simp);have hbb:=f.every b (by simp);have hra:=bg hba;have hrl:=wal hre hta;have hll:(mah at' ex).length<=20:=by unfold mah;rw[List.length_map];exact m3
     have htl:nah (mah at' ex):=λy hy=>by
      obtain⟨z,hz,rfl⟩:=List.mem_map.1 hy;exact m4 hre z hz
     have hW:=Aal hra hrl hal hll (htiny a (by simp) hra) htl;obtain⟨bb1,bb2⟩:=Bal hra hrl hW;have hWl:=(Bb (bg hW)).1;obtain⟨g1,g2⟩:=Z0 p [ab (a++mah at' ex),b] (by simp) (λy hy=>by simp at hy;rcases hy with rfl|rfl<;>omega);have hinR:∀z∈a++mah at' ex,InR z.Diff:=λz hz=>Zf ((List.mem_append.1 hz).elim ((Bb hra).2 z) ((Bb hrl).2 z))
     have k2:ia (λs:LR×Int=>ca (Kah p.Kind p.Num p.Kids [a,b] ex at' x s.1 s.2)) (λs=>Xah p.Kind p.Num p.Kids [a,b] ex at' x s.1 s.2) ([],0) (.x (mah at' ex)):=by
      refine ia.fold ex (λi b=>(b,(i:Int))) (λl=>mah at' l) rfl (λl y r hx=>?_) ?_
      ·have hlen:ex.length=l.length+(r.length+1):=by rw[hx];simp
       have hrd:rd .row ex (l.length:Int)=y:=by rw[hx];exact Za
       have hin:inb (l.length:Int) (aa .row ex):=by rw[hx];exact Ta (t:=.row)
       have hlss:cmp .lss (l.length:Int) (aa .row ex)=true:=by rw[hx];exact fb
       obtain⟨j1,j2⟩:=BD (Og ((Bb hre).2 y (by rw[hx];simp))) hta;have hlim:∀w,lim (aa .row (mah at' l)) (aa .row [w]):=λw=>Wb (t:=.row) (show (mah at' l).length<1099511627776 by unfold mah;rw[List.length_map];omega);simp only[Xah,Kah,Wah,Tr.val,Tr.ob,fa,hlss,hrd,j2,Ua (l:=l) (by omega)];exact⟨by simp[hin,j1,hlim],by unfold mah;rw[List.map_append];rfl⟩
      ·have hend:cmp .lss (ex.length:Int) (aa .row ex)=false:=gb (t:=.row);simp only[Xah,Kah,Wah,Tr.val,Tr.ob,fa,hend];exact⟨by simp,rfl⟩
     have a2:tak p.Kind p.Num p.Kids [a,b] ex at' x=.x (mah at' ex):=k2.v;have b2:uak p.Kind p.Num p.Kids [a,b] ex at' x:=k2.t;obtain⟨w1,w2⟩:=pal;have rd0:rd .lrow [a,b] 0=a:=rfl;have rd1:rd .lrow [a,b] 1=b:=rfl;have hin0:inb 0 (aa .lrow [a,b]):=by unfold inb aa;simp
     have hin1:inb 1 (aa .lrow [a,b]):=by unfold inb aa;simp
     have hrx:=bg f.batch;simp only[Dai,wak,vak,Cai,Bai,Gai,yak,xak,Fai,Eai,lpS,Tr.val,Tr.ob,a2,rd0,rd1,bb2,g2,w2];cases hG:We p [ab (a++mah at' ex),b] with
     |none=>
      have k4:ia (λs:Int=>ca (uah at' x [] false (allT 8) s)) (λs=>zah at' x [] false (allT 8) s) 0 (.x ()):=by
       have e:cond (cmp .lss 0 (aa .time (allT 8))) false false=false:=by cases cmp .lss 0 (aa .time (allT 8))<;>rfl
       refine .out ?_ ?_
       .simp only[zah,yah,Tr.ob,fa,e];simp
       .simp only[uah,yah,Tr.val,e];rfl
      have a4:Baj at' x [] false (allT 8)=.x ():=k4.v;have b4:Caj at' x [] false (allT 8):=k4.t;simp only[zc,a4];exact⟨by simp[h.d1,h.s1,h.i1,l1,m1,r1,t1,b2,hin0,hin1,bb1,bb2,g1,g2,hG,zc,w1,b4],rfl⟩
     |some y=>
      have f2:=G1 hG;have hys:=f2.short;have hry:=bg f2.batch
      have k4:ia (λs:Int=>ca (uah at' x y true (allT 8) s)) (λs=>zah at' x y true (allT 8) s) 0 (.x ()):=by
       refine ia.fold (allT 8) (λi (_:Unit)=>(i:Int)) (λ_=>()) rfl (λl t r hx=>?_) ?_
       ·have hlen:(allT 8).length=l.length+(r.length+1):=by rw[hx];simp
        rw[Wai]at hlen;have hrd:rd .time (allT 8) (l.length:Int)=t:=by rw[hx];exact Za
        have hin:inb (l.length:Int) (aa .time (allT 8)):=by rw[hx];exact Ta (t:=.time)
        have hlss:cmp .lss (l.length:Int) (aa .time (allT 8))=true:=by rw[hx];exact fb
        have ht:Ea t=true:=oal (by rw[hx];simp);obtain⟨u1,u2⟩:=Cal at' t;rw[hta,ht]at u2;obtain⟨v1,v2⟩:=Naj x t (by omega);rw[if_pos ⟨hrx,ht⟩]at v2;obtain⟨z1,z2⟩:=Naj y t (by omega);rw[if_pos ⟨hry,ht⟩]at z2;have hpl:=nal hrx t;obtain⟨i1,i2⟩:=mal (xd x t) (xd y t) (by omega);simp only[zah,uah,yah,Tr.val,Tr.ob,fa,hlss,hrd,u2,v2,z2,cond_true,Bool.true_and,Ua (l:=l) (by omega)];cases hbt:Bf at' t with
        |true=>exact⟨by simp[hin,u1],rfl⟩
        |false=>
         have hsame:xd x t=xd y t:=by
          rw[Qai t 4 p y f2.flow,Qai t 4 p x f.flow];simp only[List.map_cons,List.map_nil,zal hinR hbt]
         rw[i2.2 hsame];exact⟨by simp[hin,u1,v1,z1,i1],rfl⟩
       ·have hend:cmp .lss ((allT 8).length:Int) (aa .time (allT 8))=false:=gb (t:=.time);simp only[zah,uah,yah,Tr.val,Tr.ob,fa,hend];exact⟨by simp,rfl⟩
      have a4:Baj at' x y true (allT 8)=.x ():=k4.v;have b4:Caj at' x y true (allT 8):=k4.t;simp only[zc,a4];exact⟨by simp[h.d1,h.s1,h.i1,l1,m1,r1,t1,b2,hin0,hin1,bb1,bb2,g1,g2,hG,zc,w1,b4],rfl⟩
end Go.Proofs.YthfkpijcajdnhaaGreat

namespace Go.Proofs.YthfkpijcajdnhaaGreat
open Go
theorem Cam:Con Tryz.prog 20 Zai:=Ial (.cons Taf (.cons DV (.cons dag (.nil xa ya))))
theorem Dam:Con Tryz.prog 21 faj:=Oal (.nil xa ya)
theorem Eam:Con Tryz.prog 51 kaj:=Tal (.cons paf (.cons eh (.nil xa ya)))
theorem Fam:Con Tryz.prog 22 naj:=Zal (.cons maf (.cons vaf (.cons Eam (.nil xa ya))))
theorem Gam:Con Tryz.prog 26 qaj:=eam (.cons Taf (.cons Xaf (.cons yA (.nil xa ya))))
theorem Ham:Con Tryz.prog 27 vaj:=nam (.nil xa ya)
theorem Iam:Con Tryz.prog 28 yaj:=sam (.cons DV (.cons cag (.nil xa ya)))
theorem Jam:Con Tryz.prog 9 zak:=Bam (.cons waf (.cons Fam (.cons Naf (.cons kag (.cons lag (.cons Up (.cons xA (.cons aag (.cons Gam (.cons Ham (.cons Iam (.cons Cam (.cons Dam (.nil xa ya))))))))))))))
end Go.Proofs.YthfkpijcajdnhaaGreat
