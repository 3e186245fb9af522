/-
  Printed by a program: what functions compute, and their contracts (part 2). 'DrawPlanFlow' by hand: a list of lists that is cut and written. 'advanced' by hand: a list of one's own is written while a parameter is read. What is drawn for laws of loops: bounds. Sums over changes, and what is left of them when they are put in order. Sums but for multiples of 2 to the power of 64: what is left of changes put in order depends on these alone. Maps from structs of numbers to 'true': sets; how the machine's operations on them run. What plans make of batches: a model of the operators. Rows, batches, and what they come to at a time: what the program's functions and the reference's compute. What operators make of changes sums up, at each time, to what they make of the sums. What an aggregate makes of changes sums up, at each time, to what it makes of the sums. Batches aggregated: the program's function and the reference's. No statement is proved here.
-/
import Derived.Test.YthfkpijcajdnhaaGreatB2
import Derived.IntWalk

namespace Go.Proofs.YthfkpijcajdnhaaGreat
open Go
noncomputable section
set_option maxRecDepth 100000
def cak:SP:=[(45,Bo),(49,vo),(50,PI)]
abbrev F20:Fnn:=⟨[.tmp 4],.one .fr (.lst .item),none,[]⟩
abbrev Eal:LI->RV:=rvF F20
abbrev Fal:=@OkF Tryz.prog tt Tryz.f20 F20 LI
def cai(a0:LR)(a1:Time):Tr LI Empty Empty Empty Empty:=.w [Ao a0,((!(!(zo a0)))&&true)=true->(ji a1)] (.c (cond (!(zo a0)) true (!(Hf a1))) (.l (.r []))
 (.w [Vo a0 a1] (.l (.r (Uo a0 a1)))))
def Xai:=λa0 a1=>(cai a0 a1).val
def Yai:=λa0 a1=>(cai a0 a1).ob
def Gal:=λa0 a1=>da.mk (Xai a0 a1) (Yai a0 a1) [] [(0,.S .row a0),(1,.agg true [.i a1.A,.i a1.B])] Eal nE nE nE nE
theorem Hal(G:Gd cak){fr a0 a1}:Fal fr (Gal a0 a1):=oa G [(0,[0,3]),(1,[0,3,12]),(2,[4]),(3,[4])] (cai a0 a1)
def Lah(a0:LR)(a1:Time):LI:=ocR (Xai a0 a1)
def Mah(a0:LR)(a1:Time):Prop:=Yai a0 a1
def Zai:Spec:=⟨[(.lst .row),(.st .time)],.one .fr (.lst .item),false,λx=>(Lah x.1 x.2.1,0),λx=>Mah x.1 x.2.1⟩
theorem Ial(G:Gd cak):Con Tryz.prog 20 Zai:=Ba (pts:=[(.lst .row),(.st .time)]) (F:=F20) G λ_ _=>Hal G
def Nah:SP:=[]
abbrev F21:Fnn:=⟨[.tmp 4],.one .fr .bool,none,[]⟩
abbrev aaj:Bool->RV:=rvF F21
abbrev dai:=@OkF Tryz.prog tt Tryz.f21 F21 Bool
def Dah(x4 x5:LI)(s9:Int):Tr Bool Int Unit Empty Empty:=.c (cmp .lss s9 (aa .item x4)) (.w [inb s9 (aa .item x4),inb s9 (aa .item x5)] (.c (!(cmp .eql (rd .item x4 s9).Key (rd .item x5 s9).Key&&(cmp .eql (rd .item x4 s9).Val (rd .item x5 s9).Val&&(cmp .eql (rd .item x4 s9).Count (rd .item x5 s9).Count&&true)))) (.l (.r false))
 (.l (.n (ar .add .i64 s9 1)))))
 (.l (.x ()))
def rah:=λx4 x5 s9=>(Dah x4 x5 s9).val
def Oah:=λx4 x5 s9=>(Dah x4 x5 s9).ob
def baj:=λx4 x5 s9=>Ka (rah x4 x5 s9) (Oah x4 x5 s9) [0,0,1,0,1,1] (λq=>[(0,.S .item x4),(1,.S .item x5),(5,.I q)]) s9 aaj (λ_=>(0,[])) nE nE
theorem Jal(G:Gd Nah){fr x4 x5 s9}:dai fr (baj x4 x5 s9):=oa G [(4,[0,1,5,14]),(5,[0,1,5]),(6,[0,1,5,25]),(7,[4])] (Dah x4 x5 s9)
def caj:=λx4 x5=>lpV (λs:Int=>ca (rah x4 x5 s)) 0
def dak:=λx4 x5=>LpT (λs:Int=>ca (rah x4 x5 s)) (λs=>Oah x4 x5 s) 0
def Pah:=λx4 x5=>lpS (baj x4 x5 0) (caj x4 x5) (dak x4 x5)
theorem Kal(G:Gd Nah){fr x4 x5}:dai fr (Pah x4 x5):=Na (λs:Int=>baj x4 x5 s) 0 λ_=>Jal G
def Qah(x2 x3:LI):Tr Bool Unit Empty Empty Empty:=.s (Pah x2 x3) nE (λ_=>.l (.n ())) nE nE
def daj:=λx2 x3=>(Qah x2 x3).val
def eaj:=λx2 x3=>(Qah x2 x3).ob
def Eah:=λx2 x3=>da.mk (daj x2 x3) (eaj x2 x3) [0,1,1] [(0,.S .item x2),(1,.S .item x3)] aaj (λ_=>[]) nE nE nE
theorem Lal(G:Gd Nah){fr x2 x3}:dai fr (Eah x2 x3):=ga G [([0,1,0,1,1],λe=>⟨Pah (gL .item e 0 0) (gL .item e 1 0)⟩)] ⟨λ_=>⟨rfl,Kal G⟩,trivial⟩ [(3,[0,1,5])] (Qah x2 x3)
def Fah(a0 a1:LI):Tr Bool Empty Empty Empty Empty:=.c (cmp .neq (aa .item a0) (aa .item a1)) (.l (.r false))
 (.s (Eah a0 a1) (λ_=>.l (.r true)) nE nE nE)
def Rah:=λa0 a1=>(Fah a0 a1).val
def Sah:=λa0 a1=>(Fah a0 a1).ob
def Mal:=λa0 a1=>da.mk (Rah a0 a1) (Sah a0 a1) [] [(0,.S .item a0),(1,.S .item a1)] aaj nE nE nE nE
theorem Nal(G:Gd Nah){fr a0 a1}:dai fr (Mal a0 a1):=ga G [([0,1,1],λe=>⟨Eah (gL .item e 0 0) (gL .item e 1 0)⟩)] ⟨λ_=>⟨rfl,Lal G⟩,trivial⟩ [(0,[0,1]),(1,[0,1,10]),(2,[4]),(8,[4])] (Fah a0 a1)
def Gah(a0:LI)(a1:LI):Bool:=ocR (Rah a0 a1)
def Hah(a0:LI)(a1:LI):Prop:=Sah a0 a1
def faj:Spec:=⟨[(.lst .item),(.lst .item)],.one .fr .bool,false,λx=>(Gah x.1 x.2.1,0),λx=>Hah x.1 x.2.1⟩
theorem Oal(G:Gd Nah):Con Tryz.prog 21 faj:=Ba (pts:=[(.lst .item),(.lst .item)]) (F:=F21) G λ_ _=>Nal G
def gaj:SP:=[(80,dE),(38,Ef)]
abbrev F51:Fnn:=⟨[.cell 2 38],.one .fr (.st .time),some 0,[]⟩
abbrev eak:LB->Time×Int->RV:=rvR F51
abbrev fak:=@OkF Tryz.prog tt Tryz.f51 F51 (Time×Int)
def eai(x2:LB)(x3:Int)(x4:Time):Tr (Time×Int) (Int×Int×Int) Empty Empty Empty:=.k (ua (x2,x3) 16) λu5=>.w [Eb (x2,x3) 16] (.c (cmp .eql u5.1 0) (.k (ua (x2,u5.2) 2) λu7=>.w [Eb (x2,u5.2) 2,inb u7.1 (aa .int [(-1),8])] (.l (.n (u7.2,(rd .int [(-1),8] u7.1),x4.B))))
 (.c (cmp .eql u5.1 1) (.k (ua (x2,u5.2) 2) λu9=>.w [Eb (x2,u5.2) 2,inb u9.1 (aa .int [(-1),8])] (.l (.n (u9.2,x4.A,(rd .int [(-1),8] u9.1)))))
 (.l (.n (u5.2,x4.A,x4.B)))))
def Pal:=λx2 x3 x4=>(eai x2 x3 x4).val
def iaj:=λx2 x3 x4=>(eai x2 x3 x4).ob
def fai:=λx2 x3 x4=>da.mk (Pal x2 x3 x4) (iaj x2 x3 x4) [0,1,1] [(0,.R x2 x3),(2,.B [0,0]),(3,.B [x4.A,x4.B])] (eak x2) (λq=>[(0,.R x2 q.1),(2,.B [0,0]),(3,.B [q.2.1,q.2.2])]) nE nE nE
theorem Qal(G:Gd gaj){fr x2 x3 x4}:fak fr (fai x2 x3 x4):=oa G [(2,[0,2,3,7]),(3,[0,2,3,7,8]),(4,[0,2,3]),(5,[0,2,3,16]),(6,[0,2,3])] (eai x2 x3 x4)
def gai(a0:(LB×Int)):Tr (Time×Int) Empty Empty Empty Empty:=.k (Qr (a0.1,a0.2)) λu1=>.w [Rr (a0.1,a0.2)] (.s (fai a0.1 u1.2 u1.1) (λq13=>.l (.r ((Time.mk q13.2.1 q13.2.2),q13.1))) nE nE nE)
def gak:=λa0=>(gai a0).val
def jaj:=λa0=>(gai a0).ob
def Ral:=λa0=>da.mk (gak a0) (jaj a0) [] [(0,.R a0.1 a0.2)] (eak a0.1) nE nE nE nE
theorem Sal(G:Gd gaj){fr a0}:fak fr (Ral a0):=ga G [([0,1,1],λe=>⟨fai (gL .byte e 0 0) (gI e 0 1) (Kd e 3)⟩)] ⟨λ_=>⟨rfl,Qal G⟩,trivial⟩ [(0,[0,2]),(1,[0,2,3]),(7,[0,2])] (gai a0)
def hak(a0:(LB×Int)):Time×Int:=ocR (gak a0)
def iai(a0:(LB×Int)):Prop:=jaj a0
def kaj:Spec:=⟨[.rdr],.one .fr (.st .time),true,λx=>hak x.1,λx=>iai x.1⟩
theorem Tal(G:Gd gaj):Con Tryz.prog 51 kaj:=Vf (pts:=[.rdr]) (F:=F51) G (λx=>x.1.1) λ_ _=>Sal G
def sah:SP:=[]
abbrev F27:Fnn:=⟨[.tmp 0],.one (.acc true) (.lst .time),none,[]⟩
abbrev Tah:List Time->RV:=rvF F27
abbrev vah:=@OkF Tryz.prog tt Tryz.f27 F27 (List Time)
def Uah(_x29:List Time)(x30:Int)(s34:List Time)(s35:Int):Tr (List Time) ((List Time)×Int) ((List Time)) Empty Empty:=.c (cmp .leq s35 7) (.w [lim (aa .time s34) (aa .time [(Time.mk x30 s35)])] (.l (.n ((s34++[(Time.mk x30 s35)]),(ar .add .i64 s35 1)))))
 (.l (.x s34))
def wah:=λx29 x30 s34 s35=>(Uah x29 x30 s34 s35).val
def Iah:=λx29 x30 s34 s35=>(Uah x29 x30 s34 s35).ob
def raj:=λx29 x30 s34 s35=>Ka (wah x29 x30 s34 s35) (Iah x29 x30 s34 s35) [0,0,1,0,0,1,0,0,1,0,1,1] (λq=>[(1,.A .time q.1),(2,.I x30),(3,.I q.2)]) (s34,s35) Tah (λq=>(2,[(1,.A .time q),(2,.I x30)])) nE nE
theorem fam(G:Gd sah){fr x29 x30 s34 s35}:vah fr (raj x29 x30 s34 s35):=oa G [(6,[1,2,3,10]),(7,[1,2,3]),(8,[1,2,3])] (Uah x29 x30 s34 s35)
def kak:=λx29 x30=>lpV (λs:(List Time)×Int=>ca (wah x29 x30 s.1 s.2)) (x29,0)
def lak:=λx29 x30=>LpT (λs:(List Time)×Int=>ca (wah x29 x30 s.1 s.2)) (λs=>Iah x29 x30 s.1 s.2) (x29,0)
def pai:=λx29 x30=>lpS (raj x29 x30 x29 0) (kak x29 x30) (lak x29 x30)
theorem gam(G:Gd sah){fr x29 x30}:vah fr (pai x29 x30):=Na (λs:(List Time)×Int=>raj x29 x30 s.1 s.2) (x29,0) λ_=>fam G
def qai(x27:List Time)(x28:Int):Tr (List Time) ((List Time)) Empty Empty Empty:=.s (pai x27 x28) nE (λq44=>.l (.n q44)) nE nE
def mak:=λx27 x28=>(qai x27 x28).val
def nak:=λx27 x28=>(qai x27 x28).ob
def rai:=λx27 x28=>da.mk (mak x27 x28) (nak x27 x28) [0,1,0,0,1,0,1,1] [(1,.A .time x27),(2,.I x28)] Tah (λq=>[(1,.A .time q),(2,.I x28)]) nE nE nE
theorem ham(G:Gd sah){fr x27 x28}:vah fr (rai x27 x28):=ga G [([0,1,0,0,1,0,0,1,0,1,1],λe=>⟨pai (gL .time e 1 0) (gI e 2 0)⟩)] ⟨λ_=>⟨rfl,gam G⟩,trivial⟩ [(5,[1,2,3])] (qai x27 x28)
def Vah(s24:List Time)(s25:Int):Tr (List Time) ((List Time)×Int) ((List Time)) Empty Empty:=.c (cmp .leq s25 7) (.s (rai s24 s25) (λq47=>.l (.n (q47,(ar .add .i64 s25 1)))) nE nE nE)
 (.l (.x s24))
def xah:=λs24 s25=>(Vah s24 s25).val
def Jah:=λs24 s25=>(Vah s24 s25).ob
def saj:=λs24 s25=>Ka (xah s24 s25) (Jah s24 s25) [0,0,1,0,1,1] (λq=>[(1,.A .time q.1),(2,.I q.2)]) (s24,s25) Tah (λq=>(0,[(1,.A .time q)])) nE nE
theorem iam(G:Gd sah){fr s24 s25}:vah fr (saj s24 s25):=ga G [([0,1,0,0,1,0,1,1],λe=>⟨rai (gL .time e 1 0) (gI e 2 0)⟩)] ⟨λ_=>⟨rfl,ham G⟩,trivial⟩ [(3,[1,2,6]),(4,[1,2])] (Vah s24 s25)
def oak:=lpV (λs:(List Time)×Int=>ca (xah s.1 s.2)) ([],0)
def pak:=LpT (λs:(List Time)×Int=>ca (xah s.1 s.2)) (λs=>Jah s.1 s.2) ([],0)
def sai:=lpS (saj [] 0) (oak) (pak)
theorem jam(G:Gd sah){fr}:vah fr (sai):=Na (λs:(List Time)×Int=>saj s.1 s.2) ([],0) λ_=>iam G
def tai:Tr (List Time) ((List Time)) Empty Empty Empty:=.s sai nE (λq58=>.l (.n q58)) nE nE
def qak:=(tai).val
def rak:=(tai).ob
def uai:=da.mk (qak) (rak) [0,1,1] [(1,.A .time [])] Tah (λq=>[(1,.A .time q)]) nE nE nE
theorem kam(G:Gd sah){fr}:vah fr (uai):=ga G [([0,1,0,1,1],λe=>⟨sai⟩)] ⟨λ_=>⟨rfl,jam G⟩,trivial⟩ [(2,[1,2])] tai
def vai:Tr (List Time) Empty Empty Empty Empty:=.s uai (λq61=>.l (.r q61)) nE nE nE
def taj:=(vai).val
def uaj:=(vai).ob
def lam:=da.mk (taj) (uaj) [] [] Tah nE nE nE nE
theorem mam(G:Gd sah){fr}:vah fr (lam):=ga G [([0,1,1],λe=>⟨uai⟩)] ⟨λ_=>⟨rfl,kam G⟩,trivial⟩ [(0,[]),(1,[1]),(9,[0])] vai
def wai  : List Time:=ocR (taj)
def xai  : Prop:=uaj
def vaj:Spec:=⟨[],.one (.acc true) (.lst .time),false,λ_=>(wai,0),λ_=>xai⟩
theorem nam(G:Gd sah):Con Tryz.prog 27 vaj:=Ba (pts:=[]) (F:=F27) G λ_ _=>mam G
def mau:SP:=[(38,Ef),(80,dE)]
abbrev Eaw:Fnn:=⟨[.tmp 4],.one (.acc true) (.lst .time),some 0,[]⟩
abbrev Faw:LB->(List Time)×Int->RV:=rvR Eaw
abbrev Qau:=@OkF Tryz.prog tt Tryz.f109 Eaw ((List Time)×Int)
def nau(x5:LB)(_x6 _x7 s13:Int)(s14:List Time)(s15:Int):Tr ((List Time)×Int) (Int×(List Time)×Int) (Int×(List Time)) Empty Empty:=.c (cmp .gtr s15 0) (.k (Qr (x5,s13)) λu17=>.w [Rr (x5,s13),lim (aa .time s14) (aa .time [u17.1])] (.l (.n (u17.2,(s14++[u17.1]),(ar .sub .i64 s15 1)))))
 (.l (.x (s13,s14)))
def Yat:=λx5 x6 x7 s13 s14 s15=>(nau x5 x6 x7 s13 s14 s15).val
def oau:=λx5 x6 x7 s13 s14 s15=>(nau x5 x6 x7 s13 s14 s15).ob
def Gaw:=λx5 x6 x7 s13 s14 s15=>Ka (Yat x5 x6 x7 s13 s14 s15) (oau x5 x6 x7 s13 s14 s15) [0,0,1,0,1,1] (λq=>[(0,.R x5 q.1),(5,.A .time q.2.1),(6,.I q.2.2)]) (s13,s14,s15) (Faw x5) (λq=>(0,[(0,.R x5 q.1),(5,.A .time q.2)])) nE nE
theorem vaz(G:Gd mau){fr x5 x6 x7 s13 s14 s15}:Qau fr (Gaw x5 x6 x7 s13 s14 s15):=oa G [(3,[0,5,6,13]),(4,[0,5,6]),(5,[0,5,6])] (nau x5 x6 x7 s13 s14 s15)
def day:=λx5 x6 x7=>lpV (λs:Int×(List Time)×Int=>ca (Yat x5 x6 x7 s.1 s.2.1 s.2.2)) (x6,[],x7)
def eay:=λx5 x6 x7=>LpT (λs:Int×(List Time)×Int=>ca (Yat x5 x6 x7 s.1 s.2.1 s.2.2)) (λs=>oau x5 x6 x7 s.1 s.2.1 s.2.2) (x6,[],x7)
def Rau:=λx5 x6 x7=>lpS (Gaw x5 x6 x7 x6 [] x7) (day x5 x6 x7) (eay x5 x6 x7)
theorem waz(G:Gd mau){fr x5 x6 x7}:Qau fr (Rau x5 x6 x7):=Na (λs:Int×(List Time)×Int=>Gaw x5 x6 x7 s.1 s.2.1 s.2.2) (x6,[],x7) λ_=>vaz G
def Sau(x1:LB)(x2 x3:Int):Tr ((List Time)×Int) (Int×(List Time)) Empty Empty Empty:=.k (ua (x1,x2) (ar .add .i64 x3 1)) λu4=>.w [Eb (x1,x2) (ar .add .i64 x3 1)] (.s (Rau x1 u4.2 u4.1) nE (λq28=>.l (.n (q28.1,q28.2))) nE nE)
def fay:=λx1 x2 x3=>(Sau x1 x2 x3).val
def gay:=λx1 x2 x3=>(Sau x1 x2 x3).ob
def Tau:=λx1 x2 x3=>da.mk (fay x1 x2 x3) (gay x1 x2 x3) [0,1,1] [(0,.R x1 x2),(1,.I x3),(5,.A .time [])] (Faw x1) (λq=>[(0,.R x1 q.1),(5,.A .time q.2)]) nE nE nE
theorem xaz(G:Gd mau){fr x1 x2 x3}:Qau fr (Tau x1 x2 x3):=ga G [([0,1,0,1,1],λe=>⟨Rau (gL .byte e 0 0) (gI e 0 1) (gI e 6 0)⟩)] ⟨λ_=>⟨rfl,waz G⟩,trivial⟩ [(2,[0,5,6])] (Sau x1 x2 x3)
def Uau(a0:(LB×Int))(a1:Int):Tr ((List Time)×Int) Empty Empty Empty Empty:=.s (Tau a0.1 a0.2 a1) (λq32=>.l (.r (q32.2,q32.1))) nE nE nE
def Haw:=λa0 a1=>(Uau a0 a1).val
def Iaw:=λa0 a1=>(Uau a0 a1).ob
def yaz:=λa0 a1=>da.mk (Haw a0 a1) (Iaw a0 a1) [] [(0,.R a0.1 a0.2),(1,.I a1)] (Faw a0.1) nE nE nE nE
theorem zaz(G:Gd mau){fr a0 a1}:Qau fr (yaz a0 a1):=ga G [([0,1,1],λe=>⟨Tau (gL .byte e 0 0) (gI e 0 1) (gI e 1 0)⟩)] ⟨λ_=>⟨rfl,xaz G⟩,trivial⟩ [(0,[0,1]),(1,[0,1,5]),(6,[0,4])] (Uau a0 a1)
def Uat(a0:(LB×Int))(a1:Int):(List Time)×Int:=ocR (Haw a0 a1)
def Vau(a0:(LB×Int))(a1:Int):Prop:=Iaw a0 a1
def Jaw:Spec:=⟨[.rdr,(.int .i64)],.one (.acc true) (.lst .time),true,λx=>Uat x.1 x.2.1,λx=>Vau x.1 x.2.1⟩
theorem Aaz(G:Gd mau):Con Tryz.prog 109 Jaw:=Vf (pts:=[.rdr,(.int .i64)]) (F:=Eaw) G (λx=>x.1.1) λ_ _=>zaz G
def pau:SP:=[(24,Yi)]
abbrev Kaw:Fnn:=⟨[.tmp 2],.one .fr .bool,none,[]⟩
abbrev Law:Bool->RV:=rvF Kaw
abbrev Wau:=@OkF Tryz.prog tt Tryz.f121 Kaw Bool
def qau(x2:List Time)(s7:Int):Tr Bool Int Unit Empty Empty:=.c (cmp .lss s7 (aa .time x2)) (.w [inb s7 (aa .time x2),Qg (rd .time x2 s7)] (.c (!(qe (rd .time x2 s7))) (.l (.r false))
 (.l (.n (ar .add .i64 s7 1)))))
 (.l (.x ()))
def Zat:=λx2 s7=>(qau x2 s7).val
def rau:=λx2 s7=>(qau x2 s7).ob
def Maw:=λx2 s7=>Ka (Zat x2 s7) (rau x2 s7) [0,0,1,0,1] (λq=>[(0,.S .time x2),(3,.I q)]) s7 Law (λ_=>(0,[])) nE nE
theorem Baz(G:Gd pau){fr x2 s7}:Wau fr (Maw x2 s7):=oa G [(2,[0,3,7]),(3,[0,3]),(4,[0,3,15]),(5,[2])] (qau x2 s7)
def Caz:=λx2=>lpV (λs:Int=>ca (Zat x2 s)) 0
def hay:=λx2=>LpT (λs:Int=>ca (Zat x2 s)) (λs=>rau x2 s) 0
def Xau:=λx2=>lpS (Maw x2 0) (Caz x2) (hay x2)
theorem Daz(G:Gd pau){fr x2}:Wau fr (Xau x2):=Na (λs:Int=>Maw x2 s) 0 λ_=>Baz G
def Yau(x1:List Time):Tr Bool Unit Empty Empty Empty:=.s (Xau x1) nE (λ_=>.l (.n ())) nE nE
def Eaz:=λx1=>(Yau x1).val
def iay:=λx1=>(Yau x1).ob
def Zau:=λx1=>da.mk (Eaz x1) (iay x1) [0,1] [(0,.S .time x1)] Law (λ_=>[]) nE nE nE
theorem Faz(G:Gd pau){fr x1}:Wau fr (Zau x1):=ga G [([0,1,0,1],λe=>⟨Xau (gL .time e 0 0)⟩)] ⟨λ_=>⟨rfl,Daz G⟩,trivial⟩ [(1,[0,3])] (Yau x1)
def aav(a0:List Time):Tr Bool Empty Empty Empty Empty:=.s (Zau a0) (λ_=>.l (.r true)) nE nE nE
def jay:=λa0=>(aav a0).val
def Naw:=λa0=>(aav a0).ob
def Gaz:=λa0=>da.mk (jay a0) (Naw a0) [] [(0,.S .time a0)] Law nE nE nE nE
theorem Haz(G:Gd pau){fr a0}:Wau fr (Gaz a0):=ga G [([0,1],λe=>⟨Zau (gL .time e 0 0)⟩)] ⟨λ_=>⟨rfl,Faz G⟩,trivial⟩ [(0,[0]),(6,[2])] (aav a0)
def Oaw(a0:List Time):Bool:=ocR (jay a0)
def bav(a0:List Time):Prop:=Naw a0
def Paw:Spec:=⟨[(.lst .time)],.one .fr .bool,false,λx=>(Oaw x.1,0),λx=>bav x.1⟩
theorem Iaz(G:Gd pau):Con Tryz.prog 121 Paw:=Ba (pts:=[(.lst .time)]) (F:=Kaw) G λ_ _=>Haz G
def Oat:SP:=[(121,Paw),(89,Dv)]
abbrev Qaw:Fnn:=⟨[.tmp 2],.one (.acc true) (.lst .time),none,[]⟩
abbrev Qat:List Time->RV:=rvF Qaw
abbrev Pat:=@OkF Tryz.prog tt Tryz.f108 Qaw (List Time)
def cav(x373 _x374:List Time)(x375 x376:Int)(x377:Bool)(x378:Int):Tr (List Time) Bool Empty Empty Empty:=.w [inb x378 (aa .time x373)] (.c (cmp .eql (rd .time x373 x378).A x375&&(cmp .eql (rd .time x373 x378).B x376&&true)) (.l (.n true))
 (.l (.n x377)))
def Raw:=λx373 x374 x375 x376 x377 x378=>(cav x373 x374 x375 x376 x377 x378).val
def Saw:=λx373 x374 x375 x376 x377 x378=>(cav x373 x374 x375 x376 x377 x378).ob
def dav:=λx373 x374 x375 x376 x377 x378=>da.mk (Raw x373 x374 x375 x376 x377 x378) (Saw x373 x374 x375 x376 x377 x378) [0,1,0,0,1,0,1,1,0,0,1,0,0,1,0,0,1,0,0,1,0,1,1,1] [(0,.S .time x373),(3,.A .time x374),(4,.I x375),(5,.I x376),(6,.B [x375,x376]),(7,.O x377),(8,.I x378)] Qat (λq=>[(0,.S .time x373),(3,.A .time x374),(4,.I x375),(5,.I x376),(6,.B [x375,x376]),(7,.O q),(8,.I x378)]) nE nE nE
theorem Jaz(G:Gd Oat){fr x373 x374 x375 x376 x377 x378}:Pat fr (dav x373 x374 x375 x376 x377 x378):=oa G [(15,[0,3,4,5,6,7,8,37]),(16,[0,3,4,5,6,7,8])] (cav x373 x374 x375 x376 x377 x378)
def sau(x353 x354:List Time)(x355 x356:Int)(s370:Bool)(s371:Int):Tr (List Time) (Bool×Int) Bool Empty Empty:=.c (cmp .lss s371 (aa .time x353)) (.s (dav x353 x354 x355 x356 s370 s371) (λq381=>.l (.n (q381,(ar .add .i64 s371 1)))) nE nE nE)
 (.l (.x s370))
def aau:=λx353 x354 x355 x356 s370 s371=>(sau x353 x354 x355 x356 s370 s371).val
def tau:=λx353 x354 x355 x356 s370 s371=>(sau x353 x354 x355 x356 s370 s371).ob
def Taw:=λx353 x354 x355 x356 s370 s371=>Ka (aau x353 x354 x355 x356 s370 s371) (tau x353 x354 x355 x356 s370 s371) [0,0,1,0,1,1,0,0,1,0,0,1,0,0,1,0,0,1,0,1,1,1] (λq=>[(0,.S .time x353),(3,.A .time x354),(4,.I x355),(5,.I x356),(6,.B [x355,x356]),(7,.O q.1),(8,.I q.2)]) (s370,s371) Qat (λq=>(4,[(0,.S .time x353),(3,.A .time x354),(4,.I x355),(5,.I x356),(6,.B [x355,x356]),(7,.O q)])) nE nE
theorem Kaz(G:Gd Oat){fr x353 x354 x355 x356 s370 s371}:Pat fr (Taw x353 x354 x355 x356 s370 s371):=ga G [([0,1,0,0,1,0,1,1,0,0,1,0,0,1,0,0,1,0,0,1,0,1,1,1],λe=>⟨dav (gL .time e 0 0) (gL .time e 3 0) (gI e 4 0) (gI e 5 0) (gB e 7 0) (gI e 8 0)⟩)] ⟨λ_=>⟨rfl,Jaz G⟩,trivial⟩ [(13,[0,3,4,5,6,7,8,29]),(14,[0,3,4,5,6,7,8])] (sau x353 x354 x355 x356 s370 s371)
def kay:=λx353 x354 x355 x356=>lpV (λs:Bool×Int=>ca (aau x353 x354 x355 x356 s.1 s.2)) (false,0)
def nay:=λx353 x354 x355 x356=>LpT (λs:Bool×Int=>ca (aau x353 x354 x355 x356 s.1 s.2)) (λs=>tau x353 x354 x355 x356 s.1 s.2) (false,0)
def eav:=λx353 x354 x355 x356=>lpS (Taw x353 x354 x355 x356 false 0) (kay x353 x354 x355 x356) (nay x353 x354 x355 x356)
theorem Laz(G:Gd Oat){fr x353 x354 x355 x356}:Pat fr (eav x353 x354 x355 x356):=Na (λs:Bool×Int=>Taw x353 x354 x355 x356 s.1 s.2) (false,0) λ_=>Kaz G
def fav(x349 x350:List Time)(x351 x352:Int):Tr (List Time) Bool Empty Empty Empty:=.s (eav x349 x350 x351 x352) nE (λq392=>.l (.n q392)) nE nE
def Uaw:=λx349 x350 x351 x352=>(fav x349 x350 x351 x352).val
def Vaw:=λx349 x350 x351 x352=>(fav x349 x350 x351 x352).ob
def gav:=λx349 x350 x351 x352=>da.mk (Uaw x349 x350 x351 x352) (Vaw x349 x350 x351 x352) [0,1,1,0,0,1,0,0,1,0,0,1,0,0,1,0,1,1,1] [(0,.S .time x349),(3,.A .time x350),(4,.I x351),(5,.I x352),(6,.B [x351,x352]),(7,.O false)] Qat (λq=>[(0,.S .time x349),(3,.A .time x350),(4,.I x351),(5,.I x352),(6,.B [x351,x352]),(7,.O q)]) nE nE nE
theorem Maz(G:Gd Oat){fr x349 x350 x351 x352}:Pat fr (gav x349 x350 x351 x352):=ga G [([0,1,0,1,1,0,0,1,0,0,1,0,0,1,0,0,1,0,1,1,1],λe=>⟨eav (gL .time e 0 0) (gL .time e 3 0) (gI e 4 0) (gI e 5 0)⟩)] ⟨λ_=>⟨rfl,Laz G⟩,trivial⟩ [(12,[0,3,4,5,6,7,8])] (fav x349 x350 x351 x352)
def iav(x425 _x426:List Time)(x427 x428:Int)(x429:Bool)(x430:Int):Tr (List Time) Bool Empty Empty Empty:=.w [inb x430 (aa .time x425),((!(cmp .eql (rd .time x425 x430).A x427&&(cmp .eql (rd .time x425 x430).B x428&&true)))&&true)=true->inb x430 (aa .time x425),((!(cmp .eql (rd .time x425 x430).A x427&&(cmp .eql (rd .time x425 x430).B x428&&true)))&&true)=true->(Cv (rd .time x425 x430) (Time.mk x427 x428))] (.c (cond (!(cmp .eql (rd .time x425 x430).A x427&&(cmp .eql (rd .time x425 x430).B x428&&true))) (Bv (rd .time x425 x430) (Time.mk x427 x428)) false) (.l (.n false))
 (.l (.n x429)))
def Waw:=λx425 x426 x427 x428 x429 x430=>(iav x425 x426 x427 x428 x429 x430).val
def Xaw:=λx425 x426 x427 x428 x429 x430=>(iav x425 x426 x427 x428 x429 x430).ob
def jav:=λx425 x426 x427 x428 x429 x430=>da.mk (Waw x425 x426 x427 x428 x429 x430) (Xaw x425 x426 x427 x428 x429 x430) [0,1,0,0,1,0,1,1,1,0,0,1,0,0,1,0,0,1,0,0,1,0,1,1,1] [(0,.S .time x425),(3,.A .time x426),(4,.I x427),(5,.I x428),(6,.B [x427,x428]),(7,.O x429),(9,.I x430)] Qat (λq=>[(0,.S .time x425),(3,.A .time x426),(4,.I x427),(5,.I x428),(6,.B [x427,x428]),(7,.O q),(9,.I x430)]) nE nE nE
theorem Naz(G:Gd Oat){fr x425 x426 x427 x428 x429 x430}:Pat fr (jav x425 x426 x427 x428 x429 x430):=oa G [(20,[0,3,4,5,6,7,9,57]),(21,[0,3,4,5,6,7,9])] (iav x425 x426 x427 x428 x429 x430)
def uau(x402 x403:List Time)(x404 x405:Int)(_x406 s422:Bool)(s423:Int):Tr (List Time) (Bool×Int) Bool Empty Empty:=.c (cmp .lss s423 (aa .time x402)) (.s (jav x402 x403 x404 x405 s422 s423) (λq434=>.l (.n (q434,(ar .add .i64 s423 1)))) nE nE nE)
 (.l (.x s422))
def bau:=λx402 x403 x404 x405 x406 s422 s423=>(uau x402 x403 x404 x405 x406 s422 s423).val
def vau:=λx402 x403 x404 x405 x406 s422 s423=>(uau x402 x403 x404 x405 x406 s422 s423).ob
def Yaw:=λx402 x403 x404 x405 x406 s422 s423=>Ka (bau x402 x403 x404 x405 x406 s422 s423) (vau x402 x403 x404 x405 x406 s422 s423) [0,0,1,0,1,1,1,0,0,1,0,0,1,0,0,1,0,0,1,0,1,1,1] (λq=>[(0,.S .time x402),(3,.A .time x403),(4,.I x404),(5,.I x405),(6,.B [x404,x405]),(7,.O q.1),(9,.I q.2)]) (s422,s423) Qat (λq=>(6,[(0,.S .time x402),(3,.A .time x403),(4,.I x404),(5,.I x405),(6,.B [x404,x405]),(7,.O q)])) nE nE
theorem Oaz(G:Gd Oat){fr x402 x403 x404 x405 x406 s422 s423}:Pat fr (Yaw x402 x403 x404 x405 x406 s422 s423):=ga G [([0,1,0,0,1,0,1,1,1,0,0,1,0,0,1,0,0,1,0,0,1,0,1,1,1],λe=>⟨jav (gL .time e 0 0) (gL .time e 3 0) (gI e 4 0) (gI e 5 0) (gB e 7 0) (gI e 9 0)⟩)] ⟨λ_=>⟨rfl,Naz G⟩,trivial⟩ [(18,[0,3,4,5,6,7,9,41]),(19,[0,3,4,5,6,7,9])] (uau x402 x403 x404 x405 x406 s422 s423)
def oay:=λx402 x403 x404 x405 x406=>lpV (λs:Bool×Int=>ca (bau x402 x403 x404 x405 x406 s.1 s.2)) (x406,0)
def pay:=λx402 x403 x404 x405 x406=>LpT (λs:Bool×Int=>ca (bau x402 x403 x404 x405 x406 s.1 s.2)) (λs=>vau x402 x403 x404 x405 x406 s.1 s.2) (x406,0)
def kav:=λx402 x403 x404 x405 x406=>lpS (Yaw x402 x403 x404 x405 x406 x406 0) (oay x402 x403 x404 x405 x406) (pay x402 x403 x404 x405 x406)
theorem Paz(G:Gd Oat){fr x402 x403 x404 x405 x406}:Pat fr (kav x402 x403 x404 x405 x406):=Na (λs:Bool×Int=>Yaw x402 x403 x404 x405 x406 s.1 s.2) (x406,0) λ_=>Oaz G
def lav(x397 x398:List Time)(x399 x400:Int)(x401:Bool):Tr (List Time) Bool Empty Empty Empty:=.s (kav x397 x398 x399 x400 x401) nE (λq445=>.l (.n q445)) nE nE
def Zaw:=λx397 x398 x399 x400 x401=>(lav x397 x398 x399 x400 x401).val
def aax:=λx397 x398 x399 x400 x401=>(lav x397 x398 x399 x400 x401).ob
def mav:=λx397 x398 x399 x400 x401=>da.mk (Zaw x397 x398 x399 x400 x401) (aax x397 x398 x399 x400 x401) [0,1,1,1,0,0,1,0,0,1,0,0,1,0,0,1,0,1,1,1] [(0,.S .time x397),(3,.A .time x398),(4,.I x399),(5,.I x400),(6,.B [x399,x400]),(7,.O x401)] Qat (λq=>[(0,.S .time x397),(3,.A .time x398),(4,.I x399),(5,.I x400),(6,.B [x399,x400]),(7,.O q)]) nE nE nE
theorem Qaz(G:Gd Oat){fr x397 x398 x399 x400 x401}:Pat fr (mav x397 x398 x399 x400 x401):=ga G [([0,1,0,1,1,1,0,0,1,0,0,1,0,0,1,0,0,1,0,1,1,1],λe=>⟨kav (gL .time e 0 0) (gL .time e 3 0) (gI e 4 0) (gI e 5 0) (gB e 7 0)⟩)] ⟨λ_=>⟨rfl,Paz G⟩,trivial⟩ [(17,[0,3,4,5,6,7,9])] (lav x397 x398 x399 x400 x401)
def oav(x345 x346:List Time)(x347 x348:Int):Tr (List Time) ((List Time)) Empty Empty Empty:=.s (gav x345 x346 x347 x348) (λq395=>.s (mav x345 x346 x347 x348 q395) (λq448=>.c q448 (.w [lim (aa .time x346) (aa .time [(Time.mk x347 x348)])] (.l (.n (x346++[(Time.mk x347 x348)]))))
 (.l (.n x346))) nE nE nE) nE nE nE
def bax:=λx345 x346 x347 x348=>(oav x345 x346 x347 x348).val
def cax:=λx345 x346 x347 x348=>(oav x345 x346 x347 x348).ob
def pav:=λx345 x346 x347 x348=>da.mk (bax x345 x346 x347 x348) (cax x345 x346 x347 x348) [0,1,0,0,1,0,0,1,0,0,1,0,1,1,1] [(0,.S .time x345),(3,.A .time x346),(4,.I x347),(5,.I x348)] Qat (λq=>[(0,.S .time x345),(3,.A .time q),(4,.I x347),(5,.I x348)]) nE nE nE
theorem Raz(G:Gd Oat){fr x345 x346 x347 x348}:Pat fr (pav x345 x346 x347 x348):=ga G [([0,1,1,0,0,1,0,0,1,0,0,1,0,0,1,0,1,1,1],λe=>⟨gav (gL .time e 0 0) (gL .time e 3 0) (gI e 4 0) (gI e 5 0)⟩),([0,1,1,1,0,0,1,0,0,1,0,0,1,0,0,1,0,1,1,1],λe=>⟨mav (gL .time e 0 0) (gL .time e 3 0) (gI e 4 0) (gI e 5 0) (gB e 7 0)⟩)] ⟨λ_=>⟨rfl,Maz G⟩,λ_=>⟨rfl,Qaz G⟩,trivial⟩ [(10,[0,3,4,5,6]),(11,[0,3,4,5,6,7]),(22,[0,3,4,5,6,58]),(23,[0,3,4,5])] (oav x345 x346 x347 x348)
def wau(x230 _x231:List Time)(x232:Int)(s342:List Time)(s343:Int):Tr (List Time) ((List Time)×Int) ((List Time)) Empty Empty:=.c (cmp .geq s343 0) (.s (pav x230 s342 x232 s343) (λq456=>.l (.n (q456,(ar .sub .i64 s343 1)))) nE nE nE)
 (.l (.x s342))
def cau:=λx230 x231 x232 s342 s343=>(wau x230 x231 x232 s342 s343).val
def xau:=λx230 x231 x232 s342 s343=>(wau x230 x231 x232 s342 s343).ob
def dax:=λx230 x231 x232 s342 s343=>Ka (cau x230 x231 x232 s342 s343) (xau x230 x231 x232 s342 s343) [0,0,1,0,0,1,0,0,1,0,1,1,1] (λq=>[(0,.S .time x230),(3,.A .time q.1),(4,.I x232),(5,.I q.2)]) (s342,s343) Qat (λq=>(2,[(0,.S .time x230),(3,.A .time q),(4,.I x232)])) nE nE
theorem Saz(G:Gd Oat){fr x230 x231 x232 s342 s343}:Pat fr (dax x230 x231 x232 s342 s343):=ga G [([0,1,0,0,1,0,0,1,0,0,1,0,1,1,1],λe=>⟨pav (gL .time e 0 0) (gL .time e 3 0) (gI e 4 0) (gI e 5 0)⟩)] ⟨λ_=>⟨rfl,Raz G⟩,trivial⟩ [(8,[0,3,4,5,20]),(9,[0,3,4,5])] (wau x230 x231 x232 s342 s343)
def qay:=λx230 x231 x232=>lpV (λs:(List Time)×Int=>ca (cau x230 x231 x232 s.1 s.2)) (x231,7)
def ray:=λx230 x231 x232=>LpT (λs:(List Time)×Int=>ca (cau x230 x231 x232 s.1 s.2)) (λs=>xau x230 x231 x232 s.1 s.2) (x231,7)
def qav:=λx230 x231 x232=>lpS (dax x230 x231 x232 x231 7) (qay x230 x231 x232) (ray x230 x231 x232)
theorem Taz(G:Gd Oat){fr x230 x231 x232}:Pat fr (qav x230 x231 x232):=Na (λs:(List Time)×Int=>dax x230 x231 x232 s.1 s.2) (x231,7) λ_=>Saz G
def rav(x227 x228:List Time)(x229:Int):Tr (List Time) ((List Time)) Empty Empty Empty:=.s (qav x227 x228 x229) nE (λq467=>.l (.n q467)) nE nE
def eax:=λx227 x228 x229=>(rav x227 x228 x229).val
def fax:=λx227 x228 x229=>(rav x227 x228 x229).ob
def sav:=λx227 x228 x229=>da.mk (eax x227 x228 x229) (fax x227 x228 x229) [0,1,0,0,1,0,1,1,1] [(0,.S .time x227),(3,.A .time x228),(4,.I x229)] Qat (λq=>[(0,.S .time x227),(3,.A .time q),(4,.I x229)]) nE nE nE
theorem Uaz(G:Gd Oat){fr x227 x228 x229}:Pat fr (sav x227 x228 x229):=ga G [([0,1,0,0,1,0,0,1,0,1,1,1],λe=>⟨qav (gL .time e 0 0) (gL .time e 3 0) (gI e 4 0)⟩)] ⟨λ_=>⟨rfl,Taz G⟩,trivial⟩ [(7,[0,3,4,5])] (rav x227 x228 x229)
def yau(x4 s224:List Time)(s225:Int):Tr (List Time) ((List Time)×Int) ((List Time)) Empty Empty:=.c (cmp .leq s225 7) (.s (sav x4 s224 s225) (λq470=>.l (.n (q470,(ar .add .i64 s225 1)))) nE nE nE)
 (.l (.x s224))
def dau:=λx4 s224 s225=>(yau x4 s224 s225).val
def zau:=λx4 s224 s225=>(yau x4 s224 s225).ob
def gax:=λx4 s224 s225=>Ka (dau x4 s224 s225) (zau x4 s224 s225) [0,0,1,0,1,1,1] (λq=>[(0,.S .time x4),(3,.A .time q.1),(4,.I q.2)]) (s224,s225) Qat (λq=>(0,[(3,.A .time q)])) nE nE
theorem Vaz(G:Gd Oat){fr x4 s224 s225}:Pat fr (gax x4 s224 s225):=ga G [([0,1,0,0,1,0,1,1,1],λe=>⟨sav (gL .time e 0 0) (gL .time e 3 0) (gI e 4 0)⟩)] ⟨λ_=>⟨rfl,Uaz G⟩,trivial⟩ [(5,[0,3,4,16]),(6,[0,3,4])] (yau x4 s224 s225)
def tay:=λx4=>lpV (λs:(List Time)×Int=>ca (dau x4 s.1 s.2)) ([],0)
def uay:=λx4=>LpT (λs:(List Time)×Int=>ca (dau x4 s.1 s.2)) (λs=>zau x4 s.1 s.2) ([],0)
def tav:=λx4=>lpS (gax x4 [] 0) (tay x4) (uay x4)
theorem Waz(G:Gd Oat){fr x4}:Pat fr (tav x4):=Na (λs:(List Time)×Int=>gax x4 s.1 s.2) ([],0) λ_=>Vaz G
def uav(x3:List Time):Tr (List Time) ((List Time)) Empty Empty Empty:=.s (tav x3) nE (λq481=>.l (.n q481)) nE nE
def vay:=λx3=>(uav x3).val
def xay:=λx3=>(uav x3).ob
def vav:=λx3=>da.mk (vay x3) (xay x3) [0,1,1,1] [(0,.S .time x3),(3,.A .time [])] Qat (λq=>[(3,.A .time q)]) nE nE nE
theorem Xaz(G:Gd Oat){fr x3}:Pat fr (vav x3):=ga G [([0,1,0,1,1,1],λe=>⟨tav (gL .time e 0 0)⟩)] ⟨λ_=>⟨rfl,Waz G⟩,trivial⟩ [(4,[0,3,4])] (uav x3)
def wav(a0:List Time):Tr (List Time) Empty Empty Empty Empty:=.w [bav a0] (.c (!(Oaw a0)) (.l (.r []))
 (.s (vav a0) (λq484=>.l (.r q484)) nE nE nE))
def hax:=λa0=>(wav a0).val
def iax:=λa0=>(wav a0).ob
def Yaz:=λa0=>da.mk (hax a0) (iax a0) [] [(0,.S .time a0)] Qat nE nE nE nE
theorem Zaz(G:Gd Oat){fr a0}:Pat fr (Yaz a0):=ga G [([0,1,1,1],λe=>⟨vav (gL .time e 0 0)⟩)] ⟨λ_=>⟨rfl,Xaz G⟩,trivial⟩ [(0,[0]),(1,[0,3]),(2,[0,3,13]),(3,[2]),(24,[2])] (wav a0)
def xav(a0:List Time):List Time:=ocR (hax a0)
def yav(a0:List Time):Prop:=iax a0
def jax:Spec:=⟨[(.lst .time)],.one (.acc true) (.lst .time),false,λx=>(xav x.1,0),λx=>yav x.1⟩
theorem aaA(G:Gd Oat):Con Tryz.prog 108 jax:=Ba (pts:=[(.lst .time)]) (F:=Qaw) G λ_ _=>Zaz G
def yay:SP:=[(109,Jaw),(108,jax)]
abbrev F86:Fnn:=⟨[.tmp 2],.one (.acc true) (.lst .time),some 0,[]⟩
abbrev baA:LB->(List Time)×Int->RV:=rvR F86
abbrev caA:=@OkF Tryz.prog tt Tryz.f86 F86 ((List Time)×Int)
def zav(a0:(LB×Int)):Tr ((List Time)×Int) Empty Empty Empty Empty:=.k (Uat (a0.1,a0.2) 4) λu1=>.w [Vau (a0.1,a0.2) 4,yav u1.1] (.l (.r ((xav u1.1),u1.2)))
def kax:=λa0=>(zav a0).val
def lax:=λa0=>(zav a0).ob
def daA:=λa0=>da.mk (kax a0) (lax a0) [] [(0,.R a0.1 a0.2)] (baA a0.1) nE nE nE nE
theorem eaA(G:Gd yay){fr a0}:caA fr (daA a0):=oa G [(0,[0]),(1,[0,2])] (zav a0)
def Vat(a0:(LB×Int)):(List Time)×Int:=ocR (kax a0)
def Aav(a0:(LB×Int)):Prop:=lax a0
def nax:Spec:=⟨[.rdr],.one (.acc true) (.lst .time),true,λx=>Vat x.1,λx=>Aav x.1⟩
theorem faA(G:Gd yay):Con Tryz.prog 86 nax:=Vf (pts:=[.rdr]) (F:=F86) G (λx=>x.1.1) λ_ _=>eaA G
def zay:SP:=[(86,nax),(38,Ef),(51,kaj)]
abbrev F58:Fnn:=⟨[.tmp 2],.one (.acc true) (.lst .time),some 0,[]⟩
abbrev gaA:LB->(List Time)×Int->RV:=rvR F58
abbrev haA:=@OkF Tryz.prog tt Tryz.f58 F58 ((List Time)×Int)
def Bav(a0:(LB×Int)):Tr ((List Time)×Int) Empty Empty Empty Empty:=.k (Vat (a0.1,a0.2)) λu1=>.w [Aav (a0.1,a0.2)] (.k (ua (a0.1,u1.2) 12) λu2=>.w [Eb (a0.1,u1.2) 12] (.c (cmp .eql u2.1 0) (.k (hak (a0.1,u2.2)) λu4=>.w [iai (a0.1,u2.2),lim (aa .time u1.1) (aa .time [u4.1])] (.l (.r ((u1.1++[u4.1]),u4.2))))
 (.l (.r (u1.1,u2.2)))))
def oax:=λa0=>(Bav a0).val
def pax:=λa0=>(Bav a0).ob
def iaA:=λa0=>da.mk (oax a0) (pax a0) [] [(0,.R a0.1 a0.2)] (gaA a0.1) nE nE nE nE
theorem jaA(G:Gd zay){fr a0}:haA fr (iaA a0):=oa G [(0,[0]),(1,[0,3]),(2,[0,3,8]),(3,[0,2]),(4,[0,2])] (Bav a0)
def Cav(a0:(LB×Int)):(List Time)×Int:=ocR (oax a0)
def Dav(a0:(LB×Int)):Prop:=pax a0
def qax:Spec:=⟨[.rdr],.one (.acc true) (.lst .time),true,λx=>Cav x.1,λx=>Dav x.1⟩
theorem kaA(G:Gd zay):Con Tryz.prog 58 qax:=Vf (pts:=[.rdr]) (F:=F58) G (λx=>x.1.1) λ_ _=>jaA G
def Aay:SP:=[(35,PD),(39,lF),(58,qax)]
abbrev F31:Fnn:=⟨[.tmp 2,.tmp 3],.tup [(false,(.lst .row)),(false,(.lst .time))],none,[]⟩
abbrev laA:LR×(List Time)×Unit->RV:=rvF F31
abbrev maA:=@OkF Tryz.prog tt Tryz.f31 F31 (LR×(List Time)×Unit)
def Eav(a0:LB):Tr (LR×(List Time)×Unit) Empty Empty Empty Empty:=.k (Pg a0) λu1=>.w [fm a0] (.k (Dd (u1.1,u1.2)) λu2=>.w [ci (u1.1,u1.2),Dav (u1.1,u2.2)] (.l (.r (u2.1,((Cav (u1.1,u2.2)).1,())))))
def rax:=λa0=>(Eav a0).val
def sax:=λa0=>(Eav a0).ob
def naA:=λa0=>da.mk (rax a0) (sax a0) [] [(0,.S .byte a0)] laA nE nE nE nE
theorem oaA(G:Gd Aay){fr a0}:maA fr (naA a0):=oa G [(0,[0]),(1,[4]),(2,[2,3])] (Eav a0)
def Fav(a0:LB):LR×(List Time)×Unit:=ocR (rax a0)
def Gav(a0:LB):Prop:=sax a0
def tax:Spec:=⟨[(.lst .byte)],.tup [(false,(.lst .row)),(false,(.lst .time))],false,λx=>(Fav x.1,0),λx=>Gav x.1⟩
theorem paA(G:Gd Aay):Con Tryz.prog 31 tax:=Ba (pts:=[(.lst .byte)]) (F:=F31) G λ_ _=>oaA G
def Aau:SP:=[(24,Yi)]
abbrev F32:Fnn:=⟨[.tmp 2],.one .fr .bool,none,[]⟩
abbrev uax:Bool->RV:=rvF F32
abbrev Hav:=@OkF Tryz.prog tt Tryz.f32 F32 Bool
def eau(x2:List Time)(s7:Int):Tr Bool Int Unit Empty Empty:=.c (cmp .lss s7 (aa .time x2)) (.k (qe (rd .time x2 s7)) λu9=>.w [inb s7 (aa .time x2),Qg (rd .time x2 s7),((cmp .gtr s7 0)&&((!(!u9))&&true))=true->inb (ar .sub .i64 s7 1) (aa .time x2),((cmp .gtr s7 0)&&((!(!u9))&&true))=true->inb s7 (aa .time x2),((!(cmp .geq (rd .time x2 (ar .sub .i64 s7 1)).A (rd .time x2 s7).A))&&((cmp .gtr s7 0)&&((!(!u9))&&true)))=true->inb (ar .sub .i64 s7 1) (aa .time x2),((!(cmp .geq (rd .time x2 (ar .sub .i64 s7 1)).A (rd .time x2 s7).A))&&((cmp .gtr s7 0)&&((!(!u9))&&true)))=true->inb s7 (aa .time x2)] (.c (cond (!u9) true (cond (cmp .gtr s7 0) (cond (cmp .geq (rd .time x2 (ar .sub .i64 s7 1)).A (rd .time x2 s7).A) true (cmp .leq (rd .time x2 (ar .sub .i64 s7 1)).B (rd .time x2 s7).B)) false)) (.l (.r false))
 (.l (.n (ar .add .i64 s7 1)))))
 (.l (.x ()))
def Wat:=λx2 s7=>(eau x2 s7).val
def fau:=λx2 s7=>(eau x2 s7).ob
def vax:=λx2 s7=>Ka (Wat x2 s7) (fau x2 s7) [0,0,1,0,1] (λq=>[(0,.S .time x2),(3,.I q)]) s7 uax (λ_=>(0,[])) nE nE
theorem qaA(G:Gd Aau){fr x2 s7}:Hav fr (vax x2 s7):=oa G [(2,[0,3,7]),(3,[0,3]),(4,[0,3,47]),(5,[2])] (eau x2 s7)
def Bay:=λx2=>lpV (λs:Int=>ca (Wat x2 s)) 0
def Cay:=λx2=>LpT (λs:Int=>ca (Wat x2 s)) (λs=>fau x2 s) 0
def Iav:=λx2=>lpS (vax x2 0) (Bay x2) (Cay x2)
theorem raA(G:Gd Aau){fr x2}:Hav fr (Iav x2):=Na (λs:Int=>vax x2 s) 0 λ_=>qaA G
def Jav(x1:List Time):Tr Bool Unit Empty Empty Empty:=.s (Iav x1) nE (λ_=>.l (.n ())) nE nE
def Day:=λx1=>(Jav x1).val
def Eay:=λx1=>(Jav x1).ob
def Kav:=λx1=>da.mk (Day x1) (Eay x1) [0,1] [(0,.S .time x1)] uax (λ_=>[]) nE nE nE
theorem saA(G:Gd Aau){fr x1}:Hav fr (Kav x1):=ga G [([0,1,0,1],λe=>⟨Iav (gL .time e 0 0)⟩)] ⟨λ_=>⟨rfl,raA G⟩,trivial⟩ [(1,[0,3])] (Jav x1)
def Lav(a0:List Time):Tr Bool Empty Empty Empty Empty:=.s (Kav a0) (λ_=>.l (.r true)) nE nE nE
def wax:=λa0=>(Lav a0).val
def xax:=λa0=>(Lav a0).ob
def taA:=λa0=>da.mk (wax a0) (xax a0) [] [(0,.S .time a0)] uax nE nE nE nE
theorem uaA(G:Gd Aau){fr a0}:Hav fr (taA a0):=ga G [([0,1],λe=>⟨Kav (gL .time e 0 0)⟩)] ⟨λ_=>⟨rfl,saA G⟩,trivial⟩ [(0,[0]),(6,[2])] (Lav a0)
def Bau(a0:List Time):Bool:=ocR (wax a0)
def Cau(a0:List Time):Prop:=xax a0
def Mav:Spec:=⟨[(.lst .time)],.one .fr .bool,false,λx=>(Bau x.1,0),λx=>Cau x.1⟩
theorem vaA(G:Gd Aau):Con Tryz.prog 32 Mav:=Ba (pts:=[(.lst .time)]) (F:=F32) G λ_ _=>uaA G
def Dau:SP:=[(49,vo)]
abbrev F87:Fnn:=⟨[.tmp 2],.one .fr .bool,none,[]⟩
abbrev yax:Bool->RV:=rvF F87
abbrev Nav:=@OkF Tryz.prog tt Tryz.f87 F87 Bool
def gau(x2:List Time)(x3 s8:Int):Tr Bool Int Unit Empty Empty:=.c (cmp .lss s8 x3) (.w [inb s8 (aa .time x2)] (.k (Hf (rd .time x2 s8)) λu10=>.w [ji (rd .time x2 s8),((cmp .gtr s8 0)&&((!(!u10))&&true))=true->inb (ar .sub .i64 s8 1) (aa .time x2),((!(cmp .geq (rd .time x2 (ar .sub .i64 s8 1)).A (rd .time x2 s8).A))&&((cmp .gtr s8 0)&&((!(!u10))&&true)))=true->inb (ar .sub .i64 s8 1) (aa .time x2)] (.c (cond (!u10) true (cond (cmp .gtr s8 0) (cond (cmp .geq (rd .time x2 (ar .sub .i64 s8 1)).A (rd .time x2 s8).A) true (cmp .leq (rd .time x2 (ar .sub .i64 s8 1)).B (rd .time x2 s8).B)) false)) (.l (.r false))
 (.l (.n (ar .add .i64 s8 1))))))
 (.l (.x ()))
def Xat:=λx2 x3 s8=>(gau x2 x3 s8).val
def hau:=λx2 x3 s8=>(gau x2 x3 s8).ob
def zax:=λx2 x3 s8=>Ka (Xat x2 x3 s8) (hau x2 x3 s8) [0,0,1,0,1] (λq=>[(0,.S .time x2),(5,.S .time x2),(6,.I x3),(7,.I q)]) s8 yax (λ_=>(0,[])) nE nE
theorem waA(G:Gd Dau){fr x2 x3 s8}:Nav fr (zax x2 x3 s8):=oa G [(2,[0,5,6,7,8]),(3,[0,3,4,5,6,7]),(4,[0,5,6,7,40]),(5,[2]),(6,[0,5,6,7])] (gau x2 x3 s8)
def Fay:=λx2 x3=>lpV (λs:Int=>ca (Xat x2 x3 s)) 0
def Gay:=λx2 x3=>LpT (λs:Int=>ca (Xat x2 x3 s)) (λs=>hau x2 x3 s) 0
def Oav:=λx2 x3=>lpS (zax x2 x3 0) (Fay x2 x3) (Gay x2 x3)
theorem xaA(G:Gd Dau){fr x2 x3}:Nav fr (Oav x2 x3):=Na (λs:Int=>zax x2 x3 s) 0 λ_=>waA G
def Pav(x1:List Time):Tr Bool Unit Empty Empty Empty:=.s (Oav x1 (aa .time x1)) nE (λ_=>.l (.n ())) nE nE
def Hay:=λx1=>(Pav x1).val
def Iay:=λx1=>(Pav x1).ob
def Qav:=λx1=>da.mk (Hay x1) (Iay x1) [0,1] [(0,.S .time x1)] yax (λ_=>[]) nE nE nE
theorem yaA(G:Gd Dau){fr x1}:Nav fr (Qav x1):=ga G [([0,1,0,1],λe=>⟨Oav (gL .time e 0 0) (gI e 6 0)⟩)] ⟨λ_=>⟨rfl,xaA G⟩,trivial⟩ [(1,[0,5,6,7])] (Pav x1)
def Rav(a0:List Time):Tr Bool Empty Empty Empty Empty:=.s (Qav a0) (λ_=>.l (.r true)) nE nE nE
def Aax:=λa0=>(Rav a0).val
def Bax:=λa0=>(Rav a0).ob
def zaA:=λa0=>da.mk (Aax a0) (Bax a0) [] [(0,.S .time a0)] yax nE nE nE nE
theorem AaA(G:Gd Dau){fr a0}:Nav fr (zaA a0):=ga G [([0,1],λe=>⟨Qav (gL .time e 0 0)⟩)] ⟨λ_=>⟨rfl,yaA G⟩,trivial⟩ [(0,[0]),(7,[2])] (Rav a0)
def Sav(a0:List Time):Bool:=ocR (Aax a0)
def Tav(a0:List Time):Prop:=Bax a0
def Cax:Spec:=⟨[(.lst .time)],.one .fr .bool,false,λx=>(Sav x.1,0),λx=>Tav x.1⟩
theorem BaA(G:Gd Dau):Con Tryz.prog 87 Cax:=Ba (pts:=[(.lst .time)]) (F:=F87) G λ_ _=>AaA G
def Jay:SP:=[(49,vo)]
abbrev Dax:Fnn:=⟨[.cell 4 38],.one .fr (.st .time),none,[]⟩
abbrev CaA:Time->RV:=rvF Dax
abbrev DaA:=@OkF Tryz.prog tt Tryz.f122 Dax Time
def EaA:=λa0 a1=>da.mk (Vae a0 a1) (Wae a0 a1) [] [(0,.agg true [.i a0.A,.i a0.B]),(1,.agg true [.i a1.A,.i a1.B])] CaA nE nE nE nE
theorem FaA(G:Gd Jay){fr a0 a1}:DaA fr (EaA a0 a1):=oa G [(0,[2,3,4]),(1,[2,3,4,12]),(2,[4]),(3,[4])] (jV a0 a1)
def Eax:Spec:=⟨[(.st .time),(.st .time)],.one .fr (.st .time),false,λx=>(Xae x.1 x.2.1,0),λx=>Yae x.1 x.2.1⟩
theorem GaA(G:Gd Jay):Con Tryz.prog 122 Eax:=Ba (pts:=[(.st .time),(.st .time)]) (F:=Dax) G λ_ _=>FaA G
def Eau:SP:=[(25,Lo),(122,Eax)]
abbrev Uav:=@OkF Tryz.prog tt Tryz.f110 Zae Time
theorem HaA(G:Gd Eau){fr x6 x7 x8 x9 s16 s17 s18}:Uav fr (aaf x6 x7 x8 x9 s16 s17 s18):=oa G [(5,[3,4,5,17,18,19,20]),(6,[3,4,5,7,17,18,19]),(7,[3,4,5,17,18,19]),(8,[3,4,5,17,18,19])] (lV x6 x7 x8 x9 s16 s17 s18)
theorem IaA(G:Gd Eau){fr x6 x7 x8 x9}:Uav fr (daf x6 x7 x8 x9):=Na (λs:Int×Int×Int=>aaf x6 x7 x8 x9 s.1 s.2.1 s.2.2) (x7.A,x7.B,0) λ_=>HaA G
theorem JaA(G:Gd Eau){fr x3 x4 x5}:Uav fr (gaf x3 x4 x5):=ga G [([0,1,0,1,1,1],λe=>⟨daf (Kd e 3) (Kd e 5) (gL .time e 17 0) (gI e 18 0)⟩)] ⟨λ_=>⟨rfl,IaA G⟩,trivial⟩ [(4,[3,4,5,17,18,19])] (nV x3 x4 x5)
def KaA:=λa0 a1=>da.mk (haf a0 a1) (iaf a0 a1) [] [(0,.S .time a0),(1,.agg true [.i a1.A,.i a1.B])] kV nE nE nE nE
theorem LaA(G:Gd Eau){fr a0 a1}:Uav fr (KaA a0 a1):=ga G [([0,1,1,1],λe=>⟨gaf (gL .time e 0 0) (Kd e 3) (Kd e 5)⟩)] ⟨λ_=>⟨rfl,JaA G⟩,trivial⟩ [(0,[0,3,4]),(1,[0,3,4,10]),(2,[4]),(3,[0,3,4,5]),(9,[4])] (oV a0 a1)
theorem MaA(G:Gd Eau):Con Tryz.prog 110 jaf:=Ba (pts:=[(.lst .time),(.st .time)]) (F:=Zae) G λ_ _=>LaA G
def Kay:SP:=[(45,Bo),(87,Cax),(88,laf),(47,qk)]
abbrev F59:Fnn:=⟨[.tmp 4],.one .sh (.lst .row),none,[]⟩
abbrev NaA:LR->RV:=rvF F59
abbrev OaA:=@OkF Tryz.prog tt Tryz.f59 F59 LR
def Vav(a0:LR)(a1:List Time):Tr LR Empty Empty Empty Empty:=.w [Ao a0,((!(!(zo a0)))&&true)=true->(Tav a1)] (.c (cond (!(zo a0)) true (!(Sav a1))) (.l (.r []))
 (.k (kaf a0 a1) λu4=>.w [qV a0 a1,ah u4] (.l (.r (re u4).1))))
def Fax:=λa0 a1=>(Vav a0 a1).val
def Gax:=λa0 a1=>(Vav a0 a1).ob
def PaA:=λa0 a1=>da.mk (Fax a0 a1) (Gax a0 a1) [] [(0,.S .row a0),(1,.S .time a1)] NaA nE nE nE nE
theorem QaA(G:Gd Kay){fr a0 a1}:OaA fr (PaA a0 a1):=oa G [(0,[0,1]),(1,[0,1,14]),(2,[4]),(3,[5]),(4,[4])] (Vav a0 a1)
def Wav(a0:LR)(a1:List Time):LR:=ocR (Fax a0 a1)
def Xav(a0:LR)(a1:List Time):Prop:=Gax a0 a1
def Hax:Spec:=⟨[(.lst .row),(.lst .time)],.one .sh (.lst .row),false,λx=>(Wav x.1 x.2.1,0),λx=>Xav x.1 x.2.1⟩
theorem RaA(G:Gd Kay):Con Tryz.prog 59 Hax:=Ba (pts:=[(.lst .row),(.lst .time)]) (F:=F59) G λ_ _=>QaA G
def Fau:SP:=[(59,Hax)]
abbrev F33:Fnn:=⟨[.tmp 4],.one (.acc false) (.lst .lrow),none,[]⟩
abbrev Iax:List LR->RV:=rvF F33
abbrev Yav:=@OkF Tryz.prog tt Tryz.f33 F33 (List LR)
def Gau(x3:List LR)(x4:List Time)(s9:List LR)(s10:Int):Tr (List LR) ((List LR)×Int) ((List LR)) Empty Empty:=.c (cmp .lss s10 (aa .lrow x3)) (.k (Wav (rd .lrow x3 s10) x4) λu12=>.w [inb s10 (aa .lrow x3),Xav (rd .lrow x3 s10) x4,lim (aa .lrow s9) (aa .lrow [u12])] (.l (.n ((s9++[u12]),(ar .add .i64 s10 1)))))
 (.l (.x s9))
def iau:=λx3 x4 s9 s10=>(Gau x3 x4 s9 s10).val
def Hau:=λx3 x4 s9 s10=>(Gau x3 x4 s9 s10).ob
def Jax:=λx3 x4 s9 s10=>Ka (iau x3 x4 s9 s10) (Hau x3 x4 s9 s10) [0,0,1,0,1,1] (λq=>[(0,.S .lrow x3),(1,.S .time x4),(5,.v (.acc false) (.lst .lrow q.1)),(6,.I q.2)]) (s9,s10) Iax (λq=>(0,[(5,.v (.acc false) (.lst .lrow q))])) nE nE
theorem SaA(G:Gd Fau){fr x3 x4 s9 s10}:Yav fr (Jax x3 x4 s9 s10):=oa G [(3,[0,1,5,6,11]),(4,[0,1,5,6]),(5,[0,1,5,6])] (Gau x3 x4 s9 s10)
def Lay:=λx3 x4=>lpV (λs:(List LR)×Int=>ca (iau x3 x4 s.1 s.2)) ([],0)
def May:=λx3 x4=>LpT (λs:(List LR)×Int=>ca (iau x3 x4 s.1 s.2)) (λs=>Hau x3 x4 s.1 s.2) ([],0)
def Zav:=λx3 x4=>lpS (Jax x3 x4 [] 0) (Lay x3 x4) (May x3 x4)
theorem TaA(G:Gd Fau){fr x3 x4}:Yav fr (Zav x3 x4):=Na (λs:(List LR)×Int=>Jax x3 x4 s.1 s.2) ([],0) λ_=>SaA G
def aaw(x1:List LR)(x2:List Time):Tr (List LR) ((List LR)) Empty Empty Empty:=.s (Zav x1 x2) nE (λq20=>.l (.n q20)) nE nE
def Nay:=λx1 x2=>(aaw x1 x2).val
def Oay:=λx1 x2=>(aaw x1 x2).ob
def baw:=λx1 x2=>da.mk (Nay x1 x2) (Oay x1 x2) [0,1,1] [(0,.S .lrow x1),(1,.S .time x2),(5,.A .lrow [])] Iax (λq=>[(5,.v (.acc false) (.lst .lrow q))]) nE nE nE
theorem UaA(G:Gd Fau){fr x1 x2}:Yav fr (baw x1 x2):=ga G [([0,1,0,1,1],λe=>⟨Zav (gL .lrow e 0 0) (gL .time e 1 0)⟩)] ⟨λ_=>⟨rfl,TaA G⟩,trivial⟩ [(2,[0,1,5,6])] (aaw x1 x2)
def caw(a0:List LR)(a1:List Time):Tr (List LR) Empty Empty Empty Empty:=.s (baw a0 a1) (λq23=>.l (.r q23)) nE nE nE
def Kax:=λa0 a1=>(caw a0 a1).val
def Lax:=λa0 a1=>(caw a0 a1).ob
def VaA:=λa0 a1=>da.mk (Kax a0 a1) (Lax a0 a1) [] [(0,.S .lrow a0),(1,.S .time a1)] Iax nE nE nE nE
theorem WaA(G:Gd Fau){fr a0 a1}:Yav fr (VaA a0 a1):=ga G [([0,1,1],λe=>⟨baw (gL .lrow e 0 0) (gL .time e 1 0)⟩)] ⟨λ_=>⟨rfl,UaA G⟩,trivial⟩ [(0,[0,1]),(1,[0,1,5]),(6,[4])] (caw a0 a1)
def daw(a0:List LR)(a1:List Time):List LR:=ocR (Kax a0 a1)
def Iau(a0:List LR)(a1:List Time):Prop:=Lax a0 a1
def Max:Spec:=⟨[(.lst .lrow),(.lst .time)],.one (.acc false) (.lst .lrow),false,λx=>(daw x.1 x.2.1,0),λx=>Iau x.1 x.2.1⟩
theorem XaA(G:Gd Fau):Con Tryz.prog 33 Max:=Ba (pts:=[(.lst .lrow),(.lst .time)]) (F:=F33) G λ_ _=>WaA G
def Jau:SP:=[(32,Mav),(89,Dv)]
abbrev F60:Fnn:=⟨[.tmp 4],.one .fr .bool,none,[]⟩
abbrev Nax:Bool->RV:=rvF F60
abbrev eaw:=@OkF Tryz.prog tt Tryz.f60 F60 Bool
def Kau(x5:List Time)(x6:Time)(s11:Int):Tr Bool Int Unit Empty Empty:=.c (cmp .lss s11 (aa .time x5)) (.w [inb s11 (aa .time x5),Cv (rd .time x5 s11) x6] (.c (Bv (rd .time x5 s11) x6) (.l (.r true))
 (.l (.n (ar .add .i64 s11 1)))))
 (.l (.x ()))
def jau:=λx5 x6 s11=>(Kau x5 x6 s11).val
def Lau:=λx5 x6 s11=>(Kau x5 x6 s11).ob
def Oax:=λx5 x6 s11=>Ka (jau x5 x6 s11) (Lau x5 x6 s11) [0,0,1,0,1,1] (λq=>[(0,.S .time x5),(3,.B [x6.A,x6.B]),(5,.I q)]) s11 Nax (λ_=>(0,[])) nE nE
theorem YaA(G:Gd Jau){fr x5 x6 s11}:eaw fr (Oax x5 x6 s11):=oa G [(4,[0,3,5,12]),(5,[0,3,5]),(6,[0,3,5,20]),(7,[4])] (Kau x5 x6 s11)
def Pay:=λx5 x6=>lpV (λs:Int=>ca (jau x5 x6 s)) 0
def Qay:=λx5 x6=>LpT (λs:Int=>ca (jau x5 x6 s)) (λs=>Lau x5 x6 s) 0
def faw:=λx5 x6=>lpS (Oax x5 x6 0) (Pay x5 x6) (Qay x5 x6)
theorem ZaA(G:Gd Jau){fr x5 x6}:eaw fr (faw x5 x6):=Na (λs:Int=>Oax x5 x6 s) 0 λ_=>YaA G
def gaw(x3:List Time)(x4:Time):Tr Bool Unit Empty Empty Empty:=.s (faw x3 x4) nE (λ_=>.l (.n ())) nE nE
def Ray:=λx3 x4=>(gaw x3 x4).val
def Say:=λx3 x4=>(gaw x3 x4).ob
def haw:=λx3 x4=>da.mk (Ray x3 x4) (Say x3 x4) [0,1,1] [(0,.S .time x3),(3,.B [x4.A,x4.B])] Nax (λ_=>[]) nE nE nE
theorem aaB(G:Gd Jau){fr x3 x4}:eaw fr (haw x3 x4):=ga G [([0,1,0,1,1],λe=>⟨faw (gL .time e 0 0) (Kd e 3)⟩)] ⟨λ_=>⟨rfl,ZaA G⟩,trivial⟩ [(3,[0,3,5])] (gaw x3 x4)
def iaw(a0:List Time)(a1:Time):Tr Bool Empty Empty Empty Empty:=.w [Cau a0] (.c (!(Bau a0)) (.l (.r false))
 (.s (haw a0 a1) (λ_=>.l (.r false)) nE nE nE))
def Pax:=λa0 a1=>(iaw a0 a1).val
def Qax:=λa0 a1=>(iaw a0 a1).ob
def baB:=λa0 a1=>da.mk (Pax a0 a1) (Qax a0 a1) [] [(0,.S .time a0),(1,.agg true [.i a1.A,.i a1.B])] Nax nE nE nE nE
theorem caB(G:Gd Jau){fr a0 a1}:eaw fr (baB a0 a1):=ga G [([0,1,1],λe=>⟨haw (gL .time e 0 0) (Kd e 3)⟩)] ⟨λ_=>⟨rfl,aaB G⟩,trivial⟩ [(0,[0,3]),(1,[0,3,8]),(2,[4]),(8,[4])] (iaw a0 a1)
def jaw(a0:List Time)(a1:Time):Bool:=ocR (Pax a0 a1)
def kaw(a0:List Time)(a1:Time):Prop:=Qax a0 a1
def Rax:Spec:=⟨[(.lst .time),(.st .time)],.one .fr .bool,false,λx=>(jaw x.1 x.2.1,0),λx=>kaw x.1 x.2.1⟩
theorem daB(G:Gd Jau):Con Tryz.prog 60 Rax:=Ba (pts:=[(.lst .time),(.st .time)]) (F:=F60) G λ_ _=>caB G
def kau:SP:=[(27,vaj),(60,Rax),(20,Zai),(21,faj)]
abbrev F34:Fnn:=⟨[.tmp 6],.one .fr .bool,none,[]⟩
abbrev maw:Bool->RV:=rvF F34
abbrev Mau:=@OkF Tryz.prog tt Tryz.f34 F34 Bool
def naw(x27 x28:LR)(x29 x30:List Time)(x31:Int):Tr Bool Unit Empty Empty Empty:=.w [((cmp .gtr (aa .time x29) 0)&&true)=true->inb x31 (aa .time x30),((cmp .gtr (aa .time x29) 0)&&true)=true->(kaw x29 (rd .time x30 x31))] (.c (cond (cmp .gtr (aa .time x29) 0) (!(jaw x29 (rd .time x30 x31))) false) (.l (.n ()))
 (.k (Lah x27 (rd .time x30 x31)) λu34=>.k (Lah x28 (rd .time x30 x31)) λu35=>.w [inb x31 (aa .time x30),Mah x27 (rd .time x30 x31),inb x31 (aa .time x30),Mah x28 (rd .time x30 x31),Hah u34 u35] (.c (!(Gah u34 u35)) (.l (.r false))
 (.l (.n ())))))
def Sax:=λx27 x28 x29 x30 x31=>(naw x27 x28 x29 x30 x31).val
def Tax:=λx27 x28 x29 x30 x31=>(naw x27 x28 x29 x30 x31).ob
def oaw:=λx27 x28 x29 x30 x31=>da.mk (Sax x27 x28 x29 x30 x31) (Tax x27 x28 x29 x30 x31) [0,1,0,0,1,0,1,1] [(0,.S .row x27),(1,.S .row x28),(2,.S .time x29),(7,.A .time x30),(8,.I x31)] maw (λ_=>[(0,.S .row x27),(1,.S .row x28),(2,.S .time x29),(7,.A .time x30),(8,.I x31)]) nE nE nE
theorem eaB(G:Gd kau){fr x27 x28 x29 x30 x31}:Mau fr (oaw x27 x28 x29 x30 x31):=oa G [(5,[0,1,2,7,8,27]),(6,[0,1,2,7,8,41]),(7,[6])] (naw x27 x28 x29 x30 x31)
def Nau(x5 x6:LR)(x7 x8:List Time)(s25:Int):Tr Bool Int Unit Empty Empty:=.c (cmp .lss s25 (aa .time x8)) (.s (oaw x5 x6 x7 x8 s25) (λ_=>.l (.n (ar .add .i64 s25 1))) nE nE nE)
 (.l (.x ()))
def lau:=λx5 x6 x7 x8 s25=>(Nau x5 x6 x7 x8 s25).val
def Oau:=λx5 x6 x7 x8 s25=>(Nau x5 x6 x7 x8 s25).ob
def Uax:=λx5 x6 x7 x8 s25=>Ka (lau x5 x6 x7 x8 s25) (Oau x5 x6 x7 x8 s25) [0,0,1,0,1,1] (λq=>[(0,.S .row x5),(1,.S .row x6),(2,.S .time x7),(7,.A .time x8),(8,.I q)]) s25 maw (λ_=>(0,[])) nE nE
theorem faB(G:Gd kau){fr x5 x6 x7 x8 s25}:Mau fr (Uax x5 x6 x7 x8 s25):=ga G [([0,1,0,0,1,0,1,1],λe=>⟨oaw (gL .row e 0 0) (gL .row e 1 0) (gL .time e 2 0) (gL .time e 7 0) (gI e 8 0)⟩)] ⟨λ_=>⟨rfl,eaB G⟩,trivial⟩ [(3,[0,1,2,7,8,13]),(4,[0,1,2,7,8])] (Nau x5 x6 x7 x8 s25)
def Tay:=λx5 x6 x7 x8=>lpV (λs:Int=>ca (lau x5 x6 x7 x8 s)) 0
def Uay:=λx5 x6 x7 x8=>LpT (λs:Int=>ca (lau x5 x6 x7 x8 s)) (λs=>Oau x5 x6 x7 x8 s) 0
def paw:=λx5 x6 x7 x8=>lpS (Uax x5 x6 x7 x8 0) (Tay x5 x6 x7 x8) (Uay x5 x6 x7 x8)
theorem gaB(G:Gd kau){fr x5 x6 x7 x8}:Mau fr (paw x5 x6 x7 x8):=Na (λs:Int=>Uax x5 x6 x7 x8 s) 0 λ_=>faB G
def qaw(x1 x2:LR)(x3 x4:List Time):Tr Bool Unit Empty Empty Empty:=.s (paw x1 x2 x3 x4) nE (λ_=>.l (.n ())) nE nE
def Vay:=λx1 x2 x3 x4=>(qaw x1 x2 x3 x4).val
def Way:=λx1 x2 x3 x4=>(qaw x1 x2 x3 x4).ob
def taw:=λx1 x2 x3 x4=>da.mk (Vay x1 x2 x3 x4) (Way x1 x2 x3 x4) [0,1,1] [(0,.S .row x1),(1,.S .row x2),(2,.S .time x3),(7,.A .time x4)] maw (λ_=>[]) nE nE nE
theorem haB(G:Gd kau){fr x1 x2 x3 x4}:Mau fr (taw x1 x2 x3 x4):=ga G [([0,1,0,1,1],λe=>⟨paw (gL .row e 0 0) (gL .row e 1 0) (gL .time e 2 0) (gL .time e 7 0)⟩)] ⟨λ_=>⟨rfl,gaB G⟩,trivial⟩ [(2,[0,1,2,7,8])] (qaw x1 x2 x3 x4)
def uaw(a0 a1:LR)(a2:List Time):Tr Bool Empty Empty Empty Empty:=.w [xai] (.s (taw a0 a1 a2 wai) (λ_=>.l (.r true)) nE nE nE)
def Vax:=λa0 a1 a2=>(uaw a0 a1 a2).val
def Wax:=λa0 a1 a2=>(uaw a0 a1 a2).ob
def iaB:=λa0 a1 a2=>da.mk (Vax a0 a1 a2) (Wax a0 a1 a2) [] [(0,.S .row a0),(1,.S .row a1),(2,.S .time a2)] maw nE nE nE nE
theorem jaB(G:Gd kau){fr a0 a1 a2}:Mau fr (iaB a0 a1 a2):=ga G [([0,1,1],λe=>⟨taw (gL .row e 0 0) (gL .row e 1 0) (gL .time e 2 0) (gL .time e 7 0)⟩)] ⟨λ_=>⟨rfl,haB G⟩,trivial⟩ [(0,[0,1,2]),(1,[0,1,2,7]),(8,[6])] (uaw a0 a1 a2)
def vaw(a0:LR)(a1:LR)(a2:List Time):Bool:=ocR (Vax a0 a1 a2)
def waw(a0:LR)(a1:LR)(a2:List Time):Prop:=Wax a0 a1 a2
def Xax:Spec:=⟨[(.lst .row),(.lst .row),(.lst .time)],.one .fr .bool,false,λx=>(vaw x.1 x.2.1 x.2.2.1,0),λx=>waw x.1 x.2.1 x.2.2.1⟩
theorem kaB(G:Gd kau):Con Tryz.prog 34 Xax:=Ba (pts:=[(.lst .row),(.lst .row),(.lst .time)]) (F:=F34) G λ_ _=>jaB G
def Xay:SP:=[(12,Nt),(31,tax),(13,mH),(14,HJ),(15,NJ),(32,Mav),(33,Max),(34,Xax)]
abbrev F11:Fnn:=⟨[.tmp 4],.one .fr .bool,none,[]⟩
abbrev laB:Bool->RV:=rvF F11
abbrev maB:=@OkF Tryz.prog tt Tryz.f11 F11 Bool
def Pau(a0 a1:LB):Tr Bool Empty Empty Empty Empty:=.c (cond (cmp .gtr (aa .byte a0) 1048576) true (cmp .gtr (aa .byte a1) 1048576)) (.l (.r true))
 (.k (Wg a0) λu2=>.w [nj a0] (.k (Fav a1) λu3=>.w [Gav a1] (.k (mo (Plan.mk u2.1.Kind u2.1.Num u2.1.Kids) u2.2.1) λu4=>.w [po (Plan.mk u2.1.Kind u2.1.Num u2.1.Kids) u2.2.1] (.k (Jp (Plan.mk u2.1.Kind u2.1.Num u2.1.Kids) u2.2.1) λu5=>.w [Kp (Plan.mk u2.1.Kind u2.1.Num u2.1.Kids) u2.2.1] (.k (rA u5.1 u4.1) λu6=>.w [((!(!(u5.2.1 == u4.2.1)))&&true)=true->(sA u5.1 u4.1),((!(cond (cond (!(u5.2.1 == u4.2.1)) true (!u6)) true (!u5.2.1)))&&true)=true->(Cau u3.2.1)] (.c (cond (cond (cond (!(u5.2.1 == u4.2.1)) true (!u6)) true (!u5.2.1)) true (!(Bau u3.2.1))) (.w [((u5.2.1 == u4.2.1)&&true)=true->(sA u5.1 u4.1)] (.l (.r (cond (u5.2.1 == u4.2.1) u6 false))))
 (.k (daw u2.2.1 u3.2.1) λu9=>.k (Jp (Plan.mk u2.1.Kind u2.1.Num u2.1.Kids) u9) λu10=>.w [Iau u2.2.1 u3.2.1,Kp (Plan.mk u2.1.Kind u2.1.Num u2.1.Kids) u9] (.k (mo (Plan.mk u2.1.Kind u2.1.Num u2.1.Kids) u9) λu11=>.w [Iau u2.2.1 u3.2.1,po (Plan.mk u2.1.Kind u2.1.Num u2.1.Kids) u9] (.w [((!(!u10.2.1))&&((u10.2.1 == u11.2.1)&&true))=true->(waw u5.1 u10.1 u3.2.1)] (.l (.r (cond (u10.2.1 == u11.2.1) (cond (!u10.2.1) true (vaw u5.1 u10.1 u3.2.1)) false))))))))))))
def xaw:=λa0 a1=>(Pau a0 a1).val
def yaw:=λa0 a1=>(Pau a0 a1).ob
def naB:=λa0 a1=>da.mk (xaw a0 a1) (yaw a0 a1) [] [(0,.S .byte a0),(1,.S .byte a1)] laB nE nE nE nE
theorem oaB(G:Gd Xay){fr a0 a1}:maB fr (naB a0 a1):=oa G [(0,[0,1]),(1,[0,1,24]),(2,[4]),(3,[1,5,6]),(4,[5,6,8]),(5,[5,6,8,9,10]),(6,[5,6,8,9,10,11,12]),(7,[5,6,8,9,10,11,12,64]),(8,[4]),(9,[5,6,8,11,13,14]),(10,[8,11,13,14,16]),(11,[4])] (Pau a0 a1)
def zaw(a0:LB)(a1:LB):Bool:=ocR (xaw a0 a1)
def Aaw(a0:LB)(a1:LB):Prop:=yaw a0 a1
def Yay:Spec:=⟨[(.lst .byte),(.lst .byte)],.one .fr .bool,false,λx=>(zaw x.1 x.2.1,0),λx=>Aaw x.1 x.2.1⟩
theorem paB(G:Gd Xay):Con Tryz.prog 11 Yay:=Ba (pts:=[(.lst .byte),(.lst .byte)]) (F:=F11) G λ_ _=>oaB G
end
end Go.Proofs.YthfkpijcajdnhaaGreat

namespace Go.Proofs.YthfkpijcajdnhaaGreat
namespace Dp
open Go
set_option maxRecDepth 100000
section
variable {Q:Exit->Act->World->Prop} {B:Nat} {W0:World} {F0:Fz} {a:Act} {w:World} {p:Plan} {l:List LR}
end
end Dp
end Go.Proofs.YthfkpijcajdnhaaGreat

namespace Go.Proofs.YthfkpijcajdnhaaGreat
namespace Da
open Go
set_option maxRecDepth 100000
section
variable {Q:Exit->Act->World->Prop} {B:Nat} {W0:World} {F0:Fz} {a:Act} {w:World} {f:List Time} {l:LR} {v:Value}
end
end Da
end Go.Proofs.YthfkpijcajdnhaaGreat

namespace Go.Proofs.YthfkpijcajdnhaaGreat
open Go
theorem Bah:∀l,0<=Sl l
 |[]=>Int.le_refl _
 |q::r=>by have:=Bah r;simp only[Sl];split<;>omega
theorem Laj:∀l k,sumT l k<=Sl l/\-Sl l<=sumT l k
 |[],k=>by simp[sumT,Sl]
 |q::r,k=>by
  have:=Laj r k;simp only[Sl,sumT];split<;>split<;>omega
theorem Hak{l:List (List Int×Int)}(h:Sl l<=1000000000000000)(k:List Int):Le l k=sumT l k:=by
 suffices ∀ (l:List (List Int×Int)) (s B:Int),B+Sl l<=1000000000000000->s<=B/\-B<=s->l.foldl (λs q=>if q.1=k then ar .add .i64 s q.2 else s) s=s+sumT l k by
  have:=this l 0 0 (by omega) (by omega);unfold Le;rw[this,Int.zero_add]
 intro l
 induction l with
 |nil=>intro s B _ _;simp[sumT]
 |cons q r ih=>
  intro s B h1 h2;have hn:=Bah r;simp only[Sl]at h1;rw[List.foldl_cons]
  have key:∀t:Int,(if q.1=k then ar .add .i64 s q.2 else s)=t->(t=s+(if q.1=k then q.2 else 0))->(r.foldl (λs q=>if q.1=k then ar .add .i64 s q.2 else s) (if q.1=k then ar .add .i64 s q.2 else s))=s+sumT (q::r) k:=by
   intro t h3 h4;rw[h3,ih t (B+(if 0<=q.2 then q.2 else -q.2)) (by split at h1<;>split<;>omega) (by split at h4<;>split<;>omega),h4];simp only[sumT];omega
  refine key _ rfl ?_;by_cases hq:q.1=k
  ·rw[if_pos hq,if_pos hq,nc];split at h1<;>omega
  .rw[if_neg hq,if_neg hq,Int.add_zero]
theorem Maj{c:Int}:∀ {xs:List Item},uD c xs->Sl (chI xs)<=(xs.length:Int)*c
 |[],_=>by simp[chI,Sl]
 |x::r,h=>by
  have h1:=Maj (xs:=r) (λy hy=>h y (by simp[hy]));have h2:=h x (by simp);show (if 0<=x.Count then x.Count else -x.Count)+Sl (chI r)<=_;rw[List.length_cons,Int.natCast_add,Int.add_mul];split<;>omega
theorem Iak{c:Int}{xs:List Item}(h:uD c xs)(hb:(xs.length:Int)*c<=1000000000000):uD ((xs.length:Int)*c) (gathI xs):=by
 intro y hy;obtain⟨p,hp,rfl⟩:=List.mem_map.1 hy;obtain⟨x,_,e⟩:=tD hp;obtain⟨h1,_⟩:=ze.1 hp;have h2:=Maj h
 have hc:(mkI p).Count=p.2:=by
  obtain⟨k,d⟩:=p;have e:k=kI x:=e;subst e;rfl
 rw[hc,h1,Hak (by omega)];have:=Laj (chI xs) p.1;omega
theorem Jak{xs:List Item}(h:∀x∈xs,InR x.Count):(gathI xs).length<=xs.length:=by
 rw[← ZY,List.length_map];have:=rD (xs:=xs.map itR) (λy hy=>by obtain⟨x,hx,rfl⟩:=List.mem_map.1 hy;exact h x hx);simpa using this
end Go.Proofs.YthfkpijcajdnhaaGreat

namespace Go.Proofs.YthfkpijcajdnhaaGreat
open Go
theorem Daj(φ:List Int->Bool)(q:List Int×Int):∀m:MP,(if 0<=q.2 then q.2 else -q.2)+Sl m<=1000000000000000 ->
  sumF φ (gc q m)=(if φ q.1=true then q.2 else 0)+sumF φ m/\Sl (gc q m)<=(if 0<=q.2 then q.2 else -q.2)+Sl m
 |[],_=>by simp[gc,sumF,Sl]
 |p::m,h=>by
  have hn:=Bah m;unfold gc;split
  .exact⟨rfl,Int.le_refl _⟩
  ·split
   ·rename_i h1 h2;simp only[Sl]at h;have ha:ar .add .i64 q.2 p.2=q.2+p.2:=nc (by split at h<;>split at h<;>omega);simp only[sumF,Sl,ha,h2];constructor
    .split<;>omega
    .split<;>split<;>split<;>omega
   ·simp only[Sl]at h;obtain⟨h1,h2⟩:=Daj φ q m (by split at h<;>split at h<;>split<;>omega);simp only[sumF,Sl,h1];exact⟨by omega,by omega⟩
theorem Aak(φ:List Int->Bool)(l:List (List Int×Int))(h:Sl l<=1000000000000000):sumF φ (Se l)=sumF φ l/\Sl (Se l)<=Sl l:=by
 suffices ∀ (l:List (List Int×Int)) (m:MP),Sl m+Sl l<=1000000000000000->sumF φ (l.foldl (λm q=>gc q m) m)=sumF φ m+sumF φ l/\Sl (l.foldl (λm q=>gc q m) m)<=Sl m+Sl l by
  have:=this l [] (by simp[Sl];exact h);simpa [Se,sumF,Sl] using this
 intro l
 induction l with
 |nil=>intro m _;simp[sumF,Sl]
 |cons q r ih=>
  intro m h;have hn:=Bah r;simp only[Sl]at h;obtain⟨h1,h2⟩:=Daj φ q m (by omega);obtain⟨h3,h4⟩:=ih (gc q m) (by omega);rw[List.foldl_cons];simp only[sumF,Sl];exact⟨by omega,by omega⟩
theorem Eaj:∀ {l:List (List Int×Int)},Sl l<=1000000000000000->∀q∈l,IntKind.i64.wrap q.2=q.2
 |[],_,q,hq=>by simp at hq
 |p::r,h,q,hq=>by
  have hn:=Bah r;simp only[Sl]at h;rcases List.mem_cons.1 hq with rfl|hq
  .exact IntWalk.i64_in _ (by split at h<;>omega)
  .exact Eaj (l:=r) (by split at h<;>omega) q hq
theorem Bak{n:Nat}{l:List (List Int×Int)}(hk:yb n l)(h:Sl l<=1000000000000000)(φ:List Int->Bool):sumF φ (mc l)=sumF φ l/\Sl (mc l)<=Sl l:=by
 obtain⟨h1,h2⟩:=Aak φ l h;obtain⟨h3,h4⟩:=LM φ (Se l);rw[← HM hk (Eaj h),h3,h4];exact⟨h1,h2⟩
theorem Lai(φ:List Int->Bool)(k:List Int):∀l:List (List Int×Int),sumT (l.filter λq=>φ q.1) k=if φ k=true then sumT l k else 0
 |[]=>by simp[sumT]
 |q::r=>by
  have ih:=Lai φ k r;by_cases h:φ q.1=true
  ·rw[List.filter_cons_of_pos (by exact h)];simp only[sumT,ih];by_cases e:q.1=k
   .rw[e]at h;simp[h,e]
   .simp[e]
  ·rw[List.filter_cons_of_neg (by exact h)];simp only[sumT,ih];by_cases e:q.1=k
   .rw[e]at h;simp[h]
   .simp[e]
theorem Zah(xs:List Row):chR (ab xs)=mc (chR xs):=by
 unfold ab
 have:∀m:MP,(∀p∈m,∃x∈xs,p.1=rK x)->chR (m.map mkR)=m:=by
  intro m
  induction m with
  |nil=>exact λ_=>rfl
  |cons p m ih=>
   intro h;obtain⟨x,_,e⟩:=h p (by simp);show (rK (mkR p),(mkR p).Diff)::chR (m.map mkR)=_;rw[ih λq hq=>h q (by simp[hq])];obtain⟨k,d⟩:=p;have e:k=rK x:=e;subst e;rfl
 exact this _ λp hp=>GY hp
theorem Faj{a:List Row}(ha:Sl (chR a)<=1000000000000000):Sl (chR (ab a))<=Sl (chR a):=by
 rw[Zah];exact (Bak (pD a) ha λ_=>true).2
theorem Gaj:∀ {l:List (List Int×Int)} {q:List Int×Int},q∈l->-Sl l<=q.2/\q.2<=Sl l
 |p::r,q,h=>by
  have hn:=Bah r;simp only[Sl];rcases List.mem_cons.1 h with rfl|h
  .split<;>omega
  ·have:=Gaj h;split<;>omega
theorem Haj{xs:List Row}{x:Row}(h:x∈xs) : -Sl (chR xs)<=x.Diff/\x.Diff<=Sl (chR xs):=Gaj (q:=(rK x,x.Diff)) (List.mem_map.2 ⟨x,h,rfl⟩)
theorem Mai{c:Int}:∀ {xs:List Row},(∀x∈xs,-c<=x.Diff/\x.Diff<=c)->Sl (chR xs)<=(xs.length:Int)*c
 |[],_=>by simp[chR,Sl]
 |x::r,h=>by
  have h1:=Mai (xs:=r) (λy hy=>h y (by simp[hy]));have h2:=h x (by simp);show (if 0<=x.Diff then x.Diff else -x.Diff)+Sl (chR r)<=_;rw[List.length_cons,Int.natCast_add,Int.add_mul];split<;>omega
def φT(k:List Int)(t:Time):List Int->Bool
 |[a,b,x,y]=>decide ([a,b,0]=k)&&(decide (x<=t.A)&&decide (y<=t.B))
 |_=>false
theorem Nai(k:List Int)(t:Time):∀L:List Row,sumT (chI (Va L t)) k=sumF (φT k t) (chR L)
 |[]=>rfl
 |r::L=>by
  have ih:=Nai k t L;show _=(if φT k t (rK r)=true then r.Diff else 0)+sumF (φT k t) (chR L);rw[← ih];unfold Va;by_cases h:Bf r.At t=true
  ·rw[List.filter_cons_of_pos (by exact h)];show (if kI (rIt r)=k then r.Diff else 0)+_=_;have h2:(decide (r.At.A<=t.A)&&decide (r.At.B<=t.B))=true:=h
   have:φT k t (rK r)=decide (kI (rIt r)=k):=by
    show (decide ([r.Key,r.Val,0]=k)&&(decide (r.At.A<=t.A)&&decide (r.At.B<=t.B)))=_;rw[h2,Bool.and_true];rfl
   rw[this];simp only[decide_eq_true_eq];rfl
  ·rw[List.filter_cons_of_neg (by exact h)];have h2:(decide (r.At.A<=t.A)&&decide (r.At.B<=t.B))=false:=by simpa [Bf] using h
   have:φT k t (rK r)=false:=by
    show (decide ([r.Key,r.Val,0]=k)&&(decide (r.At.A<=t.A)&&decide (r.At.B<=t.B)))=_;rw[h2,Bool.and_false]
   rw[this];simp
theorem Cak(xs:List Row):(ab xs).Pairwise Te:=by
 have h:=Gh (pD xs);rw[← Zah]at h;have h2:=List.pairwise_map.1 (show ((ab xs).map λr=>(rK r,r.Diff)).Pairwise (λp q=>ltK p.1 q.1=true) from h);exact h2
theorem Iaj{xs:List Row}{z:Row}:z∈ab xs↔z.Diff=Le (chR xs) (rK z)/\z.Diff≠0:=by
 have h:z∈ab xs↔(rK z,z.Diff)∈chR (ab xs):=by
  refine⟨λh=>List.mem_map.2 ⟨z,h,rfl⟩,λh=>?_⟩;obtain⟨y,hy,e⟩:=List.mem_map.1 h
  have:y=z:=by
   obtain⟨a,b,⟨c,d⟩,f⟩:=y;obtain⟨a',b',⟨c',d'⟩,f'⟩:=z;simp[rK]at e;obtain⟨⟨rfl,rfl,rfl,rfl⟩,rfl⟩:=e;rfl
  exact this▸hy
 rw[h,Zah,ze]
theorem Dak{xs:List Row}{z:Row}(h:z∈ab xs):∃x∈xs,rK x=rK z:=by
 obtain⟨h1,h2⟩:=Iaj.1 h;obtain⟨q,hq,e⟩:=Ll (h1▸h2);obtain⟨x,hx,rfl⟩:=List.mem_map.1 hq;exact⟨x,hx,e⟩
end Go.Proofs.YthfkpijcajdnhaaGreat

namespace Go.Proofs.YthfkpijcajdnhaaGreat
open Go
theorem Eak{a:List Row}(h:∀x∈a,InR x.Diff):∀q∈chR a,InR q.2:=λq hq=>by
 obtain⟨x,hx,rfl⟩:=List.mem_map.1 hq;exact h x hx
def sumW(w:List Int->Int):List (List Int×Int)->Int
 |[]=>0
 |q::r=>w q.1*q.2+sumW w r
theorem Jaj(w:List Int->Int):∀m:MP,sumW w (m.filter λp=>p.2 != 0)=sumW w m
 |[]=>rfl
 |p::m=>by
  have h1:=Jaj w m;by_cases h:p.2=0
  .simp[h,sumW,h1]
  .simp[h,sumW,h1]
theorem Kaj(w:List Int->Int)(q:List Int×Int):∀m:MP,Eqm (sumW w (gc q m)) (w q.1*q.2+sumW w m)
 |[]=>Eqm.refl _
 |p::m=>by
  unfold gc;split
  .exact Eqm.refl _
  ·split
   ·rename_i h1 h2;simp only[sumW,h2];have ha:Eqm (w q.1*ar .add .i64 q.2 p.2) (w q.1*(q.2+p.2)):=Eqm.mul _ (Nl _);rw[Int.mul_add]at ha;exact (ha.add (Eqm.refl _)).trans (Eqm.of (by omega))
   ·simp only[sumW];exact ((Eqm.refl _).add (Kaj w q m)).trans (Eqm.of (by omega))
theorem Fak(w:List Int->Int)(l:List (List Int×Int)):Eqm (sumW w (Se l)) (sumW w l):=by
 suffices ∀ (l:List (List Int×Int)) (m:MP),Eqm (sumW w (l.foldl (λm q=>gc q m) m)) (sumW w m+sumW w l) by
  have:=this l [];simpa [Se,sumW] using this
 intro l
 induction l with
 |nil=>intro m;exact Eqm.of (by simp[sumW])
 |cons q r ih=>
  intro m;rw[List.foldl_cons];simp only[sumW];exact (ih (gc q m)).trans (((Kaj w q m).add (Eqm.refl _)).trans (Eqm.of (by omega)))
theorem Gak{n:Nat}{l:List (List Int×Int)}(hk:yb n l)(hr:∀q∈l,InR q.2)(w:List Int->Int):Eqm (sumW w (mc l)) (sumW w l):=by
 rw[← HM hk λq hq=>mD (hr q hq),Jaj w (Se l)];exact Fak w l
theorem Oai{a:List Item}(h:∀x∈a,InR x.Count)(w:List Int->Int):Eqm (sumW w (chI (gathI a))) (sumW w (chI a)):=by
 rw[Ml]
 exact Gak (Rl a) (λq hq=>by
  obtain⟨x,hx,rfl⟩:=List.mem_map.1 hq;exact h x hx) w
theorem Aah{L:List Row}(h:∀x∈L,InR x.Diff)(t:Time):xd (ab L) t=xd L t:=JY λk=>by
  rw[Nai,Nai,Zah];exact MY (pD L) (Eak h) _
end Go.Proofs.YthfkpijcajdnhaaGreat

namespace Go.Proofs.YthfkpijcajdnhaaGreat
open Go
section
variable {P:Program} {K n:Nat}
variable {T E:Nat} (M:WV P T K E n) {w:World} {r:Nat} {S:va} (hr:w.heap[r]? = some (Ha S)) (hm:Yb n S) {ks:List Int} (hk:ks.length=n)
include M hr hm hk
end
end Go.Proofs.YthfkpijcajdnhaaGreat

namespace Go.Proofs.YthfkpijcajdnhaaGreat
open Go Tg
theorem Kak(L:List Row)(t:Time):(Va L t).map Jb=Va (L.map Nh) t:=by
 unfold Va;rw[List.filter_map,List.map_map,List.map_map];rfl
end Go.Proofs.YthfkpijcajdnhaaGreat

namespace Go.Proofs.YthfkpijcajdnhaaGreat
open Go
theorem Naj(xs:List Row)(t:Time)(hl:xs.length<10000000):Mah xs t/\Lah xs t=if Ib xs=true/\Ea t=true then xd xs t else []:=by
 obtain⟨r1,r2⟩:=kN xs (by omega);obtain⟨q1,q2⟩:=mN xs t (by omega);simp only[Mah,Lah,Yai,Xai,cai,Tr.val,Tr.ob,fa,r2,fN,q2];cases h1:Ib xs<;>cases h2:Ea t<;>simp[r1,gN,q1,ocR]
theorem Lak(xs:List Row):Sb Ad none (ab xs)=true:=nN _ none (Cak xs) (λx hx=>(Iaj.1 hx).2) λz hz=>by cases hz
theorem Mak(xs:List Row):Qa (ab xs)=Ib (ab xs):=by
 unfold Qa;rw[Lak];rfl
end Go.Proofs.YthfkpijcajdnhaaGreat

namespace Go.Proofs.YthfkpijcajdnhaaGreat
open Go Tg
theorem Rak(s:List Item):(chI s).map mkI=s:=by
 unfold chI;rw[List.map_map];have:(mkI ∘ λx:Item=>(kI x,x.Count))=id:=by funext x;cases x;rfl
 rw[this,List.map_id]
theorem Canon.gath{s:List Item}(h:Canon s):gathI s=s:=by
 have h1:mc (chI s)=chI s:=T1 (n:=3) (List.pairwise_map.2 h.1) (Rl s) λp hp=>by
  obtain⟨x,hx,rfl⟩:=List.mem_map.1 hp;exact h.2 x hx
 unfold gathI;rw[h1,Rak]
def aai(h:Int)(x:Item):List Item:=if (cc h x.Key x.Val).2.2=true then [⟨(cc h x.Key x.Val).1,(cc h x.Key x.Val).2.1,x.Count⟩] else []
def oah(h:Int)(s:List Item):List Item:=s.flatMap (aai h)
theorem Paj(h:Int)(t:Time):∀a:List Row,Va (xc h a) t=oah h (Va a t)
 |[]=>rfl
 |x::l=>by
  have ih:=Paj h t l;unfold xc oah at *;rw[List.flatMap_cons,lD,ih,X1,List.flatMap_append]
  congr 1
  unfold Yf;by_cases hk:(cc h x.Key x.Val).2.2=true
  ·rw[if_pos hk,X1,Y1,List.append_nil];by_cases hb:Bf x.At t=true
   ·rw[if_pos hb,if_pos hb];simp[aai,rIt,hk]
   ·rw[if_neg hb,if_neg hb];rfl
  ·rw[if_neg hk,Y1];by_cases hb:Bf x.At t=true
   ·rw[if_pos hb];simp[aai,rIt,hk]
   ·rw[if_neg hb];rfl
def wE(h:Int)(k:List Int):List Int->Int
 |[a,b,_]=>if (cc h a b).2.2=true/\[(cc h a b).1,(cc h a b).2.1,0]=k then 1 else 0
 |_=>0
theorem Rai(h:Int)(k:List Int):∀s:List Item,sumT (chI (oah h s)) k=sumW (wE h k) (chI s)
 |[]=>rfl
 |x::s=>by
  have ih:=Rai h k s;show _=wE h k (kI x)*x.Count+sumW (wE h k) (chI s);unfold oah at *;rw[List.flatMap_cons,NM,ih]
  congr 1
  show _=(if (cc h x.Key x.Val).2.2=true/\[(cc h x.Key x.Val).1,(cc h x.Key x.Val).2.1,0]=k then 1 else 0)*x.Count;unfold aai;by_cases hk:(cc h x.Key x.Val).2.2=true
  ·rw[if_pos hk];show (if [(cc h x.Key x.Val).1,(cc h x.Key x.Val).2.1,0]=k then x.Count else 0)+0=_;by_cases e : [(cc h x.Key x.Val).1,(cc h x.Key x.Val).2.1,0]=k
   .rw[if_pos e,if_pos ⟨hk,e⟩];omega
   .rw[if_neg e,if_neg λhh=>e hh.2];omega
  ·rw[if_neg hk,if_neg λhh=>hk hh.1];simp[chI,sumT]
theorem Sak(h:Int){s:List Item}(hs:∀x∈s,InR x.Count):gathI (oah h (gathI s))=gathI (oah h s):=JY λk=>by rw[Rai,Rai];exact Oai hs _
theorem pah{xs:List Row}(h:∀x∈xs,InR x.Diff)(t:Time):∀x∈Va xs t,InR x.Count:=λx hx=>by
 obtain⟨r,hr,rfl⟩:=List.mem_map.1 hx;exact h r ((List.mem_filter.1 hr).1)
theorem Tak{h:Int}{a:List Row}(ha:∀x∈a,InR x.Diff)(t:Time):xd (ab (xc h a)) t=gathI (oah h (xd a t)):=by
 rw[Aah (GD ha)];unfold xd;rw[Paj,Sak h (pah ha t)]
theorem Uak{a b:List Row}(ha:∀x∈a,InR x.Diff)(hb:∀x∈b,InR x.Diff)(t:Time):xd (ab (a++b)) t=gathI (xd a t++xd b t):=by
 rw[Aah λx hx=>(List.mem_append.1 hx).elim (ha x) (hb x)];refine JY λk=>?_;rw[lD,NM,NM];exact (QY (pah ha t) k).symm.add (QY (pah hb t) k).symm
theorem Vak{a:List Row}(ha:∀x∈a,InR x.Diff)(t:Time)(hm:∀x∈xd a t,x.Count≠-9223372036854775808):xd (ab (ib a)) t=(xd a t).map Jb:=by
 rw[Aah (dO a)];have h1:=((V1 (Va a t)).neg hm).gath;rw[← show xd a t=gathI (Va a t) from rfl]at h1;rw[← h1];refine JY λk=>?_;unfold ib;rw[← Kak];exact (xD _ k).trans (((QY (pah ha t) k).neg.symm).trans (xD _ k).symm)
def Cah(x y:Item):List Item:=if x.Key=y.Key then [⟨x.Key,Vl x.Val y.Val,x.Count*y.Count⟩] else []
def qah(s u:List Item):List Item:=s.flatMap λx=>u.flatMap (Cah x)
theorem Sai(s t u:Time):Bf (bb s t) u=(Bf s u&&Bf t u):=by
 unfold Bf bb;simp only[si];rw[Bool.eq_iff_iff];simp only[Bool.and_eq_true,decide_eq_true_eq];split<;>split<;>omega
theorem Qaj(t:Time)(x:Row):∀b:List Row,Va (b.flatMap (ic x)) t=if Bf x.At t=true then (Va b t).flatMap (Cah (rIt x)) else []
 |[]=>by split<;>rfl
 |y::b=>by
  have ih:=Qaj t x b;rw[List.flatMap_cons,lD,ih,X1,List.flatMap_append];by_cases hx:Bf x.At t=true
  ·rw[if_pos hx,if_pos hx]
   congr 1
   unfold ic;by_cases hk:x.Key=y.Key
   ·rw[if_pos hk,X1,Y1,List.append_nil,show (Row.At ⟨x.Key,Vl x.Val y.Val,bb x.At y.At,x.Diff*y.Diff⟩)=bb x.At y.At from rfl,Sai,hx,Bool.true_and];by_cases hy:Bf y.At t=true
    ·rw[if_pos hy,if_pos hy];simp[Cah,rIt,hk]
    ·rw[if_neg hy,if_neg hy];rfl
   ·rw[if_neg hk,Y1];by_cases hy:Bf y.At t=true
    ·rw[if_pos hy];simp[Cah,rIt,hk]
    ·rw[if_neg hy];rfl
  ·rw[if_neg hx,if_neg hx,List.append_nil];unfold ic;by_cases hk:x.Key=y.Key
   ·rw[if_pos hk,X1,Y1,List.append_nil,show (Row.At ⟨x.Key,Vl x.Val y.Val,bb x.At y.At,x.Diff*y.Diff⟩)=bb x.At y.At from rfl,Sai];rw[if_neg (by simp[hx])]
   .rw[if_neg hk,Y1]
theorem Raj(t:Time)(b:List Row):∀a:List Row,Va (dc a b) t=qah (Va a t) (Va b t)
 |[]=>rfl
 |x::a=>by
  have ih:=Raj t b a;unfold dc qah at *;rw[List.flatMap_cons,lD,ih,X1,List.flatMap_append,Qaj]
  congr 1
  by_cases hx:Bf x.At t=true
  ·rw[if_pos hx,if_pos hx];simp
  ·rw[if_neg hx,if_neg hx];rfl
def wJ2(a b:Int)(k:List Int):List Int->Int
 |[c,d,_]=>if a=c/\[a,Vl b d,0]=k then 1 else 0
 |_=>0
def wJ(u:List Item)(k:List Int):List Int->Int
 |[a,b,_]=>sumW (wJ2 a b k) (chI u)
 |_=>0
theorem Saj(x:Item)(k:List Int):∀u:List Item,sumT (chI (u.flatMap (Cah x))) k=sumW (wJ2 x.Key x.Val k) (chI u)*x.Count
 |[]=>by simp[chI,sumT,sumW]
 |y::u=>by
  have ih:=Saj x k u;rw[List.flatMap_cons,NM,ih];show _=(wJ2 x.Key x.Val k (kI y)*y.Count+sumW (wJ2 x.Key x.Val k) (chI u))*x.Count;rw[Int.add_mul]
  congr 1
  show _=(if x.Key=y.Key/\[x.Key,Vl x.Val y.Val,0]=k then 1 else 0)*y.Count*x.Count;unfold Cah;by_cases hk:x.Key=y.Key
  ·rw[if_pos hk];show (if [x.Key,Vl x.Val y.Val,0]=k then x.Count*y.Count else 0)+0=_;by_cases e : [x.Key,Vl x.Val y.Val,0]=k
   .rw[if_pos e,if_pos ⟨hk,e⟩,Int.one_mul,Int.add_zero,Int.mul_comm]
   .rw[if_neg e,if_neg λhh=>e hh.2];simp
  ·rw[if_neg hk,if_neg λhh=>hk hh.1];simp[chI,sumT]
theorem Tai(u:List Item)(k:List Int):∀s:List Item,sumT (chI (qah s u)) k=sumW (wJ u k) (chI s)
 |[]=>rfl
 |x::s=>by
  have ih:=Tai u k s;unfold qah at *;rw[List.flatMap_cons,NM,ih,Saj];rfl
theorem Taj{w w':List Int->Int}(h:∀k,Eqm (w k) (w' k)):∀l,Eqm (sumW w l) (sumW w' l)
 |[]=>Eqm.refl _
 |q::r=>by
  simp only[sumW];have h1:=Eqm.mul q.2 (h q.1);rw[Int.mul_comm,Int.mul_comm q.2]at h1;exact h1.add (Taj h r)
theorem Wak{s u:List Item}(hs:∀x∈s,InR x.Count)(hu:∀x∈u,InR x.Count):gathI (qah (gathI s) (gathI u))=gathI (qah s u):=JY λk=>by
  rw[Tai,Tai];refine (Oai hs _).trans (Taj (λkey=>?_) _)
  match key with
  |[a,b,_]=>exact Oai hu _
  |[]=>exact Eqm.refl _
  |[_]=>exact Eqm.refl _
  |[_,_]=>exact Eqm.refl _
  |_::_::_::_::_=>exact Eqm.refl _
theorem Xak{a b:List Row}(ha:∀x∈a,InR x.Diff)(hb:∀x∈b,InR x.Diff)(hj:∀x∈dc a b,InR x.Diff)(t:Time):xd (ab (dc a b)) t=gathI (qah (xd a t) (xd b t)):=by
 rw[Aah hj];unfold xd;rw[Raj,Wak (pah ha t) (pah hb t)]
end Go.Proofs.YthfkpijcajdnhaaGreat

namespace Go.Proofs.YthfkpijcajdnhaaGreat
open Go Tg
def φK(k:Int):List Int->Bool
 |[a,_,_]=>decide (a=k)
 |_=>false
theorem Uaj(k:Int)(s:List Item):chI (s.filter λx=>decide (x.Key=k))=(chI s).filter λq=>φK k q.1:=by
 unfold chI;rw[List.filter_map];rfl
theorem Yak(k:Int){s:List Item}(hs:∀x∈s,InR x.Count):gathI (s.filter λx=>decide (x.Key=k))=(gathI s).filter λx=>decide (x.Key=k):=by
 rw[← ((V1 s).filter _).gath];refine JY λkey=>?_;rw[Uaj,Uaj,Lai,Lai];split
 .exact (QY hs key).symm
 .exact Eqm.refl _
theorem Vaj(k:Int)(t:Time):∀a:List Row,Va (na k a) t=(Va a t).filter λx=>decide (x.Key=k)
 |[]=>rfl
 |x::a=>by
  have ih:=Vaj k t a;rw[X1,List.filter_append,← ih];unfold na;by_cases hk:x.Key=k
  ·rw[List.filter_cons_of_pos (by simpa using hk),X1]
   congr 1
   by_cases hb:Bf x.At t=true
   .rw[if_pos hb];simp[rIt,hk]
   .rw[if_neg hb];rfl
  ·rw[List.filter_cons_of_neg (by simpa using hk)];by_cases hb:Bf x.At t=true
   .rw[if_pos hb];simp[rIt,hk]
   .rw[if_neg hb];rfl
theorem Zak{k:Int}{a:List Row}(ha:∀x∈a,InR x.Diff)(t:Time):xd (na k a) t=(xd a t).filter λx=>decide (x.Key=k):=by
 unfold xd;rw[Vaj,Yak k (pah ha t)]
theorem aal(p:Time->Bool)(i:Int)(n:Nat):(rowP p i n).Pairwise λx y=>Bf y x=false:=by
 unfold rowP;rw[List.pairwise_map];refine (List.Pairwise.sublist List.filter_sublist List.pairwise_lt_range).imp λ{a b} h=>?_;simp[Bf];omega
theorem Waj(p:Time->Bool):∀n,(qc p n).Pairwise λx y=>Bf y x=false
 |0=>.nil
 |n+1=>by
  simp only[qc];rw[List.pairwise_append];refine⟨Waj p n,aal p n 8,λx hx y hy=>?_⟩;have h1:=BA.1 hx;have h2:=uag.1 hy;unfold Bf;rw[h2.2.1];simp;omega
theorem Uai{kind k:Int}{own:List Row}:∀ (ts:List Time) (m:List Row),∃e,ts.foldl (Ue kind k own) m=m++e/\∀x∈e,x.At∈ts
 |[],m=>⟨[],by simp,by simp⟩
 |t::r,m=>by
  obtain⟨e,h1,h2⟩:=Uai r (Ue kind k own m t);refine⟨(Oh kind k own m t).map (rowT t)++e,?_,λx hx=>?_⟩
  ·rw[List.foldl_cons,h1];unfold Ue;rw[List.append_assoc]
  ·rcases List.mem_append.1 hx with hx|hx
   ·obtain⟨y,_,rfl⟩:=List.mem_map.1 hx;simp[rowT]
   .simp[h2 x hx]
theorem bai{l:List Row}{t:Time}(h:∀x∈l,Bf x.At t=false):Va l t=[]:=by
 unfold Va;rw[List.filter_eq_nil_iff.2 λx hx=>by rw[h x hx];simp];rfl
theorem bal(l:List Item)(t:Time):Va (l.map (rowT t)) t=l:=by
 unfold Va
 rw[List.filter_eq_self.2 λx hx=>by
  obtain⟨y,_,rfl⟩:=List.mem_map.1 hx;simp[Bf,rowT],List.map_map]
 have:(rIt ∘ rowT t)=id:=by funext x;cases x;rfl
 rw[this,List.map_id]
theorem Xaj{l:List Row}{s t:Time}(h:∀x∈l,Bf x.At s=Bf x.At t):Va l s=Va l t:=by
 unfold Va;rw[List.filter_congr λx hx=>h x hx]
theorem cal{kind k:Int}{own:List Row}(ho:yc k own){ts:List Time}(hp:ts.Pairwise λx y=>Bf y x=false)(hok:∀t∈ts,Ea t=true){s:Time}(hs:s∈ts)(key:List Int) :
  Eqm (sumT (chI (Va (Ab kind k own ts) s)) key) (sumT (chI (Wa kind k (xd own s))) key):=by
 obtain⟨l1,l2,rfl⟩:=List.append_of_mem hs
 have h1:Ab kind k own (l1++s::l2)=l2.foldl (Ue kind k own) (Ue kind k own (Ab kind k own l1) s):=by
  unfold Ab;rw[List.foldl_append,List.foldl_cons]
 obtain⟨e,h2,h3⟩:=Uai (kind:=kind) (k:=k) (own:=own) l2 (Ue kind k own (Ab kind k own l1) s);have hM:=(Yl (kind:=kind) ho l1 λt ht=>hok t (by simp[ht])).1;generalize Ab kind k own l1=M at *
 have h9:Va e s=[]:=bai λx hx=>by
  have:=(List.pairwise_append.1 hp).2.1;exact (List.pairwise_cons.1 this).1 x.At (h3 x hx)
 rw[h1,h2];unfold Ue;rw[lD,lD,bal,h9,List.append_nil,NM]
 ·unfold Oh;have hd:=fZ (kind:=kind) (t:=s) ho hM;refine ((Eqm.refl _).add (QY (λx hx=>(hd x hx).2.2.2) key)).trans ?_;rw[NM];have h4:=xD (xd M s) key;have h5:=QY (λx hx=>(hM.items s x hx).2.2.2) key;have h5:Eqm (sumT (chI (xd M s)) key) (sumT (chI (Va M s)) key):=h5;exact ((Eqm.refl _).add ((Eqm.refl _).add (h4.trans h5.neg))).trans (Eqm.of (by omega))
theorem Vai(f:Row->Int):∀l:List Row,l≠[]->∃x∈l,∀y∈l,f y<=f x
 |[],h=>absurd rfl h
 |[x],_=>⟨x,by simp,by simp⟩
 |x::y::r,_=>by
  obtain⟨z,h1,h2⟩:=Vai f (y::r) (by simp);by_cases h:f z<=f x
  ·exact⟨x,by simp,λw hw=>by
    rcases List.mem_cons.1 hw with rfl|hw
    .exact Int.le_refl _
    .exact Int.le_trans (h2 w hw) h⟩
  ·exact⟨z,by simp only[List.mem_cons]at h1⊢;exact .inr h1,λw hw=>by
    rcases List.mem_cons.1 hw with rfl|hw
    .omega
    .exact h2 w hw⟩
theorem dal{kind k:Int}{a:List Row}(hr:Ib a=true){t:Time}(key:List Int) :
  Eqm (sumT (chI (Va (Ab kind k (na k a) (Xa a k)) t)) key) (sumT (chI (Wa kind k (xd (na k a) t))) key):=by
 have hrow:=(Bb hr).2;have ho:=Ph (k:=k) hrow;have hts:Xa a k=qc (jT a k) 8:=by unfold Xa;rw[if_pos hr]
 have hok:=(Zl (a:=a) (k:=k)).1;rw[hts]at hok⊢;obtain⟨e,he1,he2⟩:=Uai (kind:=kind) (k:=k) (own:=na k a) (qc (jT a k) 8) [];have hmade:Ab kind k (na k a) (qc (jT a k) 8)=e:=by unfold Ab;rw[he1];rfl
 have hJ:∀j∈qc (jT a k) 8,(∃x∈na k a,x.At.A=j.A/\x.At.B<=j.B)/\∃x∈na k a,x.At.B=j.B/\x.At.A<=j.A:=λj hj=>by
  obtain⟨⟨x,m1,k1,a1,b1⟩,y,n1,l1,c1,d1⟩:=Vp.1 (BA.1 hj).1;exact⟨⟨x,List.mem_filter.2 ⟨m1,by simpa using k1⟩,a1,b1⟩,y,List.mem_filter.2 ⟨n1,by simpa using l1⟩,c1,d1⟩
 by_cases hn:(na k a).filter (λx=>Bf x.At t)=[]
 ·have h0:∀x∈na k a,Bf x.At t=false:=λx hx=>by
   have:=List.filter_eq_nil_iff.1 hn x hx;simpa using this
  have h1:xd (na k a) t=[]:=by unfold xd;rw[bai h0];rfl
  rw[h1,Z1,hmade,bai λx hx=>?_]
  .exact Eqm.refl _
  ·obtain⟨⟨y,m1,a1,b1⟩,_⟩:=hJ _ (he2 x hx);have h2:=h0 y m1;cases hb:Bf x.At t with
   |false=>rfl
   |true=>
    simp only[Bf,Bool.and_eq_true,decide_eq_true_eq]at hb;have:Bf y.At t=true:=by simp only[Bf,Bool.and_eq_true,decide_eq_true_eq];omega
    rw[h2]at this;cases this
 ·obtain⟨x,hx1,hx2⟩:=Vai (λr=>r.At.A) _ hn;obtain⟨y,hy1,hy2⟩:=Vai (λr=>r.At.B) _ hn;obtain⟨mx1,bx⟩:=List.mem_filter.1 hx1;obtain⟨my1,bY⟩:=List.mem_filter.1 hy1;have mx2:=List.mem_filter.1 mx1;have my2:=List.mem_filter.1 my1;simp only[Bf,Bool.and_eq_true,decide_eq_true_eq]at bx bY;have ox:=Og (hrow x mx2.1);have oy:=Og (hrow y my2.1);simp only[Ea,decide_eq_true_eq]at ox oy;have exy:y.At.A<=x.At.A:=hx2 y hy1;have eyx:x.At.B<=y.At.B:=hy2 x hx1
  have hs:(⟨x.At.A,y.At.B⟩ : Time)∈qc (jT a k) 8:=by
   refine BA.2 ⟨Vp.2 ⟨⟨x,mx2.1,by simpa using mx2.2,rfl,eyx⟩,y,my2.1,by simpa using my2.2,rfl,exy⟩,?_⟩;show 0<=x.At.A/\x.At.A<8/\0<=y.At.B/\y.At.B<8;omega
  have hrows:∀r∈na k a,Bf r.At t=Bf r.At ⟨x.At.A,y.At.B⟩:=λr hr=>by
   rw[Bool.eq_iff_iff];constructor
   ·intro h;have hm:r∈(na k a).filter (λx=>Bf x.At t):=List.mem_filter.2 ⟨hr,h⟩;have h1:r.At.A<=x.At.A:=hx2 r hm;have h2:r.At.B<=y.At.B:=hy2 r hm;simp only[Bf,Bool.and_eq_true,decide_eq_true_eq];exact⟨h1,h2⟩
   ·intro h;simp only[Bf,Bool.and_eq_true,decide_eq_true_eq]at h⊢;omega
  have h1:xd (na k a) t=xd (na k a) ⟨x.At.A,y.At.B⟩:=by unfold xd;rw[Xaj hrows]
  have h2:Va e t=Va e ⟨x.At.A,y.At.B⟩:=Xaj λz hz=>by
   obtain⟨⟨r1,m1,a1,b1⟩,r2,m2,a2,b2⟩:=hJ _ (he2 z hz);have q1:=hrows r1 m1;have q2:=hrows r2 m2;rw[Bool.eq_iff_iff]at q1 q2⊢;simp only[Bf,Bool.and_eq_true,decide_eq_true_eq]at q1 q2⊢;constructor
   ·intro h;have c1:=q1.1 (by omega);have c2:=q2.1 (by omega);omega
   ·intro h;omega
  have h3:=cal (kind:=kind) ho (Waj (jT a k) 8) hok hs key;rw[hmade]at h3⊢;rw[h1,h2];exact h3
theorem eal{k:Int}{s:List Item}(hs:Canon s)(hk:∀x∈s,x.Key=k):Canon (Ec k s):=by
 refine⟨?_,λx hx=>?_⟩
 ·unfold Ec;rw[List.pairwise_map];refine List.Pairwise.imp_of_mem (λ{x y} hx hy h=>?_) (hs.1.sublist List.filter_sublist);have h1:=hk x (List.mem_filter.1 hx).1;have h2:=hk y (List.mem_filter.1 hy).1;unfold kI at h⊢;rw[h1,h2]at h;exact h
 ·obtain⟨y,_,rfl⟩:=List.mem_map.1 hx;exact⟨by simp,by unfold InR;simp⟩
theorem fal{kind k:Int}{s:List Item}(hs:Canon s)(hk:∀x∈s,x.Key=k):Canon (Wa kind k s):=by
 have h:=eal hs hk;unfold Wa;split
 ·split
  .exact⟨.nil,by simp⟩
  .exact⟨by simp,by simp[InR]⟩
 ·split
  .exact h
  .exact⟨h.1.sublist (List.take_sublist _ _),λx hx=>h.2 x (List.mem_of_mem_take hx)⟩
theorem gal{kind k:Int}{s:List Item}{x:Item}(hx:x∈Wa kind k s):x.Key=k:=by
 have honce:∀x∈Ec k s,x.Key=k:=λx hx=>by
  obtain⟨y,hy,rfl⟩:=List.mem_map.1 hx;rfl
 unfold Wa at hx;split at hx
 ·split at hx
  .cases hx
  ·simp at hx;subst hx;rfl
 ·split at hx
  .exact honce x hx
  .exact honce x (List.mem_of_mem_take hx)
theorem ial{kind:Int}{s:List Item}(hs:Canon s):Canon (fg kind s):=by
 have h:∀k:Nat,Canon (Wa kind k (s.filter λx=>decide (x.Key=k))):=λk=>fal (hs.filter _) λx hx=>by simpa using (List.mem_filter.1 hx).2
 have hk:∀ (k:Nat) x,x∈Wa kind k (s.filter λx=>decide (x.Key=k))->x.Key=k:=λk x hx=>gal hx;unfold fg;rw[Qh,List.append_nil];refine (h 0).append ((h 1).append ((h 2).append (h 3) λx hx y hy=>?_) λx hx y hy=>?_) λx hx y hy=>?_
 .rw[hk 2 x hx,hk 3 y hy];decide
 ·rw[hk 1 x hx];rcases List.mem_append.1 hy with hy|hy
  .rw[hk 2 y hy];decide
  .rw[hk 3 y hy];decide
 ·rw[hk 0 x hx];rcases List.mem_append.1 hy with hy|hy
  .rw[hk 1 y hy];decide
  ·rcases List.mem_append.1 hy with hy|hy
   .rw[hk 2 y hy];decide
   .rw[hk 3 y hy];decide
theorem jal(f:Nat->List Row)(t:Time):Va ((List.range 4).flatMap f) t=(List.range 4).flatMap λk=>Va (f k) t:=by
 show Va (f 0++(f 1++(f 2++(f 3++[])))) t=Va (f 0) t++(Va (f 1) t++(Va (f 2) t++(Va (f 3) t++[])));rw[lD,lD,lD,lD];rfl
theorem kal{kind:Int}{a:List Row}(hr:Ib a=true)(t:Time):xd (ab (Ce kind a)) t=fg kind (xd a t):=by
 have hrow:=(Bb hr).2;have hin:∀x∈a,InR x.Diff:=λx hx=>Zf (hrow x hx);rw[Aah λx hx=>((AD (kind:=kind) hrow).1 x hx).1];rw[← (ial (kind:=kind) (s:=xd a t) (V1 _)).gath];refine JY λkey=>?_
 have h:∀k:Nat,Eqm (sumT (chI (Va (Ab kind k (na k a) (Xa a k)) t)) key) (sumT (chI (Wa kind k ((xd a t).filter λx=>decide (x.Key=k)))) key):=λk=>by
  rw[← Zak hin];exact dal hr key
 unfold Ce fg;rw[jal,Qh,Qh];simp only[NM];exact (h 0).add ((h 1).add ((h 2).add ((h 3).add (Eqm.refl _))))
end Go.Proofs.YthfkpijcajdnhaaGreat

namespace Go.Proofs.YthfkpijcajdnhaaGreat
open Go Tg
section
variable {a:List Row} (hr:Ib a=true) {kind:Int} (hkind:1<=kind/\kind<=3)
include hr hkind
end
end Go.Proofs.YthfkpijcajdnhaaGreat

namespace Go.Proofs.YthfkpijcajdnhaaGreat
open Go Tg
def opS(kind num:Int)(ks ins:List (List Item)):List Item:=if kind=1 then ins.getD num.toNat [] else if kind=2 then gathI (oah num (ks.getD 0 [])) else if kind=3 then gathI (ks.getD 0 []++ks.getD 1 []) else
 if kind=4 then (ks.getD 0 []).map Jb else if kind=5 then gathI (qah (ks.getD 0 []) (ks.getD 1 [])) else fg num (ks.getD 0 [])
def Pai:Nat->List (List Item)->Plan->List Item
 |0,_,_=>[]
 |d+1,ins,p=>opS p.Kind p.Num (p.Kids.map (Pai d ins)) ins
theorem Nak{a:List Row}(h:Ib a=true)(t:Time):∀x∈xd a t,-39999600<=x.Count/\x.Count<=39999600:=by
 obtain⟨h1,h2⟩:=Bb h
 have hs:uD 99999 (Va a t):=λx hx=>by
  obtain⟨r,hr,rfl⟩:=List.mem_map.1 hx;have:=h2 r (List.mem_filter.1 hr).1;simp only[vb,decide_eq_true_eq]at this;exact⟨this.2.2.2.2.2.1,this.2.2.2.2.2.2⟩
 have hl:(Va a t).length<=400:=by
  unfold Va;rw[List.length_map];exact Nat.le_trans (List.length_filter_le _ _) h1
 have h3:=Iak hs (by omega);intro x hx;have:=h3 x hx;omega
theorem Oak{P:List Row->Prop}(h0:P []){ks:List (List Row)}(h:∀x∈ks,P x)(n:Nat):P (ks.getD n []):=by
 rw[List.getD_eq_getElem?_getD];cases hn:ks[n]? with
 |none=>exact h0
 |some x=>exact h x (List.mem_of_getElem? hn)
theorem Pak(ks:List (List Row))(t:Time)(n:Nat):(ks.map λx=>xd x t).getD n []=xd (ks.getD n []) t:=by
 rw[List.getD_eq_getElem?_getD,List.getD_eq_getElem?_getD,List.getElem?_map];cases ks[n]?<;>rfl
theorem Qak{kind num:Int}{ks ins:List (List Row)}(hk:∀x∈ks,Qa x=true)(t:Time):xd (opR kind num ks ins) t=opS kind num (ks.map λx=>xd x t) (ins.map λx=>xd x t):=by
 have hr:∀n,Ib (ks.getD n [])=true:=Oak (P:=λx=>Ib x=true) rfl λx hx=>bg (hk x hx);have hm:=λn=>(Bb (hr n)).2;have hi:∀n,∀x∈ks.getD n [],InR x.Diff:=λn x hx=>Zf (hm n x hx);unfold opR opS;simp only[Pak];split
 .rfl
 ·split
  .exact Tak (hi 0) t
  ·split
   .exact Uak (hi 0) (hi 1) t
   ·split
    .exact Vak (hi 0) t λx hx=>by have:=Nak (hr 0) t x hx;omega
    ·split
     .exact Xak (hi 0) (hi 1) (λx hx=>(Dr (hm 0) (hm 1) x hx).1) t
     .exact kal (hr 0) t
theorem Oaj{f:Plan->Option (List Row)}{g:Plan->List Item}{t:Time}:∀ {l:List Plan} {ks:List (List Row)},(∀p∈l,∀x,f p=some x->xd x t=g p)->Nb f l=some ks->(ks.map λx=>xd x t)=l.map g
 |[],ks,_,h=>by simp[Nb]at h;subst h;rfl
 |p::l,ks,hg,h=>by
  simp only[Nb]at h;split at h
  .cases h
  ·rename_i y hy;split at h
   .cases h
   ·rename_i zs hz;cases h;simp only[List.map_cons];rw[hg p (by simp) y hy,Oaj (λq hq=>hg q (by simp[hq])) hz]
theorem Qai{ins:List (List Row)}(t:Time):∀ (d:Nat) (p:Plan) (x:List Row),Ob d ins p=some x->xd x t=Pai d (ins.map λx=>xd x t) p
 |0,p,x,h=>by cases h
 |d+1,p,x,h=>by
  simp only[Ob]at h;split at h
  .cases h
  ·rename_i ks hks;split at h
   ·cases h
    have hk:∀x∈ks,Qa x=true:=λx hx=>by
     obtain⟨q,_,hq⟩:=vD hks x hx;exact wD hq
    rw[Qak hk t,Oaj (g:=Pai d (ins.map λx=>xd x t)) (λq _ y hy=>Qai t d q y hy) hks];rfl
   .cases h
end Go.Proofs.YthfkpijcajdnhaaGreat

namespace Go.Proofs.YthfkpijcajdnhaaGreat
open Go Tg
theorem lal{x y:Item}(h1:x.Key=y.Key)(h2:x.Val=y.Val)(h3:x.Count=y.Count):x=y:=by
 obtain⟨a,b,c⟩:=x;obtain⟨a',b',c'⟩:=y;simp at h1 h2 h3;subst h1 h2 h3;rfl
theorem Yaj(x y:Item):(cmp .eql x.Key y.Key&&(cmp .eql x.Val y.Val&&(cmp .eql x.Count y.Count&&true)))=true↔x=y:=by
 rw[Db,Db,Db];simp only[Bool.and_eq_true,decide_eq_true_eq,and_true];constructor
 .rintro⟨h1,h2,h3⟩;exact lal h1 h2 h3
 .rintro rfl;exact⟨rfl,rfl,rfl⟩
theorem mal(a b:List Item)(hl:a.length<1000000000):Hah a b/\(Gah a b=true↔a=b):=by
 by_cases hlen:a.length=b.length
 ·have hz:(a.zip b).length=a.length:=by rw[List.length_zip];omega
  have key:∃q,ia (λs=>ca ((λ(s:Int)=>rah a b s) s)) (λs=>Oah a b s) 0 q/\((q=.x ()/\a=b)\/(q=.r false/\a≠b)):=by
   refine ia.list (a.zip b) (λi (_:Unit)=>(i:Int)) (λl _=>a.take l.length=b.take l.length) (b0:=()) rfl rfl ?_ ?_
   ·rintro l ⟨u,v⟩ r ⟨⟩ hx hI;have hll:l.length<a.length:=by rw[← hz,hx];simp
    have hg:(a.zip b)[l.length]? = some (u,v):=by rw[hx];simp
    rw[List.getElem?_zip_eq_some]at hg
    have hu:rd .item a (l.length:Int)=u:=by
     show a.getD (Int.toNat l.length) _=u;rw[Int.toNat_natCast,List.getD_eq_getElem?_getD,hg.1];rfl
    have hv:rd .item b (l.length:Int)=v:=by
     show b.getD (Int.toNat l.length) _=v;rw[Int.toNat_natCast,List.getD_eq_getElem?_getD,hg.2];rfl
    have hla:aa .item a=(a.length:Int):=rfl;have hlb:aa .item b=(b.length:Int):=rfl;have hlss:cmp .lss (l.length:Int) (aa .item a)=true:=by rw[fc,hla];simp;omega
    have hi1:inb (l.length:Int) (aa .item a):=⟨by omega,by omega⟩;have hi2:inb (l.length:Int) (aa .item b):=⟨by omega,by omega⟩;refine⟨by simp[Oah,hlss,hi1,hi2,Dah,Tr.ob,fa],?_⟩;show (∃b',ca (rah a b (l.length:Int))=_/\_)\/∃q,ca (rah a b (l.length:Int))=_/\_;simp only[rah,hlss,hu,hv,Ua (l:=l) (by omega),Dah,Tr.val];by_cases he:u=v
    ·left;subst he;rw[(Yaj u u).2 rfl];refine⟨(),rfl,?_⟩;rw[List.length_append,List.length_singleton,List.take_add_one,List.take_add_one,hI,hg.1,hg.2]
    ·right
     have hne:(cmp .eql u.Key v.Key&&(cmp .eql u.Val v.Val&&(cmp .eql u.Count v.Count&&true)))=false:=by
      rw[← Bool.not_eq_true,Yaj];exact he
     rw[hne];refine⟨.r false,rfl,.inr ⟨rfl,λhab=>he ?_⟩⟩;have:=hg.1;rw[hab,hg.2]at this;exact (Option.some.inj this).symm
   ·rintro⟨⟩ hI;have hend:cmp .lss ((a.zip b).length:Int) (aa .item a)=false:=by rw[fc,hz];simp[aa]
    rw[hz,List.take_length,hlen,List.take_length]at hI;simp only[Oah,rah,hend,Dah,Tr.val,Tr.ob,fa];exact⟨by simp,_,rfl,.inl ⟨rfl,hI⟩⟩
  obtain⟨q,h1,h2⟩:=key;have b2:dak a b:=h1.t
  have hn:cmp .neq (aa .item a) (aa .item b)=false:=by
   show cmp .neq (a.length:Int) (b.length:Int)=false;rw[Ae,hlen];simp
  rcases h2 with⟨rfl,h2⟩|⟨rfl,h2⟩
  ·have a2:caj a b=.x ():=h1.v;simp only[Hah,Gah,Sah,Rah,eaj,daj,hn,a2,ocR,Fah,Eah,Qah,Pah,lpS,Tr.val,Tr.ob];exact⟨by simp[b2],λ_=>h2,λ_=>trivial⟩
  ·have a2:caj a b=.r false:=h1.v;simp only[Hah,Gah,Sah,Rah,eaj,daj,hn,a2,ocR,Fah,Eah,Qah,Pah,lpS,Tr.val,Tr.ob];exact⟨by simp[b2],(λh=>by cases h),λh=>absurd h h2⟩
 ·have hn:cmp .neq (aa .item a) (aa .item b)=true:=by
   show cmp .neq (a.length:Int) (b.length:Int)=true;rw[Ae];simp;omega
  simp only[Hah,Gah,Sah,Rah,hn,ocR,Fah,Eah,Tr.val,Tr.ob];exact⟨by simp,(λh=>by cases h),λh=>absurd (by rw[h]) hlen⟩
def atT(t:Time)(a:List Row):Prop:=∀x∈a,x.At=t
theorem atT.gath{t:Time}{a:List Row}(h:atT t a):atT t (ab a):=λx hx=>by
 obtain⟨y,hy,e⟩:=Dak hx;have e : [y.Key,y.Val,y.At.A,y.At.B]=[x.Key,x.Val,x.At.A,x.At.B]:=e;have hy:=h y hy;simp only[List.cons.injEq,and_true]at e;rcases hx:x.At with⟨A,B⟩;rw[hx,hy]at e;rw[← hy,hy];simp only at e;rw[← e.2.2.1,← e.2.2.2]
theorem nal{a:List Row}(h:Ib a=true)(t:Time):(xd a t).length<=400:=by
 obtain⟨h1,h2⟩:=Bb h;have hs:∀x∈Va a t,InR x.Count:=pah (λx hx=>Zf (h2 x hx)) t
 have hl:(Va a t).length<=400:=by
  unfold Va;rw[List.length_map];exact Nat.le_trans (List.length_filter_le _ _) h1
 exact Nat.le_trans (Jak hs) hl
end Go.Proofs.YthfkpijcajdnhaaGreat

namespace Go.Proofs.YthfkpijcajdnhaaGreat
open Go Tg
theorem Zaj(n:Nat):allT (n+1)=allT n++(List.range 8).map λb:Nat=>(⟨(n:Int),(b:Int)⟩ : Time):=by
 unfold allT;rw[List.range_succ (n:=n),List.flatMap_append];simp
theorem Wai:∀n,(allT n).length=8*n
 |0=>rfl
 |n+1=>by rw[Zaj,List.length_append,Wai n];simp;omega
theorem oal{t:Time}(h:t∈allT 8):Ea t=true:=by
 obtain⟨a,ha,h⟩:=List.mem_flatMap.1 h;obtain⟨b,hb,rfl⟩:=List.mem_map.1 h;have ha:=List.mem_range.1 ha;have hb:=List.mem_range.1 hb;simp only[Ea,decide_eq_true_eq];omega
theorem pal:xai/\wai=allT 8:=by
 have k4:∀ (m0:List Time) (n:Nat),m0.length<=64->ia (λs:List Time×Int=>ca (wah m0 (n:Int) s.1 s.2)) (λs=>Iah m0 (n:Int) s.1 s.2) (m0,0) (.x (m0++(List.range 8).map λb:Nat=>(⟨(n:Int),(b:Int)⟩ : Time))):=λm0 n hm=>by
  have h:=LN (step:=λs:List Time×Int=>ca (wah m0 (n:Int) s.1 s.2)) (ob:=λs=>Iah m0 (n:Int) s.1 s.2) (λk=>m0++(List.range k).map λb:Nat=>(⟨(n:Int),(b:Int)⟩ : Time)) (fin:=.x (m0++(List.range 8).map λb:Nat=>(⟨(n:Int),(b:Int)⟩ : Time))) (λi hi=>?_) ?_
  .simpa using h
  ·have e:cmp .leq (i:Int) 7=true:=decide_eq_true (by omega);have hlim:∀w,lim (aa .time (m0++(List.range i).map λb:Nat=>(⟨(n:Int),(b:Int)⟩ : Time))) (aa .time [w]):=λw=>Wb (t:=.time) (show List.length _<1099511627776 by rw[List.length_append,List.length_map,List.length_range];omega);simp only[Iah,wah,Uah,Tr.val,Tr.ob,fa,e];refine⟨by simp[hlim],?_⟩;have ea:ar .add .i64 (i:Int) 1=((i+1:Nat):Int):=by rw[nc (by omega)];omega
   rw[List.range_succ,List.map_append,← List.append_assoc,ea];rfl
  ·have e:cmp .leq ((8:Nat):Int) 7=false:=rfl;simp only[Iah,wah,Uah,Tr.val,Tr.ob,fa,e];exact⟨by simp,rfl⟩
 have k:ia (λs:List Time×Int=>ca (xah s.1 s.2)) (λs=>Jah s.1 s.2) ([],0) (.x (allT 8)):=by
  refine LN (step:=λs:List Time×Int=>ca (xah s.1 s.2)) (ob:=λs=>Jah s.1 s.2) allT (λi hi=>?_) ?_
  ·have e:cmp .leq (i:Int) 7=true:=decide_eq_true (by omega);have k:=k4 (allT i) i (by rw[Wai];omega);have a4:kak (allT i) (i:Int)=.x (allT (i+1)):=by rw[Zaj];exact k.v
   have b4:lak (allT i) (i:Int):=k.t;have ea:ar .add .i64 (i:Int) 1=((i+1:Nat):Int):=by rw[nc (by omega)];omega
   simp only[Jah,xah,Vah,rai,nak,mak,qai,pai,lpS,Tr.val,Tr.ob,e,a4,ea];exact⟨by simp[b4],rfl⟩
  ·have e:cmp .leq ((8:Nat):Int) 7=false:=rfl;simp only[Jah,xah,Vah,Tr.val,Tr.ob,e];exact⟨by simp,rfl⟩
 have a2:oak=.x (allT 8):=k.v;have b2:pak:=k.t;simp only[xai,wai,uaj,taj,vai,uai,rak,qak,tai,sai,lpS,Tr.val,Tr.ob,a2];exact⟨by simp[b2],rfl⟩
end Go.Proofs.YthfkpijcajdnhaaGreat

namespace Go.Proofs.YthfkpijcajdnhaaGreat
open Go Tg
def nah(a:List Row):Prop:=∀x∈a,-24<=x.Diff/\x.Diff<=24
theorem qal{xs:List Row}(hl:xs.length<=8)(hd:∀x∈xs,-3<=x.Diff/\x.Diff<=3):nah (ab xs):=λx hx=>by
 have h1:=Mai hd;have h2:=Faj (a:=xs) (by omega);have h3:=Haj hx;omega
theorem aak{b:List Int}(hb:Be b){p m:Int}(hp:0<=p/\p<=500000)(hm:0<=m/\m<=8):nah (Ic (b,p) m).1:=by
 obtain⟨a1,a2,a3,a4,a5⟩:=VM hb hp (show 0<=m/\m<=100 by omega);simp only[Ic,YE,Dt,Tr.val,ocR];generalize (Ff (b,p) m).1=xs at a4 a5;have hi:∀x∈xs,InR x.Diff:=λx hx=>by have:=a5 x hx;unfold InR;omega
 obtain⟨r1,r2⟩:=bm xs (by omega);obtain⟨s1,s2⟩:=Mh xs (by omega) hi;have hl2:=rD hi;obtain⟨b1,b2⟩:=yr (ab xs) (by omega)
 have hfv:Zh (ab xs)=if Qa (ab xs)=true then ab xs else []:=by
  simp only[Zh,vt,lj,Tr.val,b2];cases Qa (ab xs)<;>rfl
 simp only[Bt,VE,zt,Tr.val,r2,s2,hfv];cases Ib xs with
 |false=>exact λx hx=>by cases hx
 |true=>
  show nah (if Qa (ab xs)=true then ab xs else []);split
  .exact qal (by omega) a5
  .exact λx hx=>by cases hx
theorem bak{b:List Int}(hb:Be b){p:Int}(hp:0<=p/\p<=400000)(hr:Ib (Dd (b,p)).1=true):nah (Dd (b,p)).1:=by
 obtain⟨a1,a2,a3,a4,a5⟩:=VM hb (p:=p) (m:=10) (by omega) (by omega)
 revert hr
 simp only[Dd,jF,Mt,Tr.val];generalize hR:Ff (b,p) 10=R at a2 a3 a4 a5;obtain⟨c1,c2,c3,c4⟩:=bc hb (p:=R.2) (n:=14) (by omega) (by omega);obtain⟨d1,d2,d3,x,d4,d5⟩:=sZ hb (p:=R.2+1) (by omega) (xs:=R.1) (by omega);simp only[c2];cases hc:cmp .eql (ua (b,R.2) 14).1 0 with
 |true=>
  simp only[ocR,d4];intro hr y hy;have hy2:=(Bb hr).2 y hy;simp only[vb,decide_eq_true_eq]at hy2;rcases List.mem_append.1 hy with h|h
  .have:=a5 y h;omega
  .simp at h;subst h;omega
 |false=>
  simp only[ocR];intro _ y hy;have:=a5 y hy;omega
theorem ral{c:List Int}(hc:∀x∈c,0<=x/\x<=255):∀a∈(Wg c).2.1,Ib a=true->nah a:=by
 obtain⟨o1,b,o2,hb⟩:=TY hc;obtain⟨a1,a2,a3⟩:=qZ hb;simp only[Wg,o2];generalize Xe (b,0)=P at a2 a3;obtain⟨x1,x2,x3,x4⟩:=rN hb (p:=P.2) (m:=5) (by omega) (by omega);have x5:=aak hb (p:=P.2) (m:=5) (by omega) (by omega);generalize Ic (b,P.2) 5=X at x2 x3 x4 x5;obtain⟨y1,y2,y3,y4⟩:=rN hb (p:=X.2) (m:=5) (by omega) (by omega);have y5:=aak hb (p:=X.2) (m:=5) (by omega) (by omega);generalize Ic (b,X.2) 5=Y at y2 y3 y4 y5;obtain⟨e1,e2,_,_⟩:=bc hb (p:=Y.2) (n:=30) (by omega) (by omega);obtain⟨f1,f2,_,_⟩:=bc hb (p:=Y.2+1) (n:=30) (by omega) (by omega);have g5:=bak hb (p:=Y.2+1+1) (by omega);simp only[e2,f2];generalize (Dd (b,Y.2+1+1)).1=Z at g5;intro a ha;cases h1:cmp .eql (ua (b,Y.2) 30).1 0<;>cases h2:cmp .eql (ua (b,Y.2+1) 30).1 0<;>simp[h1,h2]at ha<;>(try rcases ha with rfl|rfl)<;>(try subst ha)<;>first|exact λ_=>x5|exact λ_=>y5|exact g5
theorem sal{b:List Int}(hb:Be b){p:Int}(hp:0<=p/\p<=700000):iai (b,p):=by
 obtain⟨a1,a2⟩:=UY hb (p:=p) (by omega);obtain⟨c1,c2,c3,c4⟩:=bc hb (p:=p+3) (n:=16) (by omega) (by omega);obtain⟨d1,d2,d3,d4⟩:=bc hb (p:=p+3+1) (n:=2) (by omega) (by omega);have hin:∀u v:Int,inb (ua (b,p+3+1) 2).1 (aa .int [u,v]):=λu v=>⟨d3,d4⟩
 have k:∀x,iaj b (p+3) x:=λx=>by
  simp only[iaj,eai,Tr.ob,fa,c2];simp[c1,d1,hin]
 simp only[iai,jaj,gai,fai,Tr.ob,fa,a2];simp[a1,k]
theorem ual{s t:Time}(hs:Ea s=true)(ht:Ea t=true):Ea (bb s t)=true:=by
 simp only[Ea,decide_eq_true_eq]at hs ht⊢;unfold bb;simp only[si];constructor
 .split<;>omega
 .refine⟨?_,?_,?_⟩<;>split<;>omega
theorem Aal{a e:List Row}(ha:Ib a=true)(he:Ib e=true)(hal:a.length<=20)(hel:e.length<=20)(hat:nah a)(het:nah e):Qa (ab (a++e))=true:=by
 have hm:∀x∈a++e,vb x=true:=λx hx=>(List.mem_append.1 hx).elim ((Bb ha).2 x) ((Bb he).2 x);have hi:∀x∈a++e,InR x.Diff:=λx hx=>Zf (hm x hx);have hl:=Ql hi;rw[List.length_append]at hl;have h1:=Mai (c:=24) (xs:=a++e) λx hx=>(List.mem_append.1 hx).elim (hat x) (het x);rw[List.length_append]at h1;have h2:=Faj (a:=a++e) (by omega);rw[Mak];simp only[Ib,Bool.and_eq_true,decide_eq_true_eq,List.all_eq_true];refine⟨λx hx=>?_,by omega⟩;have h3:=Haj hx;obtain⟨p,hp,hpx⟩:=List.mem_map.1 hx;obtain⟨q1,q2⟩:=ze.1 hp;obtain⟨q,hq,ek⟩:=Ll (q1▸q2);obtain⟨y,hy,rfl⟩:=List.mem_map.1 hq;obtain⟨k,v⟩:=p;have ek:rK y=k:=ek;subst ek;have hoy:=hm y hy;have e1:x.Key=y.Key:=by rw[← hpx];rfl
 have e2:x.Val=y.Val:=by rw[← hpx];rfl
 have e3:x.At=y.At:=by rw[← hpx];rfl
 simp only[vb,decide_eq_true_eq]at hoy⊢;rw[e1,e2,e3];omega
end Go.Proofs.YthfkpijcajdnhaaGreat

namespace Go.Proofs.YthfkpijcajdnhaaGreat
open Go Tg
def Rat(y:Option Time)(x:Time):Bool:=!Ea x||match y with
 |none=>false
 |some y=>decide (x.A<=y.A)||decide (y.B<=x.B)
def Sat(f:List Time):Bool:=Sb Rat none f
theorem Baw:∀ {f:List Time} {y:Option Time},Sb Rat y f=true->∀s∈f,Ea s=true
 |[],_,_,s,hs=>by cases hs
 |x::r,y,h,s,hs=>by
  simp only[Sb,Rat,Bool.and_eq_true,Bool.not_eq_true',Bool.or_eq_false_iff]at h;rcases List.mem_cons.1 hs with rfl|hs
  .simpa using h.1.1
  .exact Baw h.2 s hs
theorem Yax(f:List Time)(hl:f.length<1000000000):Cau f/\Bau f=Sat f:=by
 have k2:ia (λs:Int=>ca (Wat f s)) (λs=>fau f s) 0 (if Sb Rat none f=true then .x () else .r false):=by
  refine ia.scan f _ (λl x r hx=>?_) ?_
  ·have hlen:f.length=l.length+(r.length+1):=by rw[hx];simp
   have hrd:rd .time f (l.length:Int)=x:=by rw[hx];exact Za
   have hin:inb (l.length:Int) (aa .time f):=by rw[hx];exact Ta (t:=.time)
   have hlss:cmp .lss (l.length:Int) (aa .time f)=true:=by rw[hx];exact fb
   rcases lN hx hl with⟨h1,h2⟩|⟨l',y,h1,h2,h3,h4,h5⟩
   ·have hg:cmp .gtr (l.length:Int) 0=false:=by rw[h1];rfl
    simp only[fau,Wat,eau,Tr.val,Tr.ob,fa,hlss,hrd,Ua (l:=l) (by omega),hg,h2,Rat,am];refine⟨by simp[hin,Qi],?_⟩;cases Ea x<;>rfl
   ·have hy:rd .time f (l'.length:Int)=y:=by rw[h4];exact Za
    have hin2:inb (l'.length:Int) (aa .time f):=by rw[h4];exact Ta (t:=.time)
    simp only[fau,Wat,eau,Tr.val,Tr.ob,fa,hlss,hrd,Ua (l:=l) (by omega),h2,h3,hy,h5,Rat,am,Oi,Re];refine⟨by simp[hin,hin2,Qi],?_⟩;cases Ea x<;>cases decide (x.A<=y.A)<;>cases decide (y.B<=x.B)<;>rfl
  ·have hend:cmp .lss (f.length:Int) (aa .time f)=false:=gb (t:=.time);simp only[fau,Wat,eau,Tr.val,Tr.ob,fa,hend];exact⟨by simp,rfl⟩
 have a2:Bay f=_:=k2.v;have b2:Cay f:=k2.t;simp only[Cau,Bau,xax,wax,Lav,Kav,Eay,Day,Jav,Iav,lpS,Tr.val,Tr.ob,Sat,a2];refine⟨by simp[b2],?_⟩;cases Sb Rat none f<;>rfl
theorem aaz(f:List Time)(hl:f.length<1000000000):Tav f/\Sav f=Sat f:=by
 have k2:ia (λs:Int=>ca (Xat f (aa .time f) s)) (λs=>hau f (aa .time f) s) 0 (if Sb Rat none f=true then .x () else .r false):=by
  refine ia.scan f _ (λl x r hx=>?_) ?_
  ·have hlen:f.length=l.length+(r.length+1):=by rw[hx];simp
   have hrd:rd .time f (l.length:Int)=x:=by rw[hx];exact Za
   have hin:inb (l.length:Int) (aa .time f):=by rw[hx];exact Ta (t:=.time)
   have hlss:cmp .lss (l.length:Int) (aa .time f)=true:=by rw[hx];exact fb
   rcases lN hx hl with⟨h1,h2⟩|⟨l',y,h1,h2,h3,h4,h5⟩
   ·have hg:cmp .gtr (l.length:Int) 0=false:=by rw[h1];rfl
    simp only[hau,Xat,gau,Tr.val,Tr.ob,fa,hlss,hrd,Ua (l:=l) (by omega),hg,h2,Rat,fN];refine⟨by simp[hin,gN],?_⟩;cases Ea x<;>rfl
   ·have hy:rd .time f (l'.length:Int)=y:=by rw[h4];exact Za
    have hin2:inb (l'.length:Int) (aa .time f):=by rw[h4];exact Ta (t:=.time)
    simp only[hau,Xat,gau,Tr.val,Tr.ob,fa,hlss,hrd,Ua (l:=l) (by omega),h2,h3,hy,h5,Rat,fN,Oi,Re];refine⟨by simp[hin,hin2,gN],?_⟩;cases Ea x<;>cases decide (x.A<=y.A)<;>cases decide (y.B<=x.B)<;>rfl
  ·have hend:cmp .lss (f.length:Int) (aa .time f)=false:=gb (t:=.time);simp only[hau,Xat,gau,Tr.val,Tr.ob,fa,hend];exact⟨by simp,rfl⟩
 have a2:Fay f (aa .time f)=_:=k2.v;have b2:Gay f (aa .time f):=k2.t;simp only[Tav,Sav,Bax,Aax,Rav,Qav,Iay,Hay,Pav,Oav,lpS,Tr.val,Tr.ob,Sat,a2];refine⟨by simp[b2],?_⟩;cases Sb Rat none f<;>rfl
def Tat(s t:Time):Bool:=Ea s&&Ea t&&Bf s t
theorem Zax{α:Type}(c:α->Bool):∀ (xs:List α) (y:Option α),Sb (λ_ x=>c x) y xs=!xs.any c
 |[],_=>rfl
 |x::r,y=>by simp only[Sb,List.any_cons,Zax c r (some x),Bool.not_or]
theorem baz(f:List Time)(t:Time)(hl:f.length<1000000000):kaw f t/\jaw f t=(Sat f&&f.any (Tat · t)):=by
 obtain⟨p1,p2⟩:=Yax f hl
 have k2:ia (λs:Int=>ca (jau f t s)) (λs=>Lau f t s) 0 (if Sb (λ_ x=>Tat x t) none f=true then .x () else .r true):=by
  refine ia.scan f _ (λl x r hx=>?_) ?_
  ·have hlen:f.length=l.length+(r.length+1):=by rw[hx];simp
   have hrd:rd .time f (l.length:Int)=x:=by rw[hx];exact Za
   have hin:inb (l.length:Int) (aa .time f):=by rw[hx];exact Ta (t:=.time)
   have hlss:cmp .lss (l.length:Int) (aa .time f)=true:=by rw[hx];exact fb
   have hv:Bv x t=Tat x t:=jN x t;simp only[Lau,jau,Kau,Tr.val,Tr.ob,fa,hlss,hrd,Ua (l:=l) (by omega),hv];refine⟨by simp[hin,ur],?_⟩;cases Tat x t<;>rfl
  ·have hend:cmp .lss (f.length:Int) (aa .time f)=false:=gb (t:=.time);simp only[Lau,jau,Kau,Tr.val,Tr.ob,fa,hend];exact⟨by simp,rfl⟩
 rw[Zax]at k2;have a2:Pay f t=_:=k2.v;have b2:Qay f t:=k2.t;simp only[kaw,jaw,Qax,Pax,iaw,haw,Say,Ray,gaw,faw,lpS,Tr.val,Tr.ob,fa,a2,p2];refine⟨by simp[b2,p1],?_⟩;cases Sat f<;>cases f.any (Tat · t)<;>rfl
theorem caz(f:List Time)(hl:f.length<1000000000):bav f:=by
 have k2:ia (λs:Int=>ca (Zat f s)) (λs=>rau f s) 0 (if Sb (λ_ x=>!Ea x) none f=true then .x () else .r false):=by
  refine ia.scan f _ (λl x r hx=>?_) ?_
  ·have hlen:f.length=l.length+(r.length+1):=by rw[hx];simp
   have hrd:rd .time f (l.length:Int)=x:=by rw[hx];exact Za
   have hin:inb (l.length:Int) (aa .time f):=by rw[hx];exact Ta (t:=.time)
   have hlss:cmp .lss (l.length:Int) (aa .time f)=true:=by rw[hx];exact fb
   simp only[rau,Zat,qau,Tr.val,Tr.ob,fa,hlss,hrd,Ua (l:=l) (by omega),am];refine⟨by simp[hin,Qi],?_⟩;cases Ea x<;>rfl
  ·have hend:cmp .lss (f.length:Int) (aa .time f)=false:=gb (t:=.time);simp only[rau,Zat,qau,Tr.val,Tr.ob,fa,hend];exact⟨by simp,rfl⟩
 have b2:hay f:=k2.t;simp only[bav,Naw,aav,Zau,iay,Yau,Xau,lpS,Tr.ob];simp[b2]
theorem daz(f m:List Time)(a b:Int)(hl:f.length<1000000000):Vaw f m a b/\∃q,Uaw f m a b=.n q:=by
 obtain⟨q,k,q',rfl⟩:=ia.list (step:=λs:Bool×Int=>ca (aau f m a b s.1 s.2)) (ob:=λs=>tau f m a b s.1 s.2) (s0:=(false,0)) f (λi b=>(b,(i:Int))) (λ_ _=>True) (b0:=false) (Q:=λq=>∃q',q=.x q') rfl trivial
  (λl x r q hx _=>by
    have hlen:f.length=l.length+(r.length+1):=by rw[hx];simp
    have hin:inb (l.length:Int) (aa .time f):=by rw[hx];exact Ta (t:=.time)
    have hlss:cmp .lss (l.length:Int) (aa .time f)=true:=by rw[hx];exact fb
    have e:Saw f m a b q l.length/\∃q',Raw f m a b q l.length=.n q':=by
     simp only[Saw,Raw,cav,Tr.val,Tr.ob,fa];refine⟨by simp[hin],?_⟩;split<;>exact⟨_,rfl⟩
    obtain⟨e1,q',e2⟩:=e;simp only[tau,aau,sau,dav,Tr.val,Tr.ob,hlss,e2,Ua (l:=l) (by omega)];exact⟨by simp[e1],.inl ⟨q',rfl,trivial⟩⟩)
  (λq _=>by
    have hend:cmp .lss (f.length:Int) (aa .time f)=false:=gb (t:=.time);simp only[tau,aau,sau,Tr.val,Tr.ob,hend];exact⟨by simp,_,rfl,q,rfl⟩)
 have a2:kay f m a b=.x q':=k.v;have b2:nay f m a b:=k.t;simp only[Vaw,Uaw,fav,eav,lpS,Tr.val,Tr.ob,a2];exact⟨by simp[b2],q',rfl⟩
theorem eaz(f m:List Time)(a b:Int)(q0:Bool)(hl:f.length<1000000000):aax f m a b q0/\∃q,Zaw f m a b q0=.n q:=by
 obtain⟨q,k,q',rfl⟩:=ia.list (step:=λs:Bool×Int=>ca (bau f m a b q0 s.1 s.2)) (ob:=λs=>vau f m a b q0 s.1 s.2) (s0:=(q0,0)) f (λi b=>(b,(i:Int))) (λ_ _=>True) (b0:=q0) (Q:=λq=>∃q',q=.x q') rfl trivial
  (λl x r q hx _=>by
    have hlen:f.length=l.length+(r.length+1):=by rw[hx];simp
    have hin:inb (l.length:Int) (aa .time f):=by rw[hx];exact Ta (t:=.time)
    have hlss:cmp .lss (l.length:Int) (aa .time f)=true:=by rw[hx];exact fb
    have e:Xaw f m a b q l.length/\∃q',Waw f m a b q l.length=.n q':=by
     simp only[Xaw,Waw,iav,Tr.val,Tr.ob,fa];refine⟨by simp[hin,ur],?_⟩;split<;>exact⟨_,rfl⟩
    obtain⟨e1,q',e2⟩:=e;simp only[vau,bau,uau,jav,Tr.val,Tr.ob,hlss,e2,Ua (l:=l) (by omega)];exact⟨by simp[e1],.inl ⟨q',rfl,trivial⟩⟩)
  (λq _=>by
    have hend:cmp .lss (f.length:Int) (aa .time f)=false:=gb (t:=.time);simp only[vau,bau,uau,Tr.val,Tr.ob,hend];exact⟨by simp,_,rfl,q,rfl⟩)
 have a2:oay f m a b q0=.x q':=k.v;have b2:pay f m a b q0:=k.t;simp only[aax,Zaw,lav,kav,lpS,Tr.val,Tr.ob,a2];exact⟨by simp[b2],q',rfl⟩
theorem faz(f m:List Time)(a b:Int)(hl:f.length<1000000000)(hm:m.length<=1000):cax f m a b/\∃m',bax f m a b=.n m'/\m'.length<=m.length+1:=by
 obtain⟨a1,q,a2⟩:=daz f m a b hl;obtain⟨b1,u,b2⟩:=eaz f m a b q hl;have hlim:∀w,lim (aa .time m) (aa .time [w]):=λw=>Wb (t:=.time) (show m.length<1099511627776 by omega);simp only[cax,bax,oav,gav,mav,Tr.val,Tr.ob,fa,a2,b2];refine⟨by simp[a1,b1,b2,hlim],?_⟩;cases u with
 |true=>exact⟨_,rfl,by simp⟩
 |false=>exact⟨_,rfl,by omega⟩
theorem gaz(f m:List Time)(a:Int)(hl:f.length<1000000000)(hm:m.length<=900):fax f m a/\∃m',eax f m a=.n m'/\m'.length<=m.length+8:=by
 obtain⟨q,k,m',rfl,hm'⟩:=ia.down (step:=λs:List Time×Int=>ca (cau f m a s.1 s.2)) (ob:=λs=>xau f m a s.1 s.2) (s0:=(m,7)) (λn b=>(b,(n:Int) - 1)) (λn b=>b.length+n<=m.length+8) (n0:=8) (b0:=m) (Q:=λq=>∃m',q=.x m'/\m'.length<=m.length+8) rfl (by simp)
  (λn b hn hI=>by
    have hg:cmp .geq (((n+1:Nat):Int) - 1) 0=true:=by rw[Oi];simp
    have hs:ar .sub .i64 (((n+1:Nat):Int) - 1) 1=(n:Int) - 1:=by rw[Ng (by omega)];omega
    obtain⟨e1,b',e2,e3⟩:=faz f b a (((n+1:Nat):Int) - 1) hl (by omega);generalize (((n+1:Nat):Int) - 1)=k at hg hs e1 e2⊢;simp only[xau,cau,wau,pav,Tr.val,Tr.ob,hg,hs,e2];exact⟨by simp[e1],b',rfl,by omega⟩)
  (λb hI=>by
    have hg:cmp .geq (((0:Nat):Int) - 1) 0=false:=rfl;simp only[xau,cau,wau,Tr.val,Tr.ob,hg];exact⟨by simp,_,rfl,b,rfl,by omega⟩)
 have a2:qay f m a=.x m':=k.v;have b2:ray f m a:=k.t;simp only[fax,eax,rav,qav,lpS,Tr.val,Tr.ob,a2];exact⟨by simp[b2],m',rfl,hm'⟩
theorem haz(f:List Time)(hl:f.length<1000000000):yav f/\(xav f).length<=64:=by
 have h1:=caz f hl
 obtain⟨q,k,m',rfl,hm'⟩:=ia.list (step:=λs:List Time×Int=>ca (dau f s.1 s.2)) (ob:=λs=>zau f s.1 s.2) (s0:=([],0)) (List.range 8) (λi b=>(b,(i:Int))) (λl b=>b.length<=8*l.length) (b0:=[]) (Q:=λq=>∃m',q=.x m'/\m'.length<=64) rfl (by simp)
  (λl x r b hx hI=>by
    have hlen:8=l.length+(r.length+1):=by have:=congrArg List.length hx;simpa using this
    have hg:cmp .leq (l.length:Int) 7=true:=by rw[Re];simp;omega
    obtain⟨e1,b',e2,e3⟩:=gaz f b l.length hl (by omega);simp only[zau,dau,yau,sav,Tr.val,Tr.ob,hg,Ua (l:=l) (by omega),e2];exact⟨by simp[e1],.inl ⟨b',rfl,by rw[List.length_append,List.length_singleton];omega⟩⟩)
  (λb hI=>by
    have hg:cmp .leq ((List.range 8).length:Int) 7=false:=rfl;simp only[zau,dau,yau,Tr.val,Tr.ob,hg];exact⟨by simp,_,rfl,b,rfl,by simpa using hI⟩)
 have a2:tay f=.x m':=k.v;have b2:uay f:=k.t;simp only[yav,xav,iax,hax,wav,vav,xay,vay,uav,tav,lpS,Tr.val,Tr.ob,fa,a2];refine⟨by simp[h1,b2],?_⟩;cases Oaw f with
 |true=>exact hm'
 |false=>exact Nat.zero_le _
theorem iaz{b:List Int}(hb:Be b){p m:Int}(hp:0<=p/\p<=500000)(hm:0<=m/\m<=100) :
  Vau (b,p) m/\p<=(Uat (b,p) m).2/\(Uat (b,p) m).2<=p+1+3*m/\((Uat (b,p) m).1.length:Int)<=m:=by
 have h1:ar .add .i64 m 1=m+1:=nc (by omega);obtain⟨a1,a2,a3,a4⟩:=bc hb (p:=p) (n:=m+1) (by omega) (by omega);generalize hn:(ua (b,p) (m+1)).1=n at a3 a4;obtain⟨n0,rfl⟩ : ∃n0:Nat,n=(n0:Int):=⟨n.toNat,by omega⟩
 have key:∃q,ia (λs=>ca ((λ(s:Int×(List Time)×Int)=>Yat b (p+1) (n0:Int) s.1 s.2.1 s.2.2) s)) (λs=>oau b (p+1) (n0:Int) s.1 s.2.1 s.2.2) (p+1,[],(n0:Int)) q /\
   ∃p' out,q=.x (p',out)/\p+1<=p'/\p'<=p+1+3*n0/\out.length<=n0:=by
  refine ia.down (λi (b:Int×List Time)=>(b.1,b.2,(i:Int))) (λi b=>p+1<=b.1/\b.1+3*i<=p+1+3*n0/\b.2.length+i<=n0) (n0:=n0) (b0:=(p+1,[])) rfl ⟨by simp,by simp,by simp⟩ ?_ ?_
  ·rintro i ⟨q,out⟩ hi ⟨i1,i2,i3⟩;simp only[]at i1 i2 i3;have hg:cmp .gtr (((i+1:Nat):Int)) 0=true:=by rw[Yc];simp
   have hs:ar .sub .i64 (((i+1:Nat):Int)) 1=(i:Int):=by rw[Ng (by omega)];omega
   obtain⟨r1,r2⟩:=UY hb (p:=q) (by omega);have hlim:∀y,lim (aa .time out) (aa .time [y]):=λy=>Wb (t:=.time) (show out.length<1099511627776 by omega);simp only[oau,Yat,hg,hs,r2,nau,Tr.val,Tr.ob,fa];exact⟨by simp[r1,hlim],(q+3,out++[(Qr (b,q)).1]),rfl,by simp only[];omega,by simp only[];omega,by simp;omega⟩
  ·rintro⟨q,out⟩ ⟨i1,i2,i3⟩;have hg:cmp .gtr ((0:Nat):Int) 0=false:=rfl;simp only[oau,Yat,hg,nau,Tr.val,Tr.ob];exact⟨by simp,_,rfl,q,out,rfl,i1,by simp at i2;omega,by simpa using i3⟩
 obtain⟨q,k1,p',out,rfl,k2,k3,k4⟩:=key;have a5:day b (p+1) (n0:Int)=.x (p',out):=k1.v;have b5:eay b (p+1) (n0:Int):=k1.t;simp only[Vau,Uat,Iaw,Haw,gay,fay,h1,a2,hn,a5,ocR,Uau,Tau,Sau,Rau,lpS,Tr.val,Tr.ob,fa];exact⟨by simp[a1,b5],by omega,by omega,by omega⟩
theorem jaz{b:List Int}(hb:Be b){p:Int}(hp:0<=p/\p<=500000):Aav (b,p)/\p<=(Vat (b,p)).2/\(Vat (b,p)).2<=p+13/\(Vat (b,p)).1.length<=64:=by
 obtain⟨a1,a2,a3,a4⟩:=iaz hb hp (m:=4) (by omega);obtain⟨c1,c2⟩:=haz (Uat (b,p) 4).1 (by omega);simp only[Aav,Vat,lax,kax,zav,Tr.val,Tr.ob,fa,ocR];exact⟨by simp[a1,c1],a2,by omega,c2⟩
theorem kaz{b:List Int}(hb:Be b){p:Int}(hp:0<=p/\p<=400000):Dav (b,p)/\(Cav (b,p)).1.length<=65:=by
 obtain⟨a1,a2,a3,a4⟩:=jaz hb (p:=p) (by omega);generalize hF:Vat (b,p)=F at a2 a3 a4;obtain⟨c1,c2,c3,c4⟩:=bc hb (p:=F.2) (n:=12) (by omega) (by omega);have d1:=sal hb (p:=F.2+1) (by omega);have hlim:∀w,lim (aa .time F.1) (aa .time [w]):=λw=>Wb (t:=.time) (show F.1.length<1099511627776 by omega);simp only[Dav,Cav,pax,oax,Bav,Tr.val,Tr.ob,fa,hF,c2];refine⟨by simp[a1,c1,d1,hlim],?_⟩;cases cmp .eql (ua (b,F.2) 12).1 0 with
 |true=>simp only[ocR,List.length_append,List.length_singleton];omega
 |false=>simp only[ocR];omega
theorem laz{c:List Int}(hc:∀x∈c,0<=x/\x<=255):Gav c/\∃e f,Fav c=(e,f,())/\f.length<=65:=by
 obtain⟨o1,b,o2,hb⟩:=TY hc;obtain⟨g1,g2,g3,g4⟩:=tZ hb (p:=0) (by omega);obtain⟨h1,h2⟩:=kaz hb (p:=(Dd (b,0)).2) (by omega);simp only[Gav,Fav,sax,rax,Eav,Tr.val,Tr.ob,fa,o2,ocR];exact⟨by simp[o1,g1,h1],_,_,rfl,h2⟩
end Go.Proofs.YthfkpijcajdnhaaGreat

namespace Go.Proofs.YthfkpijcajdnhaaGreat
open Go Tg
theorem aay(a b:Int):mn a b=if a<=b then a else b:=by
 unfold mn;split<;>split<;>omega
def Mat(s t:Time):Time:=⟨mn s.A t.A,mn s.B t.B⟩
theorem maz{s t:Time}(hs:Ea s=true)(ht:Ea t=true):Ea (Mat s t)=true:=by
 simp only[Ea,decide_eq_true_eq]at hs ht⊢;unfold Mat;simp only[aay];constructor
 .split<;>omega
 .refine⟨?_,?_,?_⟩<;>split<;>omega
theorem naz{s t:Time}(hs:Ea s=true)(ht:Ea t=true):Yae s t/\Xae s t=Mat s t:=by
 simp only[Yae,Xae,Wae,Vae,jV,Tr.val,Tr.ob,fa,fN,hs,ht,ocR];exact⟨by simp[gN],rfl⟩
def mvF(t o:Time)(l:List Time):Time:=l.foldl (λo s=>Mat o (bb s t)) o
def mvT:List Time->Time->Time
 |[],t=>t
 |s::r,t=>mvF t (bb s t) (s::r)
theorem Caw{t:Time}(ht:Ea t=true):∀ {l:List Time} {o:Time},Ea o=true->(∀s∈l,Ea s=true)->Ea (mvF t o l)=true
 |[],_,ho,_=>ho
 |s::r,o,ho,h=>Caw ht (l:=r) (maz ho (ual (h s (by simp)) ht)) λx hx=>h x (by simp[hx])
theorem oaz{f:List Time}(hf:∀s∈f,Ea s=true){t:Time}(ht:Ea t=true):Ea (mvT f t)=true:=by
 cases f with
 |nil=>exact ht
 |cons s r=>exact Caw ht (ual (hf s (by simp)) ht) hf
theorem bay{t:Time}:∀ {l:List Time} {o:Time},t.A<=o.A->t.B<=o.B->t.A<=(mvF t o l).A/\t.B<=(mvF t o l).B/\(mvF t o l).A<=o.A/\(mvF t o l).B<=o.B/\∀s∈l,(mvF t o l).A<=(bb s t).A/\(mvF t o l).B<=(bb s t).B
 |[],o,h1,h2=>⟨h1,h2,Int.le_refl _,Int.le_refl _,λs hs=>by cases hs⟩
 |s::r,o,h1,h2=>by
  have hj:t.A<=(bb s t).A/\t.B<=(bb s t).B:=by
   unfold bb;simp only[si];constructor<;>split<;>omega
  have hm:(Mat o (bb s t)).A<=o.A/\(Mat o (bb s t)).B<=o.B/\(Mat o (bb s t)).A<=(bb s t).A/\(Mat o (bb s t)).B<=(bb s t).B/\t.A<=(Mat o (bb s t)).A/\t.B<=(Mat o (bb s t)).B:=by
   generalize bb s t=j at hj;unfold Mat;simp only[aay];refine⟨?_,?_,?_,?_,?_,?_⟩<;>split<;>omega
  obtain⟨m1,m2,m3,m4,m5,m6⟩:=hm;obtain⟨i1,i2,i3,i4,i5⟩:=bay (t:=t) (l:=r) (o:=Mat o (bb s t)) m5 m6;show t.A<=(mvF t (Mat o (bb s t)) r).A/\t.B<=(mvF t (Mat o (bb s t)) r).B/\(mvF t (Mat o (bb s t)) r).A<=o.A/\(mvF t (Mat o (bb s t)) r).B<=o.B/\∀s'∈s::r,(mvF t (Mat o (bb s t)) r).A<=(bb s' t).A/\(mvF t (Mat o (bb s t)) r).B<=(bb s' t).B;refine⟨i1,i2,by omega,by omega,λs' hs=>?_⟩;rcases List.mem_cons.1 hs with rfl|hs
  .exact⟨by omega,by omega⟩
  .exact i5 s' hs
theorem paz{f:List Time}{u:Time}(h:f=[]\/∃s∈f,Bf s u=true)(t:Time):Bf (mvT f t) u=Bf t u:=by
 match f,h with
 |[],_=>rfl
 |s0::r,h=>
  obtain⟨s,hs,hsu⟩:=h.resolve_left (by simp)
  have hj:t.A<=(bb s0 t).A/\t.B<=(bb s0 t).B:=by
   unfold bb;simp only[si];constructor<;>split<;>omega
  obtain⟨i1,i2,_,_,i5⟩:=bay (t:=t) (l:=s0::r) hj.1 hj.2;obtain⟨j1,j2⟩:=i5 s hs;show Bf (mvF t (bb s0 t) (s0::r)) u=_;generalize mvF t (bb s0 t) (s0::r)=g at i1 i2 j1 j2;unfold bb at j1 j2;simp only[si]at j1 j2;simp only[Bf,Bool.and_eq_true,decide_eq_true_eq]at hsu;rw[Bool.eq_iff_iff];simp only[Bf,Bool.and_eq_true,decide_eq_true_eq];constructor
  .intro h;omega
  ·intro h;constructor
   .split at j1<;>omega
   .split at j2<;>omega
theorem cay{f:List Time}(hf:∀s∈f,Ea s=true)(hl:f.length<1000000){t:Time}(ht:Ea t=true):Ok f t/\Tp f t=mvT f t:=by
 cases f with
 |nil=>
  simp only[Ok,Tp,iaf,haf,oV,Tr.val,Tr.ob];exact⟨by simp[aa,Db],rfl⟩
 |cons s0 r0=>
  generalize hfe:s0::r0=f at hf hl;have hs0:Ea s0=true:=hf s0 (by rw[← hfe];simp);obtain⟨z1,z2⟩:=BD hs0 ht;have hr0:rd .time f 0=s0:=by rw[← hfe];rfl
  have hi0:inb 0 (aa .time f):=by rw[← hfe];unfold inb aa;simp
  have hne:cmp .eql (aa .time f) 0=false:=by rw[← hfe,Db];unfold aa;simp;omega
  have hj0:=ual hs0 ht
  have k2:ia (λs:Int×Int×Int=>ca (PJ t (bb s0 t) f (aa .time f) s.1 s.2.1 s.2.2)) (λs=>mV t (bb s0 t) f (aa .time f) s.1 s.2.1 s.2.2) ((bb s0 t).A,(bb s0 t).B,0) (.x ((mvF t (bb s0 t) f).A,(mvF t (bb s0 t) f).B)):=by
   refine ia.fold f (λi (b:Time)=>(b.A,b.B,(i:Int))) (λl=>mvF t (bb s0 t) l) rfl (λl x r hx=>?_) ?_
   ·have hlen:f.length=l.length+(r.length+1):=by rw[hx];simp
    have hrd:rd .time f (l.length:Int)=x:=by rw[hx];exact Za
    have hin:inb (l.length:Int) (aa .time f):=by rw[hx];exact Ta (t:=.time)
    have hlss:cmp .lss (l.length:Int) (aa .time f)=true:=by rw[hx];exact fb
    have hox:Ea x=true:=hf x (by rw[hx];simp);have hol:Ea (mvF t (bb s0 t) l)=true:=Caw ht hj0 λs hs=>hf s (by rw[hx];simp[hs]);obtain⟨j1,j2⟩:=BD hox ht;obtain⟨m1,m2⟩:=naz hol (ual hox ht);have hnext:mvF t (bb s0 t) (l++[x])=Mat (mvF t (bb s0 t) l) (bb x t):=by unfold mvF;rw[List.foldl_append];rfl
    have m1':Yae (Time.mk (mvF t (bb s0 t) l).A (mvF t (bb s0 t) l).B) (bb x t):=m1;have m2':Xae (Time.mk (mvF t (bb s0 t) l).A (mvF t (bb s0 t) l).B) (bb x t)=Mat (mvF t (bb s0 t) l) (bb x t):=m2;simp only[mV,PJ,lV,Tr.val,Tr.ob,fa,hlss,hrd,j2,m2',Ua (l:=l) (by omega),hnext];exact⟨by simp[hin,j1,m1'],rfl⟩
   ·have hend:cmp .lss (f.length:Int) (aa .time f)=false:=gb (t:=.time);simp only[mV,PJ,lV,Tr.val,Tr.ob,fa,hend];exact⟨by simp,rfl⟩
  have a2:baf t (bb s0 t) f (aa .time f)=_:=k2.v;have b2:caf t (bb s0 t) f (aa .time f):=k2.t;simp only[Ok,Tp,iaf,haf,oV,gaf,faf,eaf,nV,daf,lpS,Tr.val,Tr.ob,fa,hne,hr0,z2,a2];refine⟨by simp[hi0,z1,b2],?_⟩;rw[← hfe];rfl
def Lat(f:List Time)(a:List Row):List Row:=a.map λx=>(⟨x.Key,x.Val,mvT f x.At,x.Diff⟩ : Row)
theorem Daw{f:List Time}(hf:∀s∈f,Ea s=true){a:List Row}(h:Ib a=true):Ib (Lat f a)=true:=by
 obtain⟨h1,h2⟩:=Bb h;simp only[Ib,Bool.and_eq_true,decide_eq_true_eq,List.all_eq_true];refine⟨λx hx=>?_,by unfold Lat;rw[List.length_map];exact h1⟩;obtain⟨y,hy,rfl⟩:=List.mem_map.1 hx;have hy:=h2 y hy;have hj:=oaz hf (Og hy);simp only[Ea,decide_eq_true_eq]at hj;simp only[vb,decide_eq_true_eq]at hy⊢;omega
theorem qaz{f:List Time}{u:Time}(h:f=[]\/∃s∈f,Bf s u=true)(a:List Row):Va (Lat f a) u=Va a u:=by
 unfold Va Lat;rw[List.filter_map,List.map_map];have e:((λr:Row=>Bf r.At u) ∘ λx:Row=>(⟨x.Key,x.Val,mvT f x.At,x.Diff⟩ : Row))=λr:Row=>Bf r.At u:=funext λx=>paz h x.At;rw[e];rfl
theorem raz{f:List Time}(hf:Sat f=true)(hl:f.length<1000000){a:List Row}(ha:Ib a=true)(hg:Qa (ab (Lat f a))=true):Xav a f/\Wav a f=ab (Lat f a):=by
 obtain⟨l1,m1⟩:=Bb ha;have hfm:=Baw hf;obtain⟨r1,r2⟩:=kN a (by omega);obtain⟨f1,f2⟩:=aaz f (by omega);have hm:=Daw hfm ha;obtain⟨b1,b2⟩:=cm (xs:=Lat f a) (by unfold Lat;rw[List.length_map];omega) (λx hx=>Zf ((Bb hm).2 x hx));rw[if_pos hg]at b2
 have e:kaf a f=Lat f a:=by
  unfold kaf Lat;exact List.map_congr_left λx hx=>by rw[(cay hfm hl (Og (m1 x hx))).2]
 have e1:qV a f:=⟨by omega,λx hx=>(cay hfm hl (Og (m1 x hx))).1⟩;simp only[Xav,Wav,Gax,Fax,Vav,Tr.val,Tr.ob,fa,r2,f2,ha,hf,e,b2];exact⟨by simp[r1,f1,e1,b1],rfl⟩
theorem saz{f:List Time}(hf:Sat f=true)(hl:f.length<1000000){ins:List (List Row)}(hn:ins.length<=1000)(ha:∀a∈ins,Ib a=true/\Qa (ab (Lat f a))=true):Iau ins f/\daw ins f=ins.map λa=>ab (Lat f a):=by
 have k2:ia (λs:List LR×Int=>ca (iau ins f s.1 s.2)) (λs=>Hau ins f s.1 s.2) ([],0) (.x (ins.map λa=>ab (Lat f a))):=by
  refine ia.fold ins (λi b=>(b,(i:Int))) (λl=>l.map λa=>ab (Lat f a)) rfl (λl x r hx=>?_) ?_
  ·have hlen:ins.length=l.length+(r.length+1):=by rw[hx];simp
   have hrd:rd .lrow ins (l.length:Int)=x:=by rw[hx];exact Za
   have hin:inb (l.length:Int) (aa .lrow ins):=by rw[hx];exact Ta (t:=.lrow)
   have hlss:cmp .lss (l.length:Int) (aa .lrow ins)=true:=by rw[hx];exact fb
   obtain⟨h1,h2⟩:=ha x (by rw[hx];simp);obtain⟨m1,m2⟩:=raz hf hl h1 h2;have hlim:∀w,lim (aa .lrow (l.map λa=>ab (Lat f a))) (aa .lrow [w]):=λw=>Wb (t:=.lrow) (show (l.map λa=>ab (Lat f a)).length<1099511627776 by rw[List.length_map];omega);simp only[Hau,iau,Gau,Tr.val,Tr.ob,fa,hlss,hrd,m2,Ua (l:=l) (by omega)];exact⟨by simp[hin,m1,hlim],by rw[List.map_append];rfl⟩
  ·have hend:cmp .lss (ins.length:Int) (aa .lrow ins)=false:=gb (t:=.lrow);simp only[Hau,iau,Gau,Tr.val,Tr.ob,fa,hend];exact⟨by simp,rfl⟩
 have a2:Lay ins f=_:=k2.v;have b2:May ins f:=k2.t;simp only[Iau,daw,Lax,Kax,caw,baw,Oay,Nay,aaw,Zav,lpS,Tr.val,Tr.ob,a2];exact⟨by simp[b2],rfl⟩
theorem taz{x y:List Row}{f:List Time}(hl:f.length<1000000)(hx:Ib x=true)(hy:Ib y=true)(h:∀t,Ea t=true->(f=[]\/f.any (Tat · t)=true)->xd x t=xd y t):waw x y f/\vaw x y f=true:=by
 obtain⟨w1,w2⟩:=pal;have hxl:=(Bb hx).1;have hyl:=(Bb hy).1
 have k2:ia (λs:Int=>ca (lau x y f (allT 8) s)) (λs=>Oau x y f (allT 8) s) 0 (.x ()):=by
  refine ia.fold (allT 8) (λi (_:Unit)=>(i:Int)) (λ_=>()) rfl (λl t r hxx=>?_) ?_
  ·have hlen:(allT 8).length=l.length+(r.length+1):=by rw[hxx];simp
   rw[Wai]at hlen;have hrd:rd .time (allT 8) (l.length:Int)=t:=by rw[hxx];exact Za
   have hin:inb (l.length:Int) (aa .time (allT 8)):=by rw[hxx];exact Ta (t:=.time)
   have hlss:cmp .lss (l.length:Int) (aa .time (allT 8))=true:=by rw[hxx];exact fb
   have ht:Ea t=true:=oal (by rw[hxx];simp)
   have e:Tax x y f (allT 8) l.length/\Sax x y f (allT 8) l.length=.n ():=by
    obtain⟨c1,c2⟩:=baz f t (by omega);obtain⟨v1,v2⟩:=Naj x t (by omega);rw[if_pos ⟨hx,ht⟩]at v2;obtain⟨z1,z2⟩:=Naj y t (by omega);rw[if_pos ⟨hy,ht⟩]at z2;have hpl:=nal hx t;obtain⟨i1,i2⟩:=mal (xd x t) (xd y t) (by omega);simp only[Tax,Sax,naw,Tr.val,Tr.ob,fa,hrd,c2,v2,z2]
    have hz:f=[]\/cmp .gtr (aa .time f) 0=true:=by
     cases f with
     |nil=>exact .inl rfl
     |cons a b=>right;rw[Yc];unfold aa;simp
    rcases hz with rfl|hz
    ·have hg:cmp .gtr (aa .time []) 0=false:=rfl;rw[i2.2 (h t ht (.inl rfl)),hg];exact⟨by simp[hin,v1,z1,i1],rfl⟩
    ·rw[hz];cases hc:Sat f&&f.any (Tat · t) with
     |false=>exact⟨by simp[hin,c1],rfl⟩
     |true=>
      rw[Bool.and_eq_true]at hc;rw[i2.2 (h t ht (.inr hc.2))];exact⟨by simp[hin,c1,v1,z1,i1],rfl⟩
   obtain⟨e1,e2⟩:=e;simp only[Oau,lau,Nau,oaw,Tr.val,Tr.ob,hlss,e2,Ua (l:=l) (by omega)];exact⟨by simp[e1],rfl⟩
  ·have hend:cmp .lss ((allT 8).length:Int) (aa .time (allT 8))=false:=gb (t:=.time);simp only[Oau,lau,Nau,Tr.val,Tr.ob,hend];exact⟨by simp,rfl⟩
 have a2:Tay x y f (allT 8)=_:=k2.v;have b2:Uay x y f (allT 8):=k2.t;simp only[waw,vaw,Wax,Vax,uaw,taw,Way,Vay,qaw,paw,lpS,Tr.val,Tr.ob,fa,w2,a2];exact⟨by simp[w1,b2],rfl⟩
theorem uaz(c e:List Int)(hc:∀x∈c,0<=x/\x<=255)(he:∀x∈e,0<=x/\x<=255):Aaw c e/\zaw c e=true:=by
 by_cases hbig:cond (cmp .gtr (aa .byte c) 1048576) true (cmp .gtr (aa .byte e) 1048576)=true
 ·simp only[Aaw,zaw,yaw,xaw,hbig,ocR,Pau,Tr.val,Tr.ob];exact⟨by simp,trivial⟩
 ·have hbig:cond (cmp .gtr (aa .byte c) 1048576) true (cmp .gtr (aa .byte e) 1048576)=false:=by simpa using hbig
  obtain⟨p,ins,h⟩:=F1 hc;have htiny:=ral hc;rw[h.d2]at htiny;obtain⟨m1,ex,f,m2,m3⟩:=laz he;obtain⟨f1,f2⟩:=Yax f (by omega);simp only[Aaw,zaw,yaw,xaw,Pau,Tr.val,Tr.ob,fa,hbig,h.d2,m2,dg,h.s2,h.i2,f2];cases hF:We p ins with
  |none=>
   have l1:=oN [] [] (by simp);have l2:=pN [] (by simp);simp only[zc,l2,ocR];exact⟨by simp[h.d1,h.s1,h.i1,l1,m1],by simp⟩
  |some x=>
   have g:=G1 hF;have hs:=g.short;have l1:=oN x x (by omega);have l2:=pN x (by omega);simp only[zc,l2];cases hfo:Sat f with
   |false=>exact⟨by simp[h.d1,h.s1,h.i1,l1,m1,f1],by simp[ocR]⟩
   |true=>
    have hfm:=Baw hfo
    have hb:∀a∈ins,Ib a=true/\Qa (ab (Lat f a))=true:=λa ha=>by
     have hra:=bg (g.every a ha);have hrm:=Daw hfm hra
     have hT:nah (Lat f a):=λy hy=>by
      obtain⟨z,hz,rfl⟩:=List.mem_map.1 hy;exact htiny a ha hra z hz
     have hW:=Aal (a:=Lat f a) (e:=[]) hrm rfl (by unfold Lat;rw[List.length_map];exact h.each a ha) (by simp) hT (λy hy=>by cases hy);rw[List.append_nil]at hW;exact⟨hra,hW⟩
    have hil:=h.len;obtain⟨v1,v2⟩:=saz hfo (by omega) (ins:=ins) (by omega) hb;have hil2:(ins.map λa=>ab (Lat f a)).length<1000000:=by rw[List.length_map];omega
    have hel:∀y∈ins.map λa=>ab (Lat f a),y.length<1000000000:=λy hy=>by
     obtain⟨a,ha,rfl⟩:=List.mem_map.1 hy;have:=(Bb (bg (hb a ha).2)).1;omega
    obtain⟨g1,g2⟩:=Z0 p _ hil2 hel;obtain⟨s1,s2⟩:=C1 p _ hil2 hel;simp only[v2,g2,s2];cases hG:We p (ins.map λa=>ab (Lat f a)) with
    |none=>exact⟨by simp[h.d1,h.s1,h.i1,l1,m1,f1,v1,g1,s1,zc],by simp[ocR,zc]⟩
    |some y=>
     have k:=G1 hG
     have hsame:∀t,Ea t=true->(f=[]\/f.any (Tat · t)=true)->xd x t=xd y t:=λt _ hcov=>by
      have hcov:f=[]\/∃s∈f,Bf s t=true:=hcov.imp_right λh=>by
       obtain⟨s,hs,hl⟩:=List.any_eq_true.1 h;simp only[Tat,Bool.and_eq_true]at hl;exact⟨s,hs,hl.2⟩
      rw[Qai t 4 p y k.flow,Qai t 4 p x g.flow,List.map_map]
      congr 1
      refine List.map_congr_left λa ha=>?_;have hi:∀z∈Lat f a,InR z.Diff:=λz hz=>Zf ((Bb (Daw hfm (hb a ha).1)).2 z hz);show xd a t=xd (ab (Lat f a)) t;rw[Aah hi t];show gathI (Va a t)=gathI (Va (Lat f a) t);rw[qaz hcov]
     obtain⟨q1,q2⟩:=taz (f:=f) (by omega) (bg g.batch) (bg k.batch) hsame;simp only[zc,q2];exact⟨by simp[h.d1,h.s1,h.i1,l1,m1,f1,v1,g1,s1,q1],by simp[ocR]⟩
end Go.Proofs.YthfkpijcajdnhaaGreat

namespace Go.Proofs.YthfkpijcajdnhaaGreat
open Go
theorem Cam:Con Tryz.prog 20 Zai:=Ial (.cons Taf (.cons DV (.cons dag (.nil xa ya))))
theorem Dam:Con Tryz.prog 21 faj:=Oal (.nil xa ya)
theorem Eam:Con Tryz.prog 51 kaj:=Tal (.cons paf (.cons eh (.nil xa ya)))
theorem Ham:Con Tryz.prog 27 vaj:=nam (.nil xa ya)
theorem qaB:Con Tryz.prog 109 Jaw:=Aaz (.cons eh (.cons paf (.nil xa ya)))
theorem raB:Con Tryz.prog 121 Paw:=Iaz (.cons xA (.nil xa ya))
theorem saB:Con Tryz.prog 108 jax:=aaA (.cons raB (.cons yV (.nil xa ya)))
theorem taB:Con Tryz.prog 86 nax:=faA (.cons qaB (.cons saB (.nil xa ya)))
theorem uaB:Con Tryz.prog 58 qax:=kaA (.cons taB (.cons eh (.cons Eam (.nil xa ya))))
theorem vaB:Con Tryz.prog 31 tax:=paA (.cons maf (.cons vaf (.cons uaB (.nil xa ya))))
theorem Zay:Con Tryz.prog 32 Mav:=vaA (.cons xA (.nil xa ya))
theorem waB:Con Tryz.prog 87 Cax:=BaA (.cons DV (.nil xa ya))
theorem xaB:Con Tryz.prog 122 Eax:=GaA (.cons DV (.nil xa ya))
theorem yaB:Con Tryz.prog 110 jaf:=MaA (.cons aag (.cons xaB (.nil xa ya)))
theorem zaB:Con Tryz.prog 88 laf:=Da.con (.cons yaB (.nil xa ya))
theorem AaB:Con Tryz.prog 59 Hax:=RaA (.cons Taf (.cons waB (.cons zaB (.cons yA (.nil xa ya)))))
theorem BaB:Con Tryz.prog 33 Max:=XaA (.cons AaB (.nil xa ya))
theorem CaB:Con Tryz.prog 60 Rax:=daB (.cons Zay (.cons yV (.nil xa ya)))
theorem DaB:Con Tryz.prog 34 Xax:=kaB (.cons Ham (.cons CaB (.cons Cam (.cons Dam (.nil xa ya)))))
theorem EaB:Con Tryz.prog 11 Yay:=paB (.cons waf (.cons vaB (.cons Naf (.cons kag (.cons lag (.cons Zay (.cons BaB (.cons DaB (.nil xa ya)))))))))
end Go.Proofs.YthfkpijcajdnhaaGreat
