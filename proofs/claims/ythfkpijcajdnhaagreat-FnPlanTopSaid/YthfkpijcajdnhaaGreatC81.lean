/-
  Printed by a program: what functions compute, and their contracts (part 2). 'DrawPlanFlow' by hand: a list of lists that is cut and written. 'advanced' by hand: a list of one's own is written while a parameter is read. What is drawn for laws of loops: bounds. Sets and steps of loops, by what they compute. Sums over changes, and what is left of them when they are put in order. Sums but for multiples of 2 to the power of 64: what is left of changes put in order depends on these alone. Maps from structs of numbers to 'true': sets; how the machine's operations on them run. What plans make of batches: a model of the operators. Rows, batches, and what they come to at a time: what the program's functions and the reference's compute. What operators make of changes sums up, at each time, to what they make of the sums. What an aggregate makes of changes sums up, at each time, to what it makes of the sums. No statement is proved here.
-/
import Derived.Test.YthfkpijcajdnhaaGreatB2
import Derived.IntWalk

namespace Go.Proofs.YthfkpijcajdnhaaGreat
open Go
noncomputable section
set_option maxRecDepth 100000
def cak:SP:=[(45,Bo),(49,vo),(50,PI)]
abbrev F20:Fnn:=⟨[.tmp 4],.one .fr (.lst .item),none,[]⟩
abbrev Eal:LI->RV:=rvF F20
abbrev Fal:=@OkF Tryz.prog tt Tryz.f20 F20 LI
def cai(a0:LR)(a1:Time):Tr LI Empty Empty Empty Empty:=.w [Ao a0,((!(!(zo a0)))&&true)=true->(ji a1)] (.c (cond (!(zo a0)) true (!(Hf a1))) (.l (.r []))
 (.w [Vo a0 a1] (.l (.r (Uo a0 a1)))))
def Xai:=λa0 a1=>(cai a0 a1).val
def Yai:=λa0 a1=>(cai a0 a1).ob
def Gal:=λa0 a1=>da.mk (Xai a0 a1) (Yai a0 a1) [] [(0,.S .row a0),(1,.agg true [.i a1.A,.i a1.B])] Eal nE nE nE nE
theorem Hal(G:Gd cak){fr a0 a1}:Fal fr (Gal a0 a1):=oa G [(0,[0,3]),(1,[0,3,12]),(2,[4]),(3,[4])] (cai a0 a1)
def Lah(a0:LR)(a1:Time):LI:=ocR (Xai a0 a1)
def Mah(a0:LR)(a1:Time):Prop:=Yai a0 a1
def Zai:Spec:=⟨[(.lst .row),(.st .time)],.one .fr (.lst .item),false,λx=>(Lah x.1 x.2.1,0),λx=>Mah x.1 x.2.1⟩
theorem Ial(G:Gd cak):Con Tryz.prog 20 Zai:=Ba (pts:=[(.lst .row),(.st .time)]) (F:=F20) G λ_ _=>Hal G
def Nah:SP:=[]
abbrev F21:Fnn:=⟨[.tmp 4],.one .fr .bool,none,[]⟩
abbrev aaj:Bool->RV:=rvF F21
abbrev dai:=@OkF Tryz.prog tt Tryz.f21 F21 Bool
def Dah(x4 x5:LI)(s9:Int):Tr Bool Int Unit Empty Empty:=.c (cmp .lss s9 (aa .item x4)) (.w [inb s9 (aa .item x4),inb s9 (aa .item x5)] (.c (!(cmp .eql (rd .item x4 s9).Key (rd .item x5 s9).Key&&(cmp .eql (rd .item x4 s9).Val (rd .item x5 s9).Val&&(cmp .eql (rd .item x4 s9).Count (rd .item x5 s9).Count&&true)))) (.l (.r false))
 (.l (.n (ar .add .i64 s9 1)))))
 (.l (.x ()))
def rah:=λx4 x5 s9=>(Dah x4 x5 s9).val
def Oah:=λx4 x5 s9=>(Dah x4 x5 s9).ob
def baj:=λx4 x5 s9=>Ka (rah x4 x5 s9) (Oah x4 x5 s9) [0,0,1,0,1,1] (λq=>[(0,.S .item x4),(1,.S .item x5),(5,.I q)]) s9 aaj (λ_=>(0,[])) nE nE
theorem Jal(G:Gd Nah){fr x4 x5 s9}:dai fr (baj x4 x5 s9):=oa G [(4,[0,1,5,14]),(5,[0,1,5]),(6,[0,1,5,25]),(7,[4])] (Dah x4 x5 s9)
def caj:=λx4 x5=>lpV (λs:Int=>ca (rah x4 x5 s)) 0
def dak:=λx4 x5=>LpT (λs:Int=>ca (rah x4 x5 s)) (λs=>Oah x4 x5 s) 0
def Pah:=λx4 x5=>lpS (baj x4 x5 0) (caj x4 x5) (dak x4 x5)
theorem Kal(G:Gd Nah){fr x4 x5}:dai fr (Pah x4 x5):=Na (λs:Int=>baj x4 x5 s) 0 λ_=>Jal G
def Qah(x2 x3:LI):Tr Bool Unit Empty Empty Empty:=.s (Pah x2 x3) nE (λ_=>.l (.n ())) nE nE
def daj:=λx2 x3=>(Qah x2 x3).val
def eaj:=λx2 x3=>(Qah x2 x3).ob
def Eah:=λx2 x3=>da.mk (daj x2 x3) (eaj x2 x3) [0,1,1] [(0,.S .item x2),(1,.S .item x3)] aaj (λ_=>[]) nE nE nE
theorem Lal(G:Gd Nah){fr x2 x3}:dai fr (Eah x2 x3):=ga G [([0,1,0,1,1],λe=>⟨Pah (gL .item e 0 0) (gL .item e 1 0)⟩)] ⟨λ_=>⟨rfl,Kal G⟩,trivial⟩ [(3,[0,1,5])] (Qah x2 x3)
def Fah(a0 a1:LI):Tr Bool Empty Empty Empty Empty:=.c (cmp .neq (aa .item a0) (aa .item a1)) (.l (.r false))
 (.s (Eah a0 a1) (λ_=>.l (.r true)) nE nE nE)
def Rah:=λa0 a1=>(Fah a0 a1).val
def Sah:=λa0 a1=>(Fah a0 a1).ob
def Mal:=λa0 a1=>da.mk (Rah a0 a1) (Sah a0 a1) [] [(0,.S .item a0),(1,.S .item a1)] aaj nE nE nE nE
theorem Nal(G:Gd Nah){fr a0 a1}:dai fr (Mal a0 a1):=ga G [([0,1,1],λe=>⟨Eah (gL .item e 0 0) (gL .item e 1 0)⟩)] ⟨λ_=>⟨rfl,Lal G⟩,trivial⟩ [(0,[0,1]),(1,[0,1,10]),(2,[4]),(8,[4])] (Fah a0 a1)
def Gah(a0:LI)(a1:LI):Bool:=ocR (Rah a0 a1)
def Hah(a0:LI)(a1:LI):Prop:=Sah a0 a1
def faj:Spec:=⟨[(.lst .item),(.lst .item)],.one .fr .bool,false,λx=>(Gah x.1 x.2.1,0),λx=>Hah x.1 x.2.1⟩
theorem Oal(G:Gd Nah):Con Tryz.prog 21 faj:=Ba (pts:=[(.lst .item),(.lst .item)]) (F:=F21) G λ_ _=>Nal G
def sah:SP:=[]
abbrev F27:Fnn:=⟨[.tmp 0],.one (.acc true) (.lst .time),none,[]⟩
abbrev Tah:List Time->RV:=rvF F27
abbrev vah:=@OkF Tryz.prog tt Tryz.f27 F27 (List Time)
def Uah(_x29:List Time)(x30:Int)(s34:List Time)(s35:Int):Tr (List Time) ((List Time)×Int) ((List Time)) Empty Empty:=.c (cmp .leq s35 7) (.w [lim (aa .time s34) (aa .time [(Time.mk x30 s35)])] (.l (.n ((s34++[(Time.mk x30 s35)]),(ar .add .i64 s35 1)))))
 (.l (.x s34))
def wah:=λx29 x30 s34 s35=>(Uah x29 x30 s34 s35).val
def Iah:=λx29 x30 s34 s35=>(Uah x29 x30 s34 s35).ob
def raj:=λx29 x30 s34 s35=>Ka (wah x29 x30 s34 s35) (Iah x29 x30 s34 s35) [0,0,1,0,0,1,0,0,1,0,1,1] (λq=>[(1,.A .time q.1),(2,.I x30),(3,.I q.2)]) (s34,s35) Tah (λq=>(2,[(1,.A .time q),(2,.I x30)])) nE nE
theorem fam(G:Gd sah){fr x29 x30 s34 s35}:vah fr (raj x29 x30 s34 s35):=oa G [(6,[1,2,3,10]),(7,[1,2,3]),(8,[1,2,3])] (Uah x29 x30 s34 s35)
def kak:=λx29 x30=>lpV (λs:(List Time)×Int=>ca (wah x29 x30 s.1 s.2)) (x29,0)
def lak:=λx29 x30=>LpT (λs:(List Time)×Int=>ca (wah x29 x30 s.1 s.2)) (λs=>Iah x29 x30 s.1 s.2) (x29,0)
def pai:=λx29 x30=>lpS (raj x29 x30 x29 0) (kak x29 x30) (lak x29 x30)
theorem gam(G:Gd sah){fr x29 x30}:vah fr (pai x29 x30):=Na (λs:(List Time)×Int=>raj x29 x30 s.1 s.2) (x29,0) λ_=>fam G
def qai(x27:List Time)(x28:Int):Tr (List Time) ((List Time)) Empty Empty Empty:=.s (pai x27 x28) nE (λq44=>.l (.n q44)) nE nE
def mak:=λx27 x28=>(qai x27 x28).val
def nak:=λx27 x28=>(qai x27 x28).ob
def rai:=λx27 x28=>da.mk (mak x27 x28) (nak x27 x28) [0,1,0,0,1,0,1,1] [(1,.A .time x27),(2,.I x28)] Tah (λq=>[(1,.A .time q),(2,.I x28)]) nE nE nE
theorem ham(G:Gd sah){fr x27 x28}:vah fr (rai x27 x28):=ga G [([0,1,0,0,1,0,0,1,0,1,1],λe=>⟨pai (gL .time e 1 0) (gI e 2 0)⟩)] ⟨λ_=>⟨rfl,gam G⟩,trivial⟩ [(5,[1,2,3])] (qai x27 x28)
def Vah(s24:List Time)(s25:Int):Tr (List Time) ((List Time)×Int) ((List Time)) Empty Empty:=.c (cmp .leq s25 7) (.s (rai s24 s25) (λq47=>.l (.n (q47,(ar .add .i64 s25 1)))) nE nE nE)
 (.l (.x s24))
def xah:=λs24 s25=>(Vah s24 s25).val
def Jah:=λs24 s25=>(Vah s24 s25).ob
def saj:=λs24 s25=>Ka (xah s24 s25) (Jah s24 s25) [0,0,1,0,1,1] (λq=>[(1,.A .time q.1),(2,.I q.2)]) (s24,s25) Tah (λq=>(0,[(1,.A .time q)])) nE nE
theorem iam(G:Gd sah){fr s24 s25}:vah fr (saj s24 s25):=ga G [([0,1,0,0,1,0,1,1],λe=>⟨rai (gL .time e 1 0) (gI e 2 0)⟩)] ⟨λ_=>⟨rfl,ham G⟩,trivial⟩ [(3,[1,2,6]),(4,[1,2])] (Vah s24 s25)
def oak:=lpV (λs:(List Time)×Int=>ca (xah s.1 s.2)) ([],0)
def pak:=LpT (λs:(List Time)×Int=>ca (xah s.1 s.2)) (λs=>Jah s.1 s.2) ([],0)
def sai:=lpS (saj [] 0) (oak) (pak)
theorem jam(G:Gd sah){fr}:vah fr (sai):=Na (λs:(List Time)×Int=>saj s.1 s.2) ([],0) λ_=>iam G
def tai:Tr (List Time) ((List Time)) Empty Empty Empty:=.s sai nE (λq58=>.l (.n q58)) nE nE
def qak:=(tai).val
def rak:=(tai).ob
def uai:=da.mk (qak) (rak) [0,1,1] [(1,.A .time [])] Tah (λq=>[(1,.A .time q)]) nE nE nE
theorem kam(G:Gd sah){fr}:vah fr (uai):=ga G [([0,1,0,1,1],λe=>⟨sai⟩)] ⟨λ_=>⟨rfl,jam G⟩,trivial⟩ [(2,[1,2])] tai
def vai:Tr (List Time) Empty Empty Empty Empty:=.s uai (λq61=>.l (.r q61)) nE nE nE
def taj:=(vai).val
def uaj:=(vai).ob
def lam:=da.mk (taj) (uaj) [] [] Tah nE nE nE nE
theorem mam(G:Gd sah){fr}:vah fr (lam):=ga G [([0,1,1],λe=>⟨uai⟩)] ⟨λ_=>⟨rfl,kam G⟩,trivial⟩ [(0,[]),(1,[1]),(9,[0])] vai
def wai  : List Time:=ocR (taj)
def xai  : Prop:=uaj
def vaj:Spec:=⟨[],.one (.acc true) (.lst .time),false,λ_=>(wai,0),λ_=>xai⟩
theorem nam(G:Gd sah):Con Tryz.prog 27 vaj:=Ba (pts:=[]) (F:=F27) G λ_ _=>mam G
def Jan:SP:=[(20,Zai)]
abbrev F30:Fnn:=⟨[.tmp 4],.one (.acc true) (.lst .litem),none,[]⟩
abbrev Gap:List LI->RV:=rvF F30
abbrev jao:=@OkF Tryz.prog tt Tryz.f30 F30 (List LI)
def Kan(x3:List LR)(x4:Time)(s9:List LI)(s10:Int):Tr (List LI) ((List LI)×Int) ((List LI)) Empty Empty:=.c (cmp .lss s10 (aa .lrow x3)) (.k (Lah (rd .lrow x3 s10) x4) λu12=>.w [inb s10 (aa .lrow x3),Mah (rd .lrow x3 s10) x4,lim (aa .litem s9) (aa .litem [u12])] (.l (.n ((s9++[u12]),(ar .add .i64 s10 1)))))
 (.l (.x s9))
def van:=λx3 x4 s9 s10=>(Kan x3 x4 s9 s10).val
def Lan:=λx3 x4 s9 s10=>(Kan x3 x4 s9 s10).ob
def Hap:=λx3 x4 s9 s10=>Ka (van x3 x4 s9 s10) (Lan x3 x4 s9 s10) [0,0,1,0,1,1] (λq=>[(0,.S .lrow x3),(3,.B [x4.A,x4.B]),(5,.A .litem q.1),(6,.I q.2)]) (s9,s10) Gap (λq=>(0,[(5,.A .litem q)])) nE nE
theorem Mar(G:Gd Jan){fr x3 x4 s9 s10}:jao fr (Hap x3 x4 s9 s10):=oa G [(3,[0,3,5,6,11]),(4,[0,3,5,6]),(5,[0,3,5,6])] (Kan x3 x4 s9 s10)
def zaq:=λx3 x4=>lpV (λs:(List LI)×Int=>ca (van x3 x4 s.1 s.2)) ([],0)
def Aaq:=λx3 x4=>LpT (λs:(List LI)×Int=>ca (van x3 x4 s.1 s.2)) (λs=>Lan x3 x4 s.1 s.2) ([],0)
def kao:=λx3 x4=>lpS (Hap x3 x4 [] 0) (zaq x3 x4) (Aaq x3 x4)
theorem Nar(G:Gd Jan){fr x3 x4}:jao fr (kao x3 x4):=Na (λs:(List LI)×Int=>Hap x3 x4 s.1 s.2) ([],0) λ_=>Mar G
def lao(x1:List LR)(x2:Time):Tr (List LI) ((List LI)) Empty Empty Empty:=.s (kao x1 x2) nE (λq20=>.l (.n q20)) nE nE
def Baq:=λx1 x2=>(lao x1 x2).val
def Caq:=λx1 x2=>(lao x1 x2).ob
def mao:=λx1 x2=>da.mk (Baq x1 x2) (Caq x1 x2) [0,1,1] [(0,.S .lrow x1),(3,.B [x2.A,x2.B]),(5,.A .litem [])] Gap (λq=>[(5,.A .litem q)]) nE nE nE
theorem Oar(G:Gd Jan){fr x1 x2}:jao fr (mao x1 x2):=ga G [([0,1,0,1,1],λe=>⟨kao (gL .lrow e 0 0) (Kd e 3)⟩)] ⟨λ_=>⟨rfl,Nar G⟩,trivial⟩ [(2,[0,3,5,6])] (lao x1 x2)
def nao(a0:List LR)(a1:Time):Tr (List LI) Empty Empty Empty Empty:=.s (mao a0 a1) (λq23=>.l (.r q23)) nE nE nE
def Iap:=λa0 a1=>(nao a0 a1).val
def Jap:=λa0 a1=>(nao a0 a1).ob
def Par:=λa0 a1=>da.mk (Iap a0 a1) (Jap a0 a1) [] [(0,.S .lrow a0),(1,.agg true [.i a1.A,.i a1.B])] Gap nE nE nE nE
theorem Qar(G:Gd Jan){fr a0 a1}:jao fr (Par a0 a1):=ga G [([0,1,1],λe=>⟨mao (gL .lrow e 0 0) (Kd e 3)⟩)] ⟨λ_=>⟨rfl,Oar G⟩,trivial⟩ [(0,[0,3]),(1,[0,3,5]),(6,[4])] (nao a0 a1)
def oao(a0:List LR)(a1:Time):List LI:=ocR (Iap a0 a1)
def pao(a0:List LR)(a1:Time):Prop:=Jap a0 a1
def Kap:Spec:=⟨[(.lst .lrow),(.st .time)],.one (.acc true) (.lst .litem),false,λx=>(oao x.1 x.2.1,0),λx=>pao x.1 x.2.1⟩
theorem Rar(G:Gd Jan):Con Tryz.prog 30 Kap:=Ba (pts:=[(.lst .lrow),(.st .time)]) (F:=F30) G λ_ _=>Qar G
def Man:SP:=[]
abbrev F56:Fnn:=⟨[.tmp 2],.one .fr .bool,none,[]⟩
abbrev Lap:Bool->RV:=rvF F56
abbrev qao:=@OkF Tryz.prog tt Tryz.f56 F56 Bool
def wan(x2:LI)(x3 s8:Int):Tr Bool Int Unit Empty Empty:=.c (cmp .lss s8 x3) (.w [inb s8 (aa .item x2)] (.c (cond (cond (cond (cond (cond (cond (cmp .lss (rd .item x2 s8).Key 0) true (cmp .geq (rd .item x2 s8).Key 4)) true (cmp .lss (rd .item x2 s8).Val 0)) true (cmp .geq (rd .item x2 s8).Val 100)) true (cmp .eql (rd .item x2 s8).Count 0)) true (cmp .lss (rd .item x2 s8).Count (-1099511627776))) true (cmp .gtr (rd .item x2 s8).Count 1099511627776)) (.l (.r false))
 (.w [((cmp .gtr s8 0)&&true)=true->inb (ar .sub .i64 s8 1) (aa .item x2),((!(cmp .gtr (rd .item x2 (ar .sub .i64 s8 1)).Key (rd .item x2 s8).Key))&&((cmp .gtr s8 0)&&true))=true->inb (ar .sub .i64 s8 1) (aa .item x2),((cmp .eql (rd .item x2 (ar .sub .i64 s8 1)).Key (rd .item x2 s8).Key)&&((!(cmp .gtr (rd .item x2 (ar .sub .i64 s8 1)).Key (rd .item x2 s8).Key))&&((cmp .gtr s8 0)&&true)))=true->inb (ar .sub .i64 s8 1) (aa .item x2)] (.c (cond (cmp .gtr s8 0) (cond (cmp .gtr (rd .item x2 (ar .sub .i64 s8 1)).Key (rd .item x2 s8).Key) true (cond (cmp .eql (rd .item x2 (ar .sub .i64 s8 1)).Key (rd .item x2 s8).Key) (cmp .geq (rd .item x2 (ar .sub .i64 s8 1)).Val (rd .item x2 s8).Val) false)) false) (.l (.r false))
 (.l (.n (ar .add .i64 s8 1)))))))
 (.l (.x ()))
def ran:=λx2 x3 s8=>(wan x2 x3 s8).val
def xan:=λx2 x3 s8=>(wan x2 x3 s8).ob
def Map:=λx2 x3 s8=>Ka (ran x2 x3 s8) (xan x2 x3 s8) [0,0,1,0,1] (λq=>[(0,.S .item x2),(5,.S .item x2),(6,.I x3),(7,.I q)]) s8 Lap (λ_=>(0,[(0,.S .item x2)])) nE nE
theorem Sar(G:Gd Man){fr x2 x3 s8}:qao fr (Map x2 x3 s8):=oa G [(2,[0,5,6,7,8]),(3,[0,3,4,5,6,7]),(4,[0,3,4,5,6,7,44]),(5,[2]),(6,[0,5,6,7,79]),(7,[2]),(8,[0,5,6,7])] (wan x2 x3 s8)
def Daq:=λx2 x3=>lpV (λs:Int=>ca (ran x2 x3 s)) 0
def Eaq:=λx2 x3=>LpT (λs:Int=>ca (ran x2 x3 s)) (λs=>xan x2 x3 s) 0
def rao:=λx2 x3=>lpS (Map x2 x3 0) (Daq x2 x3) (Eaq x2 x3)
theorem Tar(G:Gd Man){fr x2 x3}:qao fr (rao x2 x3):=Na (λs:Int=>Map x2 x3 s) 0 λ_=>Sar G
def sao(x1:LI):Tr Bool Unit Empty Empty Empty:=.s (rao x1 (aa .item x1)) nE (λ_=>.l (.n ())) nE nE
def Faq:=λx1=>(sao x1).val
def Gaq:=λx1=>(sao x1).ob
def tao:=λx1=>da.mk (Faq x1) (Gaq x1) [0,1] [(0,.S .item x1)] Lap (λ_=>[(0,.S .item x1)]) nE nE nE
theorem Uar(G:Gd Man){fr x1}:qao fr (tao x1):=ga G [([0,1,0,1],λe=>⟨rao (gL .item e 0 0) (gI e 6 0)⟩)] ⟨λ_=>⟨rfl,Tar G⟩,trivial⟩ [(1,[0,5,6,7])] (sao x1)
def uao(a0:LI):Tr Bool Empty Empty Empty Empty:=.s (tao a0) (λ_=>.l (.r (cmp .leq (aa .item a0) 400))) nE nE nE
def Nap:=λa0=>(uao a0).val
def Oap:=λa0=>(uao a0).ob
def Var:=λa0=>da.mk (Nap a0) (Oap a0) [] [(0,.S .item a0)] Lap nE nE nE nE
theorem War(G:Gd Man){fr a0}:qao fr (Var a0):=ga G [([0,1],λe=>⟨tao (gL .item e 0 0)⟩)] ⟨λ_=>⟨rfl,Uar G⟩,trivial⟩ [(0,[0]),(9,[2])] (uao a0)
def man(a0:LI):Bool:=ocR (Nap a0)
def nan(a0:LI):Prop:=Oap a0
def san:Spec:=⟨[(.lst .item)],.one .fr .bool,false,λx=>(man x.1,0),λx=>nan x.1⟩
theorem Xar(G:Gd Man):Con Tryz.prog 56 san:=Ba (pts:=[(.lst .item)]) (F:=F56) G λ_ _=>War G
def Haq:SP:=[]
abbrev Pap:Fnn:=⟨[.tmp 2],.one .fr .bool,none,[]⟩
abbrev Yar:Bool->RV:=rvF Pap
abbrev Zar:=@OkF Tryz.prog tt Tryz.f104 Pap Bool
def vao(a0:Int):Tr Bool Empty Empty Empty Empty:=.l (.r (cond (cmp .geq a0 1) (cmp .leq a0 7) false))
def Qap:=λa0=>(vao a0).val
def Rap:=λa0=>(vao a0).ob
def aas:=λa0=>da.mk (Qap a0) (Rap a0) [] [(0,.I a0)] Yar nE nE nE nE
theorem bas(G:Gd Haq){fr a0}:Zar fr (aas a0):=oa G [(0,[0]),(1,[2])] (vao a0)
def wao(a0:Int):Bool:=ocR (Qap a0)
def xao(a0:Int):Prop:=Rap a0
def Sap:Spec:=⟨[(.int .i64)],.one .fr .bool,false,λx=>(wao x.1,0),λx=>xao x.1⟩
theorem cas(G:Gd Haq):Con Tryz.prog 104 Sap:=Ba (pts:=[(.int .i64)]) (F:=Pap) G λ_ _=>bas G
def yan:SP:=[(56,san),(104,Sap),(98,XH),(79,fD)]
abbrev F81:Fnn:=⟨[.tmp 4],.one .fr (.lst .item),none,[]⟩
abbrev yao:LI->RV:=rvF F81
abbrev Nan:=@OkF Tryz.prog tt Tryz.f81 F81 LI
def zao(x25:Int)(x26 x27:LI)(_x28 x29:Int):Tr LI LI Empty Empty Empty:=.w [inb x29 (aa .item x27)] (.k (Tx (rd .item x27 x29).Key (rd .item x27 x29).Val x25) λu30=>.w [Ux (rd .item x27 x29).Key (rd .item x27 x29).Val x25] (.c u30.2.2.1 (.w [lim (aa .item x26) (aa .item [(Item.mk u30.1 u30.2.1 (rd .item x27 x29).Count)])] (.l (.n (x26++[(Item.mk u30.1 u30.2.1 (rd .item x27 x29).Count)]))))
 (.l (.n x26))))
def Iaq:=λx25 x26 x27 x28 x29=>(zao x25 x26 x27 x28 x29).val
def Jaq:=λx25 x26 x27 x28 x29=>(zao x25 x26 x27 x28 x29).ob
def Aao:=λx25 x26 x27 x28 x29=>da.mk (Iaq x25 x26 x27 x28 x29) (Jaq x25 x26 x27 x28 x29) [0,1,1,0,0,1,0,1,1,1] [(1,.I x25),(5,.A .item x26),(20,.S .item x27),(21,.I x28),(22,.I x29)] yao (λq=>[(1,.I x25),(5,.A .item q),(20,.S .item x27),(21,.I x28),(22,.I x29)]) nE nE nE
theorem das(G:Gd yan){fr x25 x26 x27 x28 x29}:Nan fr (Aao x25 x26 x27 x28 x29):=oa G [(6,[1,5,7,20,21,22]),(7,[1,5,7,8,9,10,20,21,22]),(8,[1,5,7,8,9,20,21,22,36]),(9,[1,5,20,21,22])] (zao x25 x26 x27 x28 x29)
def Oan(x6:Int)(x7:LI)(x8:Int)(s22:LI)(s23:Int):Tr LI (LI×Int) LI Empty Empty:=.c (cmp .lss s23 x8) (.s (Aao x6 s22 x7 x8 s23) (λq33=>.l (.n (q33,(ar .add .i64 s23 1)))) nE nE nE)
 (.l (.x s22))
def zan:=λx6 x7 x8 s22 s23=>(Oan x6 x7 x8 s22 s23).val
def Pan:=λx6 x7 x8 s22 s23=>(Oan x6 x7 x8 s22 s23).ob
def Tap:=λx6 x7 x8 s22 s23=>Ka (zan x6 x7 x8 s22 s23) (Pan x6 x7 x8 s22 s23) [0,0,1,0,1,1,1] (λq=>[(1,.I x6),(5,.A .item q.1),(20,.S .item x7),(21,.I x8),(22,.I q.2)]) (s22,s23) yao (λq=>(0,[(5,.A .item q)])) nE nE
theorem eas(G:Gd yan){fr x6 x7 x8 s22 s23}:Nan fr (Tap x6 x7 x8 s22 s23):=ga G [([0,1,1,0,0,1,0,1,1,1],λe=>⟨Aao (gI e 1 0) (gL .item e 5 0) (gL .item e 20 0) (gI e 21 0) (gI e 22 0)⟩)] ⟨λ_=>⟨rfl,das G⟩,trivial⟩ [(5,[1,5,20,21,22,23]),(10,[1,5,20,21,22])] (Oan x6 x7 x8 s22 s23)
def Kaq:=λx6 x7 x8=>lpV (λs:LI×Int=>ca (zan x6 x7 x8 s.1 s.2)) ([],0)
def Laq:=λx6 x7 x8=>LpT (λs:LI×Int=>ca (zan x6 x7 x8 s.1 s.2)) (λs=>Pan x6 x7 x8 s.1 s.2) ([],0)
def Bao:=λx6 x7 x8=>lpS (Tap x6 x7 x8 [] 0) (Kaq x6 x7 x8) (Laq x6 x7 x8)
theorem fas(G:Gd yan){fr x6 x7 x8}:Nan fr (Bao x6 x7 x8):=Na (λs:LI×Int=>Tap x6 x7 x8 s.1 s.2) ([],0) λ_=>eas G
def Cao(x4:LI)(x5:Int):Tr LI LI Empty Empty Empty:=.s (Bao x5 x4 (aa .item x4)) nE (λq44=>.l (.n q44)) nE nE
def Maq:=λx4 x5=>(Cao x4 x5).val
def Naq:=λx4 x5=>(Cao x4 x5).ob
def Dao:=λx4 x5=>da.mk (Maq x4 x5) (Naq x4 x5) [0,1,1,1] [(0,.S .item x4),(1,.I x5),(5,.A .item [])] yao (λq=>[(5,.A .item q)]) nE nE nE
theorem gas(G:Gd yan){fr x4 x5}:Nan fr (Dao x4 x5):=ga G [([0,1,0,1,1,1],λe=>⟨Bao (gI e 1 0) (gL .item e 20 0) (gI e 21 0)⟩)] ⟨λ_=>⟨rfl,fas G⟩,trivial⟩ [(4,[1,5,20,21,22])] (Cao x4 x5)
def Eao(a0:LI)(a1:Int):Tr LI Empty Empty Empty Empty:=.w [nan a0,((!(!(man a0)))&&true)=true->(xao a1)] (.c (cond (!(man a0)) true (!(wao a1))) (.l (.r []))
 (.s (Dao a0 a1) (λq47=>.w [Kl q47] (.l (.r (nr q47)))) nE nE nE))
def Uap:=λa0 a1=>(Eao a0 a1).val
def Vap:=λa0 a1=>(Eao a0 a1).ob
def ias:=λa0 a1=>da.mk (Uap a0 a1) (Vap a0 a1) [] [(0,.S .item a0),(1,.I a1)] yao nE nE nE nE
theorem jas(G:Gd yan){fr a0 a1}:Nan fr (ias a0 a1):=ga G [([0,1,1,1],λe=>⟨Dao (gL .item e 0 0) (gI e 1 0)⟩)] ⟨λ_=>⟨rfl,gas G⟩,trivial⟩ [(0,[0,1]),(1,[0,1,18]),(2,[4]),(3,[0,1,5]),(11,[4])] (Eao a0 a1)
def Fao(a0:LI)(a1:Int):LI:=ocR (Uap a0 a1)
def Gao(a0:LI)(a1:Int):Prop:=Vap a0 a1
def Wap:Spec:=⟨[(.lst .item),(.int .i64)],.one .fr (.lst .item),false,λx=>(Fao x.1 x.2.1,0),λx=>Gao x.1 x.2.1⟩
theorem kas(G:Gd yan):Con Tryz.prog 81 Wap:=Ba (pts:=[(.lst .item),(.int .i64)]) (F:=F81) G λ_ _=>jas G
def Oaq:SP:=[(56,san),(79,fD)]
abbrev F82:Fnn:=⟨[.tmp 4],.one .fr (.lst .item),none,[]⟩
abbrev las:LI->RV:=rvF F82
abbrev mas:=@OkF Tryz.prog tt Tryz.f82 F82 LI
def Hao(a0 a1:LI):Tr LI Empty Empty Empty Empty:=.w [nan a0,((!(!(man a0)))&&true)=true->(nan a1)] (.c (cond (!(man a0)) true (!(man a1))) (.l (.r []))
 (.w [lim (aa .item []) (aa .item a0),lim (aa .item ([]++a0)) (aa .item a1),Kl (([]++a0)++a1)] (.l (.r (nr (([]++a0)++a1))))))
def Xap:=λa0 a1=>(Hao a0 a1).val
def Yap:=λa0 a1=>(Hao a0 a1).ob
def nas:=λa0 a1=>da.mk (Xap a0 a1) (Yap a0 a1) [] [(0,.S .item a0),(1,.S .item a1)] las nE nE nE nE
theorem oas(G:Gd Oaq){fr a0 a1}:mas fr (nas a0 a1):=oa G [(0,[0,1]),(1,[0,1,12]),(2,[4]),(3,[4])] (Hao a0 a1)
def Iao(a0:LI)(a1:LI):LI:=ocR (Xap a0 a1)
def Jao(a0:LI)(a1:LI):Prop:=Yap a0 a1
def Zap:Spec:=⟨[(.lst .item),(.lst .item)],.one .fr (.lst .item),false,λx=>(Iao x.1 x.2.1,0),λx=>Jao x.1 x.2.1⟩
theorem pas(G:Gd Oaq):Con Tryz.prog 82 Zap:=Ba (pts:=[(.lst .item),(.lst .item)]) (F:=F82) G λ_ _=>oas G
def Qan:SP:=[(56,san)]
abbrev F83:Fnn:=⟨[.tmp 2],.one (.acc false) (.lst .item),none,[2]⟩
abbrev aaq:LI->RV:=rvF F83
abbrev Kao:=@OkF Tryz.prog tt Tryz.f83 F83 LI
def Ran(_x4:LI)(x5:Int)(s9:LI)(s10:Int):Tr LI (LI×Int) LI Empty Empty:=.c (cmp .lss s10 x5) (.w [inb s10 (aa .item s9),inb s10 (aa .item s9),inb s10 (aa .item s9)] (.l (.n ((List.set s9 (Int.toNat s10) (Item.mk (rd .item s9 s10).Key (rd .item s9 s10).Val (IntKind.wrap .i64 (0 - (rd .item s9 s10).Count)))),(ar .add .i64 s10 1)))))
 (.l (.x s9))
def Aan:=λx4 x5 s9 s10=>(Ran x4 x5 s9 s10).val
def San:=λx4 x5 s9 s10=>(Ran x4 x5 s9 s10).ob
def baq:=λx4 x5 s9 s10=>Ka (Aan x4 x5 s9 s10) (San x4 x5 s9 s10) [0,0,1,0,1,1,1] (λq=>[(3,.v (.own false) (.lst .item q.1)),(12,.I x5),(13,.I q.2)]) (s9,s10) aaq (λq=>(0,[(3,.v (.own false) (.lst .item q))])) nE nE
theorem qas(G:Gd Qan){fr x4 x5 s9 s10}:Kao fr (baq x4 x5 s9 s10):=oa G [(5,[3,12,13,14]),(6,[3,4,12,13]),(7,[3,12,13]),(8,[3,12,13])] (Ran x4 x5 s9 s10)
def Paq:=λx4 x5=>lpV (λs:LI×Int=>ca (Aan x4 x5 s.1 s.2)) (x4,0)
def Qaq:=λx4 x5=>LpT (λs:LI×Int=>ca (Aan x4 x5 s.1 s.2)) (λs=>San x4 x5 s.1 s.2) (x4,0)
def Lao:=λx4 x5=>lpS (baq x4 x5 x4 0) (Paq x4 x5) (Qaq x4 x5)
theorem ras(G:Gd Qan){fr x4 x5}:Kao fr (Lao x4 x5):=Na (λs:LI×Int=>baq x4 x5 s.1 s.2) (x4,0) λ_=>qas G
def Mao(x3:LI):Tr LI LI Empty Empty Empty:=.s (Lao x3 (aa .item x3)) nE (λq19=>.l (.n q19)) nE nE
def Raq:=λx3=>(Mao x3).val
def Saq:=λx3=>(Mao x3).ob
def Nao:=λx3=>da.mk (Raq x3) (Saq x3) [0,1,1,1] [(3,.v (.acc false) (.lst .item x3))] aaq (λq=>[(3,.v (.own false) (.lst .item q))]) nE nE nE
theorem sas(G:Gd Qan){fr x3}:Kao fr (Nao x3):=FC G [([0,1,0,1,1,1],λe=>⟨Lao (gL .item e 3 0) (gI e 12 0)⟩)] ⟨λ_=>⟨rfl,ras G⟩,trivial⟩ [(4,[3,12,13])] [(4,3)] [] (Mao x3) rfl rfl (by kernel_rfl)
def Oao(a0:LI):Tr LI Empty Empty Empty Empty:=.w [nan a0] (.c (!(man a0)) (.l (.r []))
 (.w [lim (aa .item []) (aa .item a0)] (.s (Nao ([]++a0)) (λq22=>.l (.r q22)) nE nE nE)))
def caq:=λa0=>(Oao a0).val
def daq:=λa0=>(Oao a0).ob
def tas:=λa0=>da.mk (caq a0) (daq a0) [] [(0,.S .item a0)] aaq nE nE nE nE
theorem uas(G:Gd Qan){fr a0}:Kao fr (tas a0):=ga G [([0,1,1,1],λe=>⟨Nao (gL .item e 3 0)⟩)] ⟨λ_=>⟨rfl,sas G⟩,trivial⟩ [(0,[0]),(1,[0,7]),(2,[2]),(3,[3]),(9,[2])] (Oao a0)
def Pao(a0:LI):LI:=ocR (caq a0)
def Qao(a0:LI):Prop:=daq a0
def eaq:Spec:=⟨[(.lst .item)],.one (.acc false) (.lst .item),false,λx=>(Pao x.1,0),λx=>Qao x.1⟩
theorem vas(G:Gd Qan):Con Tryz.prog 83 eaq:=Ba (pts:=[(.lst .item)]) (F:=F83) G λ_ _=>uas G
def oan:SP:=[(56,san),(99,uI),(79,fD)]
abbrev F84:Fnn:=⟨[.tmp 4],.one .fr (.lst .item),none,[]⟩
abbrev Ban:LI->RV:=rvF F84
abbrev tan:=@OkF Tryz.prog tt Tryz.f84 F84 LI
def Rao(x101 x102:LI)(x103:Item)(_x104:LI)(_x105 _x106 _x107 x108:Int):Tr LI LI Empty Empty Empty:=.w [inb x108 (aa .item x101)] (.c (cmp .eql x103.Key (rd .item x101 x108).Key) (.k (sI x103.Val (rd .item x101 x108).Val) λu110=>.w [tI x103.Val (rd .item x101 x108).Val,lim (aa .item x102) (aa .item [(Item.mk x103.Key u110 (ar .mul .i64 x103.Count (rd .item x101 x108).Count))])] (.l (.n (x102++[(Item.mk x103.Key u110 (ar .mul .i64 x103.Count (rd .item x101 x108).Count))]))))
 (.l (.n x102)))
def Taq:=λx101 x102 x103 x104 x105 x106 x107 x108=>(Rao x101 x102 x103 x104 x105 x106 x107 x108).val
def Uaq:=λx101 x102 x103 x104 x105 x106 x107 x108=>(Rao x101 x102 x103 x104 x105 x106 x107 x108).ob
def Sao:=λx101 x102 x103 x104 x105 x106 x107 x108=>da.mk (Taq x101 x102 x103 x104 x105 x106 x107 x108) (Uaq x101 x102 x103 x104 x105 x106 x107 x108) [0,1,1,0,0,1,1,0,0,1,1,0,0,1,0,1,1,1] [(1,.S .item x101),(5,.A .item x102),(7,.B [x103.Key,x103.Val,x103.Count]),(19,.S .item x104),(20,.I x105),(21,.I x106),(25,.S .item x101),(26,.I x107),(27,.I x108)] Ban (λq=>[(1,.S .item x101),(5,.A .item q),(7,.B [x103.Key,x103.Val,x103.Count]),(19,.S .item x104),(20,.I x105),(21,.I x106),(25,.S .item x101),(26,.I x107),(27,.I x108)]) nE nE nE
theorem xas(G:Gd oan){fr x101 x102 x103 x104 x105 x106 x107 x108}:tan fr (Sao x101 x102 x103 x104 x105 x106 x107 x108):=oa G [(9,[1,5,7,9,19,20,21,25,26,27]),(10,[1,5,7,9,19,20,21,25,26,27,35]),(11,[1,5,7,19,20,21,25,26,27])] (Rao x101 x102 x103 x104 x105 x106 x107 x108)
def Tan(x74 _x75:LI)(x76:Item)(x77:LI)(x78 x79 x80:Int)(s98:LI)(s99:Int):Tr LI (LI×Int) LI Empty Empty:=.c (cmp .lss s99 x80) (.s (Sao x74 s98 x76 x77 x78 x79 x80 s99) (λq112=>.l (.n (q112,(ar .add .i64 s99 1)))) nE nE nE)
 (.l (.x s98))
def Can:=λx74 x75 x76 x77 x78 x79 x80 s98 s99=>(Tan x74 x75 x76 x77 x78 x79 x80 s98 s99).val
def Uan:=λx74 x75 x76 x77 x78 x79 x80 s98 s99=>(Tan x74 x75 x76 x77 x78 x79 x80 s98 s99).ob
def faq:=λx74 x75 x76 x77 x78 x79 x80 s98 s99=>Ka (Can x74 x75 x76 x77 x78 x79 x80 s98 s99) (Uan x74 x75 x76 x77 x78 x79 x80 s98 s99) [0,0,1,1,0,0,1,1,0,0,1,0,1,1,1] (λq=>[(1,.S .item x74),(5,.A .item q.1),(7,.B [x76.Key,x76.Val,x76.Count]),(19,.S .item x77),(20,.I x78),(21,.I x79),(25,.S .item x74),(26,.I x80),(27,.I q.2)]) (s98,s99) Ban (λq=>(2,[(1,.S .item x74),(5,.A .item q),(19,.S .item x77),(20,.I x78),(21,.I x79)])) nE nE
theorem yas(G:Gd oan){fr x74 x75 x76 x77 x78 x79 x80 s98 s99}:tan fr (faq x74 x75 x76 x77 x78 x79 x80 s98 s99):=ga G [([0,1,1,0,0,1,1,0,0,1,1,0,0,1,0,1,1,1],λe=>⟨Sao (gL .item e 1 0) (gL .item e 5 0) (dah e 7) (gL .item e 19 0) (gI e 20 0) (gI e 21 0) (gI e 26 0) (gI e 27 0)⟩)] ⟨λ_=>⟨rfl,xas G⟩,trivial⟩ [(8,[1,5,7,19,20,21,25,26,27,28]),(12,[1,5,7,19,20,21,25,26,27])] (Tan x74 x75 x76 x77 x78 x79 x80 s98 s99)
def Vaq:=λx74 x75 x76 x77 x78 x79 x80=>lpV (λs:LI×Int=>ca (Can x74 x75 x76 x77 x78 x79 x80 s.1 s.2)) (x75,0)
def Waq:=λx74 x75 x76 x77 x78 x79 x80=>LpT (λs:LI×Int=>ca (Can x74 x75 x76 x77 x78 x79 x80 s.1 s.2)) (λs=>Uan x74 x75 x76 x77 x78 x79 x80 s.1 s.2) (x75,0)
def Tao:=λx74 x75 x76 x77 x78 x79 x80=>lpS (faq x74 x75 x76 x77 x78 x79 x80 x75 0) (Vaq x74 x75 x76 x77 x78 x79 x80) (Waq x74 x75 x76 x77 x78 x79 x80)
theorem zas(G:Gd oan){fr x74 x75 x76 x77 x78 x79 x80}:tan fr (Tao x74 x75 x76 x77 x78 x79 x80):=Na (λs:LI×Int=>faq x74 x75 x76 x77 x78 x79 x80 s.1 s.2) (x75,0) λ_=>yas G
def Uao(x69 x70 x71:LI)(x72 x73:Int):Tr LI LI Empty Empty Empty:=.w [inb x73 (aa .item x71)] (.s (Tao x69 x70 (rd .item x71 x73) x71 x72 x73 (aa .item x69)) nE (λq123=>.l (.n q123)) nE nE)
def Xaq:=λx69 x70 x71 x72 x73=>(Uao x69 x70 x71 x72 x73).val
def Yaq:=λx69 x70 x71 x72 x73=>(Uao x69 x70 x71 x72 x73).ob
def Vao:=λx69 x70 x71 x72 x73=>da.mk (Xaq x69 x70 x71 x72 x73) (Yaq x69 x70 x71 x72 x73) [0,1,1,0,0,1,0,1,1,1] [(1,.S .item x69),(5,.A .item x70),(19,.S .item x71),(20,.I x72),(21,.I x73)] Ban (λq=>[(1,.S .item x69),(5,.A .item q),(19,.S .item x71),(20,.I x72),(21,.I x73)]) nE nE nE
theorem Aas(G:Gd oan){fr x69 x70 x71 x72 x73}:tan fr (Vao x69 x70 x71 x72 x73):=ga G [([0,1,1,0,0,1,1,0,0,1,0,1,1,1],λe=>⟨Tao (gL .item e 1 0) (gL .item e 5 0) (dah e 7) (gL .item e 19 0) (gI e 20 0) (gI e 21 0) (gI e 26 0)⟩)] ⟨λ_=>⟨rfl,zas G⟩,trivial⟩ [(6,[1,5,7,19,20,21]),(7,[1,5,7,19,20,21,25,26,27])] (Uao x69 x70 x71 x72 x73)
def Van(x6 x7:LI)(x8:Int)(s66:LI)(s67:Int):Tr LI (LI×Int) LI Empty Empty:=.c (cmp .lss s67 x8) (.s (Vao x6 s66 x7 x8 s67) (λq126=>.l (.n (q126,(ar .add .i64 s67 1)))) nE nE nE)
 (.l (.x s66))
def Dan:=λx6 x7 x8 s66 s67=>(Van x6 x7 x8 s66 s67).val
def Wan:=λx6 x7 x8 s66 s67=>(Van x6 x7 x8 s66 s67).ob
def gaq:=λx6 x7 x8 s66 s67=>Ka (Dan x6 x7 x8 s66 s67) (Wan x6 x7 x8 s66 s67) [0,0,1,0,1,1,1] (λq=>[(1,.S .item x6),(5,.A .item q.1),(19,.S .item x7),(20,.I x8),(21,.I q.2)]) (s66,s67) Ban (λq=>(0,[(5,.A .item q)])) nE nE
theorem Bas(G:Gd oan){fr x6 x7 x8 s66 s67}:tan fr (gaq x6 x7 x8 s66 s67):=ga G [([0,1,1,0,0,1,0,1,1,1],λe=>⟨Vao (gL .item e 1 0) (gL .item e 5 0) (gL .item e 19 0) (gI e 20 0) (gI e 21 0)⟩)] ⟨λ_=>⟨rfl,Aas G⟩,trivial⟩ [(5,[1,5,19,20,21,22]),(13,[1,5,19,20,21])] (Van x6 x7 x8 s66 s67)
def Zaq:=λx6 x7 x8=>lpV (λs:LI×Int=>ca (Dan x6 x7 x8 s.1 s.2)) ([],0)
def aar:=λx6 x7 x8=>LpT (λs:LI×Int=>ca (Dan x6 x7 x8 s.1 s.2)) (λs=>Wan x6 x7 x8 s.1 s.2) ([],0)
def Wao:=λx6 x7 x8=>lpS (gaq x6 x7 x8 [] 0) (Zaq x6 x7 x8) (aar x6 x7 x8)
theorem Cas(G:Gd oan){fr x6 x7 x8}:tan fr (Wao x6 x7 x8):=Na (λs:LI×Int=>gaq x6 x7 x8 s.1 s.2) ([],0) λ_=>Bas G
def Xao(x4 x5:LI):Tr LI LI Empty Empty Empty:=.s (Wao x5 x4 (aa .item x4)) nE (λq137=>.l (.n q137)) nE nE
def bar:=λx4 x5=>(Xao x4 x5).val
def car:=λx4 x5=>(Xao x4 x5).ob
def Yao:=λx4 x5=>da.mk (bar x4 x5) (car x4 x5) [0,1,1,1] [(0,.S .item x4),(1,.S .item x5),(5,.A .item [])] Ban (λq=>[(5,.A .item q)]) nE nE nE
theorem Das(G:Gd oan){fr x4 x5}:tan fr (Yao x4 x5):=ga G [([0,1,0,1,1,1],λe=>⟨Wao (gL .item e 1 0) (gL .item e 19 0) (gI e 20 0)⟩)] ⟨λ_=>⟨rfl,Cas G⟩,trivial⟩ [(4,[1,5,19,20,21])] (Xao x4 x5)
def Zao(a0 a1:LI):Tr LI Empty Empty Empty Empty:=.w [nan a0,((!(!(man a0)))&&true)=true->(nan a1)] (.c (cond (!(man a0)) true (!(man a1))) (.l (.r []))
 (.s (Yao a0 a1) (λq140=>.w [Kl q140] (.l (.r (nr q140)))) nE nE nE))
def haq:=λa0 a1=>(Zao a0 a1).val
def iaq:=λa0 a1=>(Zao a0 a1).ob
def Eas:=λa0 a1=>da.mk (haq a0 a1) (iaq a0 a1) [] [(0,.S .item a0),(1,.S .item a1)] Ban nE nE nE nE
theorem Fas(G:Gd oan){fr a0 a1}:tan fr (Eas a0 a1):=ga G [([0,1,1,1],λe=>⟨Yao (gL .item e 0 0) (gL .item e 1 0)⟩)] ⟨λ_=>⟨rfl,Das G⟩,trivial⟩ [(0,[0,1]),(1,[0,1,17]),(2,[4]),(3,[0,1,5]),(14,[4])] (Zao a0 a1)
def aap(a0:LI)(a1:LI):LI:=ocR (haq a0 a1)
def bap(a0:LI)(a1:LI):Prop:=iaq a0 a1
def jaq:Spec:=⟨[(.lst .item),(.lst .item)],.one .fr (.lst .item),false,λx=>(aap x.1 x.2.1,0),λx=>bap x.1 x.2.1⟩
theorem Gas(G:Gd oan):Con Tryz.prog 84 jaq:=Ba (pts:=[(.lst .item),(.lst .item)]) (F:=F84) G λ_ _=>Fas G
abbrev V57:=Plan->List LI->LI×Bool×Unit
abbrev Q57:=Plan->List LI->Prop
def dap(v:V57)(p:Q57):Spec:=⟨[(.st .plan),(.lst .litem)],.tup [(false,(.lst .item)),(true,.bool)],false,λx=>(v x.1 x.2.1,0),λx=>p x.1 x.2.1⟩
def Ean(r57V:V57)(r57P:Q57):SP:=[(57,dap r57V r57P),(81,Wap),(82,Zap),(83,eaq),(84,jaq),(85,kJ),(56,san)]
abbrev F57:Fnn:=⟨[.tmp 4,.tmp 5],.tup [(false,(.lst .item)),(true,.bool)],none,[]⟩
abbrev eap:LI×Bool×Unit->RV:=rvF F57
abbrev Xan:=@OkF Tryz.prog tt Tryz.f57 F57 (LI×Bool×Unit)
def Yan(r57V:V57)(r57P:Q57)(x5:List LI)(_x6 _x7:Int)(x8:LP)(x9:Int)(s15:List LI)(s16:Int):Tr (LI×Bool×Unit) ((List LI)×Int) ((List LI)) Empty Empty:=.c (cmp .lss s16 x9) (.w [inb s16 (aa .plan x8)] (.k (r57V (Plan.mk (rd .plan x8 s16).Kind (rd .plan x8 s16).Num (rd .plan x8 s16).Kids) x5) λu18=>.w [r57P (Plan.mk (rd .plan x8 s16).Kind (rd .plan x8 s16).Num (rd .plan x8 s16).Kids) x5] (.c (!u18.2.1) (.l (.r ([],(false,()))))
 (.w [lim (aa .litem s15) (aa .litem [u18.1])] (.l (.n ((s15++[u18.1]),(ar .add .i64 s16 1))))))))
 (.l (.x s15))
def Fan:=λr57V r57P x5 x6 x7 x8 x9 s15 s16=>(Yan r57V r57P x5 x6 x7 x8 x9 s15 s16).val
def Zan:=λr57V r57P x5 x6 x7 x8 x9 s15 s16=>(Yan r57V r57P x5 x6 x7 x8 x9 s15 s16).ob
def kaq:=λr57V r57P x5 x6 x7 x8 x9 s15 s16=>Ka (Fan r57V r57P x5 x6 x7 x8 x9 s15 s16) (Zan r57V r57P x5 x6 x7 x8 x9 s15 s16) [0,0,1,0,1,1] (λq=>[(1,.S .litem x5),(2,.box [(.fr,.i x6),(.fr,.i x7),(.sh,.lst .plan x8)]),(6,.v (.acc false) (.lst .litem q.1)),(13,.S .plan x8),(14,.I x9),(15,.I q.2)]) (s15,s16) eap (λq=>(0,[(1,.S .litem x5),(2,.box [(.fr,.i x6),(.fr,.i x7),(.sh,.lst .plan x8)]),(6,.v (.acc false) (.lst .litem q))])) nE nE
theorem Has{r57V:V57}{r57P:Q57}(G:Gd (Ean r57V r57P)){fr x5 x6 x7 x8 x9 s15 s16}:Xan fr (kaq r57V r57P x5 x6 x7 x8 x9 s15 s16):=oa G [(3,[1,2,6,13,14,15,16]),(4,[1,2,6,8,13,14,15]),(5,[1,2,6,9,10,13,14,15]),(6,[1,2,6,9,13,14,15,26]),(7,[4,5]),(8,[1,2,6,13,14,15]),(9,[1,2,6,13,14,15])] (Yan r57V r57P x5 x6 x7 x8 x9 s15 s16)
def dar:=λr57V r57P x5 x6 x7 x8 x9=>lpV (λs:(List LI)×Int=>ca (Fan r57V r57P x5 x6 x7 x8 x9 s.1 s.2)) ([],0)
def ear:=λr57V r57P x5 x6 x7 x8 x9=>LpT (λs:(List LI)×Int=>ca (Fan r57V r57P x5 x6 x7 x8 x9 s.1 s.2)) (λs=>Zan r57V r57P x5 x6 x7 x8 x9 s.1 s.2) ([],0)
def fap:=λr57V r57P x5 x6 x7 x8 x9=>lpS (kaq r57V r57P x5 x6 x7 x8 x9 [] 0) (dar r57V r57P x5 x6 x7 x8 x9) (ear r57V r57P x5 x6 x7 x8 x9)
theorem Ias{r57V:V57}{r57P:Q57}(G:Gd (Ean r57V r57P)){fr x5 x6 x7 x8 x9}:Xan fr (fap r57V r57P x5 x6 x7 x8 x9):=Na (λs:(List LI)×Int=>kaq r57V r57P x5 x6 x7 x8 x9 s.1 s.2) ([],0) λ_=>Has G
def gap(r57V:V57)(r57P:Q57)(x1:List LI)(x2 x3:Int)(x4:LP):Tr (LI×Bool×Unit) ((List LI)) Empty Empty Empty:=.s (fap r57V r57P x1 x2 x3 x4 (aa .plan x4)) nE (λq27=>.l (.n q27)) nE nE
def gar:=λr57V r57P x1 x2 x3 x4=>(gap r57V r57P x1 x2 x3 x4).val
def har:=λr57V r57P x1 x2 x3 x4=>(gap r57V r57P x1 x2 x3 x4).ob
def iap:=λr57V r57P x1 x2 x3 x4=>da.mk (gar r57V r57P x1 x2 x3 x4) (har r57V r57P x1 x2 x3 x4) [0,1,1] [(1,.S .litem x1),(2,.box [(.fr,.i x2),(.fr,.i x3),(.sh,.lst .plan x4)]),(6,.v .fr (.nl .litem))] eap (λq=>[(1,.S .litem x1),(2,.box [(.fr,.i x2),(.fr,.i x3),(.sh,.lst .plan x4)]),(6,.v (.acc false) (.lst .litem q))]) nE nE nE
theorem Jas{r57V:V57}{r57P:Q57}(G:Gd (Ean r57V r57P)){fr x1 x2 x3 x4}:Xan fr (iap r57V r57P x1 x2 x3 x4):=ga G [([0,1,0,1,1],λe=>⟨fap r57V r57P (gL .litem e 1 0) (gI e 2 0) (gI e 2 1) (gL .plan e 2 2) (gI e 14 0)⟩)] ⟨λ_=>⟨rfl,Ias G⟩,trivial⟩ [(2,[1,2,6,13,14,15])] (gap r57V r57P x1 x2 x3 x4)
def jap(_r57V:V57)(_r57P:Q57)(x32:List LI)(x33 x34:Int)(_x35:LP)(x36:List LI):Tr (LI×Bool×Unit) LI Empty Empty Empty:=.c (cmp .eql x33 1) (.w [inb x34 (aa .litem x32),lim (aa .item []) (aa .item (rd .litem x32 x34))] (.l (.n ([]++(rd .litem x32 x34)))))
 (.c (cmp .eql x33 2) (.w [inb 0 (aa .litem x36),Gao (rd .litem x36 0) x34] (.l (.n (Fao (rd .litem x36 0) x34))))
 (.c (cmp .eql x33 3) (.w [inb 0 (aa .litem x36),inb 1 (aa .litem x36),Jao (rd .litem x36 0) (rd .litem x36 1)] (.l (.n (Iao (rd .litem x36 0) (rd .litem x36 1)))))
 (.c (cmp .eql x33 4) (.w [inb 0 (aa .litem x36),Qao (rd .litem x36 0)] (.l (.n (Pao (rd .litem x36 0)))))
 (.c (cmp .eql x33 5) (.w [inb 0 (aa .litem x36),inb 1 (aa .litem x36),bap (rd .litem x36 0) (rd .litem x36 1)] (.l (.n (aap (rd .litem x36 0) (rd .litem x36 1)))))
 (.w [inb 0 (aa .litem x36),Dz (rd .litem x36 0) x34] (.l (.n (Cz (rd .litem x36 0) x34))))))))
def laq:=λr57V r57P x32 x33 x34 x35 x36=>(jap r57V r57P x32 x33 x34 x35 x36).val
def maq:=λr57V r57P x32 x33 x34 x35 x36=>(jap r57V r57P x32 x33 x34 x35 x36).ob
def kap:=λr57V r57P x32 x33 x34 x35 x36=>da.mk (laq r57V r57P x32 x33 x34 x35 x36) (maq r57V r57P x32 x33 x34 x35 x36) [0,1,1,1,1] [(1,.S .litem x32),(2,.box [(.fr,.i x33),(.fr,.i x34),(.sh,.lst .plan x35)]),(6,.v (.acc false) (.lst .litem x36))] eap (λq=>[(11,.S .item q)]) nE nE nE
theorem Kas{r57V:V57}{r57P:Q57}(G:Gd (Ean r57V r57P)){fr x32 x33 x34 x35 x36}:Xan fr (kap r57V r57P x32 x33 x34 x35 x36):=oa G [(11,[1,2,6,33]),(12,[11]),(13,[1,2,6,33,40]),(14,[11]),(15,[2,6,33,49]),(16,[11]),(17,[2,6,33,57]),(18,[11]),(19,[2,6,33,66]),(20,[11]),(21,[2,6,72]),(22,[11])] (jap r57V r57P x32 x33 x34 x35 x36)
def lap(r57V:V57)(r57P:Q57)(a0:Plan)(a1:List LI):Tr (LI×Bool×Unit) Empty Empty Empty Empty:=.s (iap r57V r57P a1 a0.Kind a0.Num a0.Kids) (λq30=>.s (kap r57V r57P a1 a0.Kind a0.Num a0.Kids q30) (λq48=>.w [nan q48] (.l (.r (q48,((man q48),()))))) nE nE nE) nE nE nE
def nap:=λr57V r57P a0 a1=>(lap r57V r57P a0 a1).val
def oap:=λr57V r57P a0 a1=>(lap r57V r57P a0 a1).ob
def Las:=λr57V r57P a0 a1=>da.mk (nap r57V r57P a0 a1) (oap r57V r57P a0 a1) [] [(0,.agg false [.i a0.Kind,.i a0.Num,.lst .plan a0.Kids]),(1,.S .litem a1)] eap nE nE nE nE
theorem Mas{r57V:V57}{r57P:Q57}(G:Gd (Ean r57V r57P)){fr a0 a1}:Xan fr (Las r57V r57P a0 a1):=ga G [([0,1,1],λe=>⟨iap r57V r57P (gL .litem e 1 0) (gI e 2 0) (gI e 2 1) (gL .plan e 2 2)⟩),([0,1,1,1,1],λe=>⟨kap r57V r57P (gL .litem e 1 0) (gI e 2 0) (gI e 2 1) (gL .plan e 2 2) (gL .litem e 6 0)⟩)] ⟨λ_=>⟨rfl,Jas G⟩,λ_=>⟨rfl,Kas G⟩,trivial⟩ [(0,[1,2]),(1,[1,2,6]),(10,[1,2,6]),(23,[4,5])] (lap r57V r57P a0 a1)
theorem Nas{r57V:V57}{r57P:Q57}(G:Gd (Ean r57V r57P)):Con Tryz.prog 57 (dap (λa0 a1=>ocR (nap r57V r57P a0 a1)) (λa0 a1=>oap r57V r57P a0 a1)):=Ba (pts:=[(.st .plan),(.lst .litem)]) (F:=F57) G λ_ _=>Mas G
def lan:Nat->V57×Q57
 |0=>(λ_ _=>default,λ_ _=>False)
 |n+1=>(λa0 a1=>ocR (nap (lan n).1 (lan n).2 a0 a1),λa0 a1=>oap (lan n).1 (lan n).2 a0 a1)
def naq:V57:=(lan Pc).1
def oaq:Q57:=(lan Pc).2
def iar:Spec:=dap naq oaq
def aao:SP:=[(17,wH),(56,san),(57,iar)]
abbrev F29:Fnn:=⟨[.tmp 4,.tmp 5],.tup [(false,(.lst .item)),(true,.bool)],none,[]⟩
abbrev paq:LI×Bool×Unit->RV:=rvF F29
abbrev pap:=@OkF Tryz.prog tt Tryz.f29 F29 (LI×Bool×Unit)
def bao(x7:List LI)(_x8 _x9:Int)(_x10:LP)(x11 s16:Int):Tr (LI×Bool×Unit) Int Unit Empty Empty:=.c (cmp .lss s16 x11) (.w [inb s16 (aa .litem x7)] (.w [nan (rd .litem x7 s16)] (.c (!(man (rd .litem x7 s16))) (.l (.r ([],(false,()))))
 (.l (.n (ar .add .i64 s16 1))))))
 (.l (.x ()))
def Gan:=λx7 x8 x9 x10 x11 s16=>(bao x7 x8 x9 x10 x11 s16).val
def cao:=λx7 x8 x9 x10 x11 s16=>(bao x7 x8 x9 x10 x11 s16).ob
def qaq:=λx7 x8 x9 x10 x11 s16=>Ka (Gan x7 x8 x9 x10 x11 s16) (cao x7 x8 x9 x10 x11 s16) [0,0,1,0,1,1] (λq=>[(1,.S .litem x7),(2,.box [(.fr,.i x8),(.fr,.i x9),(.sh,.lst .plan x10)]),(18,.S .litem x7),(19,.I x11),(20,.I q)]) s16 paq (λ_=>(0,[(1,.S .litem x7),(2,.box [(.fr,.i x8),(.fr,.i x9),(.sh,.lst .plan x10)])])) nE nE
theorem Oas(G:Gd aao){fr x7 x8 x9 x10 x11 s16}:pap fr (qaq x7 x8 x9 x10 x11 s16):=oa G [(4,[1,2,18,19,20,21]),(5,[1,2,7,18,19,20]),(6,[1,2,18,19,20,26]),(7,[4,5]),(8,[1,2,18,19,20])] (bao x7 x8 x9 x10 x11 s16)
def jar:=λx7 x8 x9 x10 x11=>lpV (λs:Int=>ca (Gan x7 x8 x9 x10 x11 s)) 0
def kar:=λx7 x8 x9 x10 x11=>LpT (λs:Int=>ca (Gan x7 x8 x9 x10 x11 s)) (λs=>cao x7 x8 x9 x10 x11 s) 0
def qap:=λx7 x8 x9 x10 x11=>lpS (qaq x7 x8 x9 x10 x11 0) (jar x7 x8 x9 x10 x11) (kar x7 x8 x9 x10 x11)
theorem Pas(G:Gd aao){fr x7 x8 x9 x10 x11}:pap fr (qap x7 x8 x9 x10 x11):=Na (λs:Int=>qaq x7 x8 x9 x10 x11 s) 0 λ_=>Oas G
def rap(x3:List LI)(x4 x5:Int)(x6:LP):Tr (LI×Bool×Unit) Unit Empty Empty Empty:=.s (qap x3 x4 x5 x6 (aa .litem x3)) nE (λ_=>.l (.n ())) nE nE
def lar:=λx3 x4 x5 x6=>(rap x3 x4 x5 x6).val
def mar:=λx3 x4 x5 x6=>(rap x3 x4 x5 x6).ob
def sap:=λx3 x4 x5 x6=>da.mk (lar x3 x4 x5 x6) (mar x3 x4 x5 x6) [0,1,1] [(1,.S .litem x3),(2,.box [(.fr,.i x4),(.fr,.i x5),(.sh,.lst .plan x6)])] paq (λ_=>[(1,.S .litem x3),(2,.box [(.fr,.i x4),(.fr,.i x5),(.sh,.lst .plan x6)])]) nE nE nE
theorem Qas(G:Gd aao){fr x3 x4 x5 x6}:pap fr (sap x3 x4 x5 x6):=ga G [([0,1,0,1,1],λe=>⟨qap (gL .litem e 1 0) (gI e 2 0) (gI e 2 1) (gL .plan e 2 2) (gI e 19 0)⟩)] ⟨λ_=>⟨rfl,Pas G⟩,trivial⟩ [(3,[1,2,18,19,20])] (rap x3 x4 x5 x6)
def tap(a0:Plan)(a1:List LI):Tr (LI×Bool×Unit) Empty Empty Empty Empty:=.w [Ax (Plan.mk a0.Kind a0.Num a0.Kids)] (.c (cond (!(zx (Plan.mk a0.Kind a0.Num a0.Kids))) true (cmp .neq (aa .litem a1) 2)) (.l (.r ([],(false,()))))
 (.s (sap a1 a0.Kind a0.Num a0.Kids) (λ_=>.k (naq (Plan.mk a0.Kind a0.Num a0.Kids) a1) λu28=>.w [oaq (Plan.mk a0.Kind a0.Num a0.Kids) a1] (.c (!u28.2.1) (.l (.r ([],(false,()))))
 (.l (.r (u28.1,(true,())))))) nE nE nE))
def raq:=λa0 a1=>(tap a0 a1).val
def saq:=λa0 a1=>(tap a0 a1).ob
def Ras:=λa0 a1=>da.mk (raq a0 a1) (saq a0 a1) [] [(0,.agg false [.i a0.Kind,.i a0.Num,.lst .plan a0.Kids]),(1,.S .litem a1)] paq nE nE nE nE
theorem Sas(G:Gd aao){fr a0 a1}:pap fr (Ras a0 a1):=ga G [([0,1,1],λe=>⟨sap (gL .litem e 1 0) (gI e 2 0) (gI e 2 1) (gL .plan e 2 2)⟩)] ⟨λ_=>⟨rfl,Qas G⟩,trivial⟩ [(0,[1,2]),(1,[1,2,17]),(2,[4,5]),(9,[8,9]),(10,[8,35]),(11,[4,5]),(12,[4,5])] (tap a0 a1)
def uap(a0:Plan)(a1:List LI):LI×Bool×Unit:=ocR (raq a0 a1)
def vap(a0:Plan)(a1:List LI):Prop:=saq a0 a1
def taq:Spec:=⟨[(.st .plan),(.lst .litem)],.tup [(false,(.lst .item)),(true,.bool)],false,λx=>(uap x.1 x.2.1,0),λx=>vap x.1 x.2.1⟩
theorem Tas(G:Gd aao):Con Tryz.prog 29 taq:=Ba (pts:=[(.st .plan),(.lst .litem)]) (F:=F29) G λ_ _=>Sas G
def dao:SP:=[(12,Nt),(13,mH),(14,HJ),(15,NJ),(27,vaj),(30,Kap),(29,taq),(20,Zai),(21,faj)]
abbrev F10:Fnn:=⟨[.tmp 2],.one .fr .bool,none,[]⟩
abbrev uaq:Bool->RV:=rvF F10
abbrev wap:=@OkF Tryz.prog tt Tryz.f10 F10 Bool
def eao(x13 x14:Int)(x15:LP)(x16:List LR)(x17:LR)(x18:List Time)(s26:Int):Tr Bool Int Unit Empty Empty:=.c (cmp .lss s26 (aa .time x18)) (.k (oao x16 (rd .time x18 s26)) λu28=>.k (uap (Plan.mk x13 x14 x15) u28) λu29=>.w [inb s26 (aa .time x18),pao x16 (rd .time x18 s26),vap (Plan.mk x13 x14 x15) u28] (.k (Lah x17 (rd .time x18 s26)) λu30=>.w [((!(!u29.2.1))&&true)=true->inb s26 (aa .time x18),((!(!u29.2.1))&&true)=true->(Mah x17 (rd .time x18 s26)),((!(!u29.2.1))&&true)=true->(Hah u30 u29.1)] (.c (cond (!u29.2.1) true (!(Gah u30 u29.1))) (.l (.r false))
 (.l (.n (ar .add .i64 s26 1))))))
 (.l (.x ()))
def Han:=λx13 x14 x15 x16 x17 x18 s26=>(eao x13 x14 x15 x16 x17 x18 s26).val
def fao:=λx13 x14 x15 x16 x17 x18 s26=>(eao x13 x14 x15 x16 x17 x18 s26).ob
def vaq:=λx13 x14 x15 x16 x17 x18 s26=>Ka (Han x13 x14 x15 x16 x17 x18 s26) (fao x13 x14 x15 x16 x17 x18 s26) [0,0,1,0,1,1,1,1,1,1,1] (λq=>[(3,.box [(.fr,.i x13),(.fr,.i x14),(.sh,.lst .plan x15)]),(4,.S .lrow x16),(7,.S .row x17),(9,.A .time x18),(10,.I q)]) s26 uaq (λ_=>(0,[])) nE nE
theorem Uas(G:Gd dao){fr x13 x14 x15 x16 x17 x18 s26}:wap fr (vaq x13 x14 x15 x16 x17 x18 s26):=oa G [(10,[3,4,7,9,10,58]),(11,[3,4,7,9,10]),(12,[3,4,7,9,10,11,12]),(13,[3,4,7,9,10,84]),(14,[2])] (eao x13 x14 x15 x16 x17 x18 s26)
def nar:=λx13 x14 x15 x16 x17 x18=>lpV (λs:Int=>ca (Han x13 x14 x15 x16 x17 x18 s)) 0
def oar:=λx13 x14 x15 x16 x17 x18=>LpT (λs:Int=>ca (Han x13 x14 x15 x16 x17 x18 s)) (λs=>fao x13 x14 x15 x16 x17 x18 s) 0
def xap:=λx13 x14 x15 x16 x17 x18=>lpS (vaq x13 x14 x15 x16 x17 x18 0) (nar x13 x14 x15 x16 x17 x18) (oar x13 x14 x15 x16 x17 x18)
theorem Vas(G:Gd dao){fr x13 x14 x15 x16 x17 x18}:wap fr (xap x13 x14 x15 x16 x17 x18):=Na (λs:Int=>vaq x13 x14 x15 x16 x17 x18 s) 0 λ_=>Uas G
def yap(x7 x8:Int)(x9:LP)(x10:List LR)(x11:LR)(x12:List Time):Tr Bool Unit Empty Empty Empty:=.s (xap x7 x8 x9 x10 x11 x12) nE (λ_=>.l (.n ())) nE nE
def par:=λx7 x8 x9 x10 x11 x12=>(yap x7 x8 x9 x10 x11 x12).val
def qar:=λx7 x8 x9 x10 x11 x12=>(yap x7 x8 x9 x10 x11 x12).ob
def zap:=λx7 x8 x9 x10 x11 x12=>da.mk (par x7 x8 x9 x10 x11 x12) (qar x7 x8 x9 x10 x11 x12) [0,1,1,1,1,1,1,1] [(3,.box [(.fr,.i x7),(.fr,.i x8),(.sh,.lst .plan x9)]),(4,.S .lrow x10),(7,.S .row x11),(9,.A .time x12)] uaq (λ_=>[]) nE nE nE
theorem Was(G:Gd dao){fr x7 x8 x9 x10 x11 x12}:wap fr (zap x7 x8 x9 x10 x11 x12):=ga G [([0,1,0,1,1,1,1,1,1,1],λe=>⟨xap (gI e 3 0) (gI e 3 1) (gL .plan e 3 2) (gL .lrow e 4 0) (gL .row e 7 0) (gL .time e 9 0)⟩)] ⟨λ_=>⟨rfl,Vas G⟩,trivial⟩ [(9,[3,4,7,9,10])] (yap x7 x8 x9 x10 x11 x12)
def gao(a0:LB):Tr Bool Empty Empty Empty Empty:=.c (cmp .gtr (aa .byte a0) 1048576) (.l (.r true))
 (.k (Wg a0) λu2=>.w [nj a0] (.k (mo (Plan.mk u2.1.Kind u2.1.Num u2.1.Kids) u2.2.1) λu3=>.w [po (Plan.mk u2.1.Kind u2.1.Num u2.1.Kids) u2.2.1] (.k (Jp (Plan.mk u2.1.Kind u2.1.Num u2.1.Kids) u2.2.1) λu4=>.w [Kp (Plan.mk u2.1.Kind u2.1.Num u2.1.Kids) u2.2.1] (.k (rA u4.1 u3.1) λu5=>.w [((!(!(u4.2.1 == u3.2.1)))&&true)=true->(sA u4.1 u3.1)] (.c (cond (cond (!(u4.2.1 == u3.2.1)) true (!u5)) true (!u4.2.1)) (.w [((u4.2.1 == u3.2.1)&&true)=true->(sA u4.1 u3.1)] (.l (.r (cond (u4.2.1 == u3.2.1) u5 false))))
 (.w [xai] (.s (zap u2.1.Kind u2.1.Num u2.1.Kids u2.2.1 u4.1 wai) (λ_=>.l (.r true)) nE nE nE)))))))
def Aap:=λa0=>(gao a0).val
def Bap:=λa0=>(gao a0).ob
def Xas:=λa0=>da.mk (Aap a0) (Bap a0) [] [(0,.S .byte a0)] uaq nE nE nE nE
theorem Yas(G:Gd dao){fr a0}:wap fr (Xas a0):=ga G [([0,1,1,1,1,1,1,1],λe=>⟨zap (gI e 3 0) (gI e 3 1) (gL .plan e 3 2) (gL .lrow e 4 0) (gL .row e 7 0) (gL .time e 9 0)⟩)] ⟨λ_=>⟨rfl,Was G⟩,trivial⟩ [(0,[0]),(1,[0,15]),(2,[2]),(3,[3,4]),(4,[3,4,5,6]),(5,[3,4,5,6,7,8]),(6,[3,4,5,6,7,8,45]),(7,[2]),(8,[3,4,7,9]),(15,[2])] (gao a0)
def Cap(a0:LB):Bool:=ocR (Aap a0)
def Dap(a0:LB):Prop:=Bap a0
def rar:Spec:=⟨[(.lst .byte)],.one .fr .bool,false,λx=>(Cap x.1,0),λx=>Dap x.1⟩
theorem Zas(G:Gd dao):Con Tryz.prog 10 rar:=Ba (pts:=[(.lst .byte)]) (F:=F10) G λ_ _=>Yas G
end
end Go.Proofs.YthfkpijcajdnhaaGreat

namespace Go.Proofs.YthfkpijcajdnhaaGreat
namespace Dp
open Go
set_option maxRecDepth 100000
section
variable {Q:Exit->Act->World->Prop} {B:Nat} {W0:World} {F0:Fz} {a:Act} {w:World} {p:Plan} {l:List LR}
end
end Dp
end Go.Proofs.YthfkpijcajdnhaaGreat

namespace Go.Proofs.YthfkpijcajdnhaaGreat
namespace Da
open Go
set_option maxRecDepth 100000
section
variable {Q:Exit->Act->World->Prop} {B:Nat} {W0:World} {F0:Fz} {a:Act} {w:World} {f:List Time} {l:LR} {v:Value}
end
end Da
end Go.Proofs.YthfkpijcajdnhaaGreat

namespace Go.Proofs.YthfkpijcajdnhaaGreat
open Go
theorem Bah:∀l,0<=Sl l
 |[]=>Int.le_refl _
 |q::r=>by have:=Bah r;simp only[Sl];split<;>omega
theorem Laj:∀l k,sumT l k<=Sl l/\-Sl l<=sumT l k
 |[],k=>by simp[sumT,Sl]
 |q::r,k=>by
  have:=Laj r k;simp only[Sl,sumT];split<;>split<;>omega
theorem Hak{l:List (List Int×Int)}(h:Sl l<=1000000000000000)(k:List Int):Le l k=sumT l k:=by
 suffices ∀ (l:List (List Int×Int)) (s B:Int),B+Sl l<=1000000000000000->s<=B/\-B<=s->l.foldl (λs q=>if q.1=k then ar .add .i64 s q.2 else s) s=s+sumT l k by
  have:=this l 0 0 (by omega) (by omega);unfold Le;rw[this,Int.zero_add]
 intro l
 induction l with
 |nil=>intro s B _ _;simp[sumT]
 |cons q r ih=>
  intro s B h1 h2;have hn:=Bah r;simp only[Sl]at h1;rw[List.foldl_cons]
  have key:∀t:Int,(if q.1=k then ar .add .i64 s q.2 else s)=t->(t=s+(if q.1=k then q.2 else 0))->(r.foldl (λs q=>if q.1=k then ar .add .i64 s q.2 else s) (if q.1=k then ar .add .i64 s q.2 else s))=s+sumT (q::r) k:=by
   intro t h3 h4;rw[h3,ih t (B+(if 0<=q.2 then q.2 else -q.2)) (by split at h1<;>split<;>omega) (by split at h4<;>split<;>omega),h4];simp only[sumT];omega
  refine key _ rfl ?_;by_cases hq:q.1=k
  ·rw[if_pos hq,if_pos hq,nc];split at h1<;>omega
  .rw[if_neg hq,if_neg hq,Int.add_zero]
theorem Maj{c:Int}:∀ {xs:List Item},uD c xs->Sl (chI xs)<=(xs.length:Int)*c
 |[],_=>by simp[chI,Sl]
 |x::r,h=>by
  have h1:=Maj (xs:=r) (λy hy=>h y (by simp[hy]));have h2:=h x (by simp);show (if 0<=x.Count then x.Count else -x.Count)+Sl (chI r)<=_;rw[List.length_cons,Int.natCast_add,Int.add_mul];split<;>omega
theorem Iak{c:Int}{xs:List Item}(h:uD c xs)(hb:(xs.length:Int)*c<=1000000000000):uD ((xs.length:Int)*c) (gathI xs):=by
 intro y hy;obtain⟨p,hp,rfl⟩:=List.mem_map.1 hy;obtain⟨x,_,e⟩:=tD hp;obtain⟨h1,_⟩:=ze.1 hp;have h2:=Maj h
 have hc:(mkI p).Count=p.2:=by
  obtain⟨k,d⟩:=p;have e:k=kI x:=e;subst e;rfl
 rw[hc,h1,Hak (by omega)];have:=Laj (chI xs) p.1;omega
theorem Jak{xs:List Item}(h:∀x∈xs,InR x.Count):(gathI xs).length<=xs.length:=by
 rw[← ZY,List.length_map];have:=rD (xs:=xs.map itR) (λy hy=>by obtain⟨x,hx,rfl⟩:=List.mem_map.1 hy;exact h x hx);simpa using this
end Go.Proofs.YthfkpijcajdnhaaGreat

namespace Go.Proofs.YthfkpijcajdnhaaGreat
open Go
def okI(x:Item):Bool:=decide (0<=x.Key/\x.Key<=3/\0<=x.Val/\x.Val<=99/\x.Count≠0/\-1099511627776<=x.Count/\x.Count<=1099511627776)
def uan:Option Item->Item->Bool
 |none,_=>false
 |some y,x=>decide (x.Key<y.Key\/(y.Key=x.Key/\x.Val<=y.Val))
def okR:Option Item->List Item->Bool
 |_,[]=>true
 |y,x::r=>okI x&&(!uan y x&&okR (some x) r)
def hao(s:List Item):Bool:=okR none s&&decide (s.length<=400)
theorem pan(xs:List Item)(hl:xs.length<1000000000):nan xs/\man xs=hao xs:=by
 have key:∃q,ia (λs=>ca ((λ(s:Int)=>ran xs (aa .item xs) s) s)) (λs=>xan xs (aa .item xs) s) 0 q/\q=(if okR none xs=true then .x () else .r false):=by
  refine ia.list xs (λi (_:Unit)=>(i:Int)) (λl _=>okR none xs=okR l.getLast? (xs.drop l.length)) (b0:=()) rfl rfl ?_ ?_
  ·rintro l x r ⟨⟩ hx hI;have hlen:xs.length=l.length+(r.length+1):=by rw[hx];simp
   have hrd:rd .item xs (l.length:Int)=x:=by rw[hx];exact Za
   have hin:inb (l.length:Int) (aa .item xs):=by rw[hx];exact Ta (t:=.item)
   have hlss:cmp .lss (l.length:Int) (aa .item xs)=true:=by rw[hx];exact fb
   have hdrop:xs.drop l.length=x::r:=by rw[hx];simp
   have hdrop2:xs.drop (l++[x]).length=r:=by rw[hx];simp
   rw[hdrop]at hI;simp only[okR]at hI
   have e1:(cond (cond (cond (cond (cond (cond (cmp .lss x.Key 0) true (cmp .geq x.Key 4)) true (cmp .lss x.Val 0)) true (cmp .geq x.Val 100)) true (cmp .eql x.Count 0)) true (cmp .lss x.Count (-1099511627776))) true (cmp .gtr x.Count 1099511627776))=!okI x:=by
    simp only[fc,Oi,Db,Yc];rw[Bool.eq_iff_iff];simp[okI];omega
   have hprev:inb (ar .sub .i64 (l.length:Int) 1) (aa .item xs)\/l=[]:=by
    rcases last_cases l with⟨h,_⟩|⟨l',y,h,_⟩
    .exact .inr h
    ·left;rw[Ng (by omega)];rw[h]at hin⊢;unfold inb at hin⊢;simp at hin⊢;omega
   have e2:(cond (cmp .gtr (l.length:Int) 0) (cond (cmp .gtr (rd .item xs (ar .sub .i64 (l.length:Int) 1)).Key x.Key) true (cond (cmp .eql (rd .item xs (ar .sub .i64 (l.length:Int) 1)).Key x.Key) (cmp .geq (rd .item xs (ar .sub .i64 (l.length:Int) 1)).Val x.Val) false)) false)=uan l.getLast? x:=by
    rcases last_cases l with⟨h,h2⟩|⟨l',y,h,h2⟩
    .rw[h2,h];rfl
    ·have hs:ar .sub .i64 (l.length:Int) 1=(l'.length:Int):=by rw[Ng (by omega),h];simp
     have hy:rd .item xs (l'.length:Int)=y:=by rw[hx,h,List.append_assoc];exact Za
     have hg:cmp .gtr (l.length:Int) 0=true:=by rw[Yc,h];simp
     rw[h2,hs,hy,hg];simp only[Oi,Db,Yc,uan];rw[Bool.eq_iff_iff];simp
   have hob:xan xs (aa .item xs) (l.length:Int):=by
    simp only[xan,wan,Tr.ob,fa];rcases hprev with hp|hp
    .simp[hin,hp]
    ·subst hp;have hin0:inb (0:Int) (aa .item xs):=hin;simp[hin0,Yc]
   refine⟨hob,?_⟩;show (∃b',ca (ran xs (aa .item xs) (l.length:Int))=_/\_)\/∃q,ca (ran xs (aa .item xs) (l.length:Int))=_/\_;simp only[ran,hlss,hrd,Ua (l:=l) (by omega),e1,e2,wan,Tr.val];cases h1:okI x with
   |false=>
    rw[h1]at hI;exact .inr ⟨.r false,rfl,by rw[hI];rfl⟩
   |true=>
    cases h2:uan l.getLast? x with
    |true=>
     rw[h1,h2]at hI;exact .inr ⟨.r false,rfl,by rw[hI];rfl⟩
    |false=>
     rw[h1,h2]at hI;exact .inl ⟨(),rfl,by rw[hdrop2,hI];simp⟩
  ·rintro⟨⟩ hI;have hend:cmp .lss (xs.length:Int) (aa .item xs)=false:=gb (t:=.item);rw[List.drop_length]at hI;simp only[xan,ran,hend,wan,Tr.val,Tr.ob,fa];exact⟨by simp,_,rfl,by rw[hI];rfl⟩
 obtain⟨q,h1,h2⟩:=key;have b2:Eaq xs (aa .item xs):=h1.t;have a2:Daq xs (aa .item xs)=_:=h1.v.trans h2;simp only[nan,man,Oap,Nap,Gaq,Faq,hao,a2,uao,tao,sao,rao,lpS,Tr.val,Tr.ob];refine⟨by simp[b2],?_⟩;cases okR none xs with
 |false=>rfl
 |true=>
  show cmp .leq (xs.length:Int) 400=_;rw[Re,Bool.true_and];rw[Bool.eq_iff_iff];simp;omega
end Go.Proofs.YthfkpijcajdnhaaGreat

namespace Go.Proofs.YthfkpijcajdnhaaGreat
open Go
theorem Lai(φ:List Int->Bool)(k:List Int):∀l:List (List Int×Int),sumT (l.filter λq=>φ q.1) k=if φ k=true then sumT l k else 0
 |[]=>by simp[sumT]
 |q::r=>by
  have ih:=Lai φ k r;by_cases h:φ q.1=true
  ·rw[List.filter_cons_of_pos (by exact h)];simp only[sumT,ih];by_cases e:q.1=k
   .rw[e]at h;simp[h,e]
   .simp[e]
  ·rw[List.filter_cons_of_neg (by exact h)];simp only[sumT,ih];by_cases e:q.1=k
   .rw[e]at h;simp[h]
   .simp[e]
theorem Zah(xs:List Row):chR (ab xs)=mc (chR xs):=by
 unfold ab
 have:∀m:MP,(∀p∈m,∃x∈xs,p.1=rK x)->chR (m.map mkR)=m:=by
  intro m
  induction m with
  |nil=>exact λ_=>rfl
  |cons p m ih=>
   intro h;obtain⟨x,_,e⟩:=h p (by simp);show (rK (mkR p),(mkR p).Diff)::chR (m.map mkR)=_;rw[ih λq hq=>h q (by simp[hq])];obtain⟨k,d⟩:=p;have e:k=rK x:=e;subst e;rfl
 exact this _ λp hp=>GY hp
def φT(k:List Int)(t:Time):List Int->Bool
 |[a,b,x,y]=>decide ([a,b,0]=k)&&(decide (x<=t.A)&&decide (y<=t.B))
 |_=>false
theorem Nai(k:List Int)(t:Time):∀L:List Row,sumT (chI (Va L t)) k=sumF (φT k t) (chR L)
 |[]=>rfl
 |r::L=>by
  have ih:=Nai k t L;show _=(if φT k t (rK r)=true then r.Diff else 0)+sumF (φT k t) (chR L);rw[← ih];unfold Va;by_cases h:Bf r.At t=true
  ·rw[List.filter_cons_of_pos (by exact h)];show (if kI (rIt r)=k then r.Diff else 0)+_=_;have h2:(decide (r.At.A<=t.A)&&decide (r.At.B<=t.B))=true:=h
   have:φT k t (rK r)=decide (kI (rIt r)=k):=by
    show (decide ([r.Key,r.Val,0]=k)&&(decide (r.At.A<=t.A)&&decide (r.At.B<=t.B)))=_;rw[h2,Bool.and_true];rfl
   rw[this];simp only[decide_eq_true_eq];rfl
  ·rw[List.filter_cons_of_neg (by exact h)];have h2:(decide (r.At.A<=t.A)&&decide (r.At.B<=t.B))=false:=by simpa [Bf] using h
   have:φT k t (rK r)=false:=by
    show (decide ([r.Key,r.Val,0]=k)&&(decide (r.At.A<=t.A)&&decide (r.At.B<=t.B)))=_;rw[h2,Bool.and_false]
   rw[this];simp
theorem Iaj{xs:List Row}{z:Row}:z∈ab xs↔z.Diff=Le (chR xs) (rK z)/\z.Diff≠0:=by
 have h:z∈ab xs↔(rK z,z.Diff)∈chR (ab xs):=by
  refine⟨λh=>List.mem_map.2 ⟨z,h,rfl⟩,λh=>?_⟩;obtain⟨y,hy,e⟩:=List.mem_map.1 h
  have:y=z:=by
   obtain⟨a,b,⟨c,d⟩,f⟩:=y;obtain⟨a',b',⟨c',d'⟩,f'⟩:=z;simp[rK]at e;obtain⟨⟨rfl,rfl,rfl,rfl⟩,rfl⟩:=e;rfl
  exact this▸hy
 rw[h,Zah,ze]
theorem Dak{xs:List Row}{z:Row}(h:z∈ab xs):∃x∈xs,rK x=rK z:=by
 obtain⟨h1,h2⟩:=Iaj.1 h;obtain⟨q,hq,e⟩:=Ll (h1▸h2);obtain⟨x,hx,rfl⟩:=List.mem_map.1 hq;exact⟨x,hx,e⟩
end Go.Proofs.YthfkpijcajdnhaaGreat

namespace Go.Proofs.YthfkpijcajdnhaaGreat
open Go
theorem Eak{a:List Row}(h:∀x∈a,InR x.Diff):∀q∈chR a,InR q.2:=λq hq=>by
 obtain⟨x,hx,rfl⟩:=List.mem_map.1 hq;exact h x hx
def sumW(w:List Int->Int):List (List Int×Int)->Int
 |[]=>0
 |q::r=>w q.1*q.2+sumW w r
theorem Jaj(w:List Int->Int):∀m:MP,sumW w (m.filter λp=>p.2 != 0)=sumW w m
 |[]=>rfl
 |p::m=>by
  have h1:=Jaj w m;by_cases h:p.2=0
  .simp[h,sumW,h1]
  .simp[h,sumW,h1]
theorem Kaj(w:List Int->Int)(q:List Int×Int):∀m:MP,Eqm (sumW w (gc q m)) (w q.1*q.2+sumW w m)
 |[]=>Eqm.refl _
 |p::m=>by
  unfold gc;split
  .exact Eqm.refl _
  ·split
   ·rename_i h1 h2;simp only[sumW,h2];have ha:Eqm (w q.1*ar .add .i64 q.2 p.2) (w q.1*(q.2+p.2)):=Eqm.mul _ (Nl _);rw[Int.mul_add]at ha;exact (ha.add (Eqm.refl _)).trans (Eqm.of (by omega))
   ·simp only[sumW];exact ((Eqm.refl _).add (Kaj w q m)).trans (Eqm.of (by omega))
theorem Fak(w:List Int->Int)(l:List (List Int×Int)):Eqm (sumW w (Se l)) (sumW w l):=by
 suffices ∀ (l:List (List Int×Int)) (m:MP),Eqm (sumW w (l.foldl (λm q=>gc q m) m)) (sumW w m+sumW w l) by
  have:=this l [];simpa [Se,sumW] using this
 intro l
 induction l with
 |nil=>intro m;exact Eqm.of (by simp[sumW])
 |cons q r ih=>
  intro m;rw[List.foldl_cons];simp only[sumW];exact (ih (gc q m)).trans (((Kaj w q m).add (Eqm.refl _)).trans (Eqm.of (by omega)))
theorem Gak{n:Nat}{l:List (List Int×Int)}(hk:yb n l)(hr:∀q∈l,InR q.2)(w:List Int->Int):Eqm (sumW w (mc l)) (sumW w l):=by
 rw[← HM hk λq hq=>mD (hr q hq),Jaj w (Se l)];exact Fak w l
theorem Oai{a:List Item}(h:∀x∈a,InR x.Count)(w:List Int->Int):Eqm (sumW w (chI (gathI a))) (sumW w (chI a)):=by
 rw[Ml]
 exact Gak (Rl a) (λq hq=>by
  obtain⟨x,hx,rfl⟩:=List.mem_map.1 hq;exact h x hx) w
theorem Aah{L:List Row}(h:∀x∈L,InR x.Diff)(t:Time):xd (ab L) t=xd L t:=JY λk=>by
  rw[Nai,Nai,Zah];exact MY (pD L) (Eak h) _
end Go.Proofs.YthfkpijcajdnhaaGreat

namespace Go.Proofs.YthfkpijcajdnhaaGreat
open Go
section
variable {P:Program} {K n:Nat}
variable {T E:Nat} (M:WV P T K E n) {w:World} {r:Nat} {S:va} (hr:w.heap[r]? = some (Ha S)) (hm:Yb n S) {ks:List Int} (hk:ks.length=n)
include M hr hm hk
end
end Go.Proofs.YthfkpijcajdnhaaGreat

namespace Go.Proofs.YthfkpijcajdnhaaGreat
open Go Tg
theorem Kak(L:List Row)(t:Time):(Va L t).map Jb=Va (L.map Nh) t:=by
 unfold Va;rw[List.filter_map,List.map_map,List.map_map];rfl
end Go.Proofs.YthfkpijcajdnhaaGreat

namespace Go.Proofs.YthfkpijcajdnhaaGreat
open Go
theorem Naj(xs:List Row)(t:Time)(hl:xs.length<10000000):Mah xs t/\Lah xs t=if Ib xs=true/\Ea t=true then xd xs t else []:=by
 obtain⟨r1,r2⟩:=kN xs (by omega);obtain⟨q1,q2⟩:=mN xs t (by omega);simp only[Mah,Lah,Yai,Xai,cai,Tr.val,Tr.ob,fa,r2,fN,q2];cases h1:Ib xs<;>cases h2:Ea t<;>simp[r1,gN,q1,ocR]
end Go.Proofs.YthfkpijcajdnhaaGreat

namespace Go.Proofs.YthfkpijcajdnhaaGreat
open Go Tg
theorem Rak(s:List Item):(chI s).map mkI=s:=by
 unfold chI;rw[List.map_map];have:(mkI ∘ λx:Item=>(kI x,x.Count))=id:=by funext x;cases x;rfl
 rw[this,List.map_id]
theorem Canon.gath{s:List Item}(h:Canon s):gathI s=s:=by
 have h1:mc (chI s)=chI s:=T1 (n:=3) (List.pairwise_map.2 h.1) (Rl s) λp hp=>by
  obtain⟨x,hx,rfl⟩:=List.mem_map.1 hp;exact h.2 x hx
 unfold gathI;rw[h1,Rak]
def aai(h:Int)(x:Item):List Item:=if (cc h x.Key x.Val).2.2=true then [⟨(cc h x.Key x.Val).1,(cc h x.Key x.Val).2.1,x.Count⟩] else []
def oah(h:Int)(s:List Item):List Item:=s.flatMap (aai h)
theorem Paj(h:Int)(t:Time):∀a:List Row,Va (xc h a) t=oah h (Va a t)
 |[]=>rfl
 |x::l=>by
  have ih:=Paj h t l;unfold xc oah at *;rw[List.flatMap_cons,lD,ih,X1,List.flatMap_append]
  congr 1
  unfold Yf;by_cases hk:(cc h x.Key x.Val).2.2=true
  ·rw[if_pos hk,X1,Y1,List.append_nil];by_cases hb:Bf x.At t=true
   ·rw[if_pos hb,if_pos hb];simp[aai,rIt,hk]
   ·rw[if_neg hb,if_neg hb];rfl
  ·rw[if_neg hk,Y1];by_cases hb:Bf x.At t=true
   ·rw[if_pos hb];simp[aai,rIt,hk]
   ·rw[if_neg hb];rfl
def wE(h:Int)(k:List Int):List Int->Int
 |[a,b,_]=>if (cc h a b).2.2=true/\[(cc h a b).1,(cc h a b).2.1,0]=k then 1 else 0
 |_=>0
theorem Rai(h:Int)(k:List Int):∀s:List Item,sumT (chI (oah h s)) k=sumW (wE h k) (chI s)
 |[]=>rfl
 |x::s=>by
  have ih:=Rai h k s;show _=wE h k (kI x)*x.Count+sumW (wE h k) (chI s);unfold oah at *;rw[List.flatMap_cons,NM,ih]
  congr 1
  show _=(if (cc h x.Key x.Val).2.2=true/\[(cc h x.Key x.Val).1,(cc h x.Key x.Val).2.1,0]=k then 1 else 0)*x.Count;unfold aai;by_cases hk:(cc h x.Key x.Val).2.2=true
  ·rw[if_pos hk];show (if [(cc h x.Key x.Val).1,(cc h x.Key x.Val).2.1,0]=k then x.Count else 0)+0=_;by_cases e : [(cc h x.Key x.Val).1,(cc h x.Key x.Val).2.1,0]=k
   .rw[if_pos e,if_pos ⟨hk,e⟩];omega
   .rw[if_neg e,if_neg λhh=>e hh.2];omega
  ·rw[if_neg hk,if_neg λhh=>hk hh.1];simp[chI,sumT]
theorem Sak(h:Int){s:List Item}(hs:∀x∈s,InR x.Count):gathI (oah h (gathI s))=gathI (oah h s):=JY λk=>by rw[Rai,Rai];exact Oai hs _
theorem pah{xs:List Row}(h:∀x∈xs,InR x.Diff)(t:Time):∀x∈Va xs t,InR x.Count:=λx hx=>by
 obtain⟨r,hr,rfl⟩:=List.mem_map.1 hx;exact h r ((List.mem_filter.1 hr).1)
theorem Tak{h:Int}{a:List Row}(ha:∀x∈a,InR x.Diff)(t:Time):xd (ab (xc h a)) t=gathI (oah h (xd a t)):=by
 rw[Aah (GD ha)];unfold xd;rw[Paj,Sak h (pah ha t)]
theorem Uak{a b:List Row}(ha:∀x∈a,InR x.Diff)(hb:∀x∈b,InR x.Diff)(t:Time):xd (ab (a++b)) t=gathI (xd a t++xd b t):=by
 rw[Aah λx hx=>(List.mem_append.1 hx).elim (ha x) (hb x)];refine JY λk=>?_;rw[lD,NM,NM];exact (QY (pah ha t) k).symm.add (QY (pah hb t) k).symm
theorem Vak{a:List Row}(ha:∀x∈a,InR x.Diff)(t:Time)(hm:∀x∈xd a t,x.Count≠-9223372036854775808):xd (ab (ib a)) t=(xd a t).map Jb:=by
 rw[Aah (dO a)];have h1:=((V1 (Va a t)).neg hm).gath;rw[← show xd a t=gathI (Va a t) from rfl]at h1;rw[← h1];refine JY λk=>?_;unfold ib;rw[← Kak];exact (xD _ k).trans (((QY (pah ha t) k).neg.symm).trans (xD _ k).symm)
def Cah(x y:Item):List Item:=if x.Key=y.Key then [⟨x.Key,Vl x.Val y.Val,x.Count*y.Count⟩] else []
def qah(s u:List Item):List Item:=s.flatMap λx=>u.flatMap (Cah x)
theorem Sai(s t u:Time):Bf (bb s t) u=(Bf s u&&Bf t u):=by
 unfold Bf bb;simp only[si];rw[Bool.eq_iff_iff];simp only[Bool.and_eq_true,decide_eq_true_eq];split<;>split<;>omega
theorem Qaj(t:Time)(x:Row):∀b:List Row,Va (b.flatMap (ic x)) t=if Bf x.At t=true then (Va b t).flatMap (Cah (rIt x)) else []
 |[]=>by split<;>rfl
 |y::b=>by
  have ih:=Qaj t x b;rw[List.flatMap_cons,lD,ih,X1,List.flatMap_append];by_cases hx:Bf x.At t=true
  ·rw[if_pos hx,if_pos hx]
   congr 1
   unfold ic;by_cases hk:x.Key=y.Key
   ·rw[if_pos hk,X1,Y1,List.append_nil,show (Row.At ⟨x.Key,Vl x.Val y.Val,bb x.At y.At,x.Diff*y.Diff⟩)=bb x.At y.At from rfl,Sai,hx,Bool.true_and];by_cases hy:Bf y.At t=true
    ·rw[if_pos hy,if_pos hy];simp[Cah,rIt,hk]
    ·rw[if_neg hy,if_neg hy];rfl
   ·rw[if_neg hk,Y1];by_cases hy:Bf y.At t=true
    ·rw[if_pos hy];simp[Cah,rIt,hk]
    ·rw[if_neg hy];rfl
  ·rw[if_neg hx,if_neg hx,List.append_nil];unfold ic;by_cases hk:x.Key=y.Key
   ·rw[if_pos hk,X1,Y1,List.append_nil,show (Row.At ⟨x.Key,Vl x.Val y.Val,bb x.At y.At,x.Diff*y.Diff⟩)=bb x.At y.At from rfl,Sai];rw[if_neg (by simp[hx])]
   .rw[if_neg hk,Y1]
theorem Raj(t:Time)(b:List Row):∀a:List Row,Va (dc a b) t=qah (Va a t) (Va b t)
 |[]=>rfl
 |x::a=>by
  have ih:=Raj t b a;unfold dc qah at *;rw[List.flatMap_cons,lD,ih,X1,List.flatMap_append,Qaj]
  congr 1
  by_cases hx:Bf x.At t=true
  ·rw[if_pos hx,if_pos hx];simp
  ·rw[if_neg hx,if_neg hx];rfl
def wJ2(a b:Int)(k:List Int):List Int->Int
 |[c,d,_]=>if a=c/\[a,Vl b d,0]=k then 1 else 0
 |_=>0
def wJ(u:List Item)(k:List Int):List Int->Int
 |[a,b,_]=>sumW (wJ2 a b k) (chI u)
 |_=>0
theorem Saj(x:Item)(k:List Int):∀u:List Item,sumT (chI (u.flatMap (Cah x))) k=sumW (wJ2 x.Key x.Val k) (chI u)*x.Count
 |[]=>by simp[chI,sumT,sumW]
 |y::u=>by
  have ih:=Saj x k u;rw[List.flatMap_cons,NM,ih];show _=(wJ2 x.Key x.Val k (kI y)*y.Count+sumW (wJ2 x.Key x.Val k) (chI u))*x.Count;rw[Int.add_mul]
  congr 1
  show _=(if x.Key=y.Key/\[x.Key,Vl x.Val y.Val,0]=k then 1 else 0)*y.Count*x.Count;unfold Cah;by_cases hk:x.Key=y.Key
  ·rw[if_pos hk];show (if [x.Key,Vl x.Val y.Val,0]=k then x.Count*y.Count else 0)+0=_;by_cases e : [x.Key,Vl x.Val y.Val,0]=k
   .rw[if_pos e,if_pos ⟨hk,e⟩,Int.one_mul,Int.add_zero,Int.mul_comm]
   .rw[if_neg e,if_neg λhh=>e hh.2];simp
  ·rw[if_neg hk,if_neg λhh=>hk hh.1];simp[chI,sumT]
theorem Tai(u:List Item)(k:List Int):∀s:List Item,sumT (chI (qah s u)) k=sumW (wJ u k) (chI s)
 |[]=>rfl
 |x::s=>by
  have ih:=Tai u k s;unfold qah at *;rw[List.flatMap_cons,NM,ih,Saj];rfl
theorem Taj{w w':List Int->Int}(h:∀k,Eqm (w k) (w' k)):∀l,Eqm (sumW w l) (sumW w' l)
 |[]=>Eqm.refl _
 |q::r=>by
  simp only[sumW];have h1:=Eqm.mul q.2 (h q.1);rw[Int.mul_comm,Int.mul_comm q.2]at h1;exact h1.add (Taj h r)
theorem Wak{s u:List Item}(hs:∀x∈s,InR x.Count)(hu:∀x∈u,InR x.Count):gathI (qah (gathI s) (gathI u))=gathI (qah s u):=JY λk=>by
  rw[Tai,Tai];refine (Oai hs _).trans (Taj (λkey=>?_) _)
  match key with
  |[a,b,_]=>exact Oai hu _
  |[]=>exact Eqm.refl _
  |[_]=>exact Eqm.refl _
  |[_,_]=>exact Eqm.refl _
  |_::_::_::_::_=>exact Eqm.refl _
theorem Xak{a b:List Row}(ha:∀x∈a,InR x.Diff)(hb:∀x∈b,InR x.Diff)(hj:∀x∈dc a b,InR x.Diff)(t:Time):xd (ab (dc a b)) t=gathI (qah (xd a t) (xd b t)):=by
 rw[Aah hj];unfold xd;rw[Raj,Wak (pah ha t) (pah hb t)]
end Go.Proofs.YthfkpijcajdnhaaGreat

namespace Go.Proofs.YthfkpijcajdnhaaGreat
open Go Tg
def φK(k:Int):List Int->Bool
 |[a,_,_]=>decide (a=k)
 |_=>false
theorem Uaj(k:Int)(s:List Item):chI (s.filter λx=>decide (x.Key=k))=(chI s).filter λq=>φK k q.1:=by
 unfold chI;rw[List.filter_map];rfl
theorem Yak(k:Int){s:List Item}(hs:∀x∈s,InR x.Count):gathI (s.filter λx=>decide (x.Key=k))=(gathI s).filter λx=>decide (x.Key=k):=by
 rw[← ((V1 s).filter _).gath];refine JY λkey=>?_;rw[Uaj,Uaj,Lai,Lai];split
 .exact (QY hs key).symm
 .exact Eqm.refl _
theorem Vaj(k:Int)(t:Time):∀a:List Row,Va (na k a) t=(Va a t).filter λx=>decide (x.Key=k)
 |[]=>rfl
 |x::a=>by
  have ih:=Vaj k t a;rw[X1,List.filter_append,← ih];unfold na;by_cases hk:x.Key=k
  ·rw[List.filter_cons_of_pos (by simpa using hk),X1]
   congr 1
   by_cases hb:Bf x.At t=true
   .rw[if_pos hb];simp[rIt,hk]
   .rw[if_neg hb];rfl
  ·rw[List.filter_cons_of_neg (by simpa using hk)];by_cases hb:Bf x.At t=true
   .rw[if_pos hb];simp[rIt,hk]
   .rw[if_neg hb];rfl
theorem Zak{k:Int}{a:List Row}(ha:∀x∈a,InR x.Diff)(t:Time):xd (na k a) t=(xd a t).filter λx=>decide (x.Key=k):=by
 unfold xd;rw[Vaj,Yak k (pah ha t)]
theorem aal(p:Time->Bool)(i:Int)(n:Nat):(rowP p i n).Pairwise λx y=>Bf y x=false:=by
 unfold rowP;rw[List.pairwise_map];refine (List.Pairwise.sublist List.filter_sublist List.pairwise_lt_range).imp λ{a b} h=>?_;simp[Bf];omega
theorem Waj(p:Time->Bool):∀n,(qc p n).Pairwise λx y=>Bf y x=false
 |0=>.nil
 |n+1=>by
  simp only[qc];rw[List.pairwise_append];refine⟨Waj p n,aal p n 8,λx hx y hy=>?_⟩;have h1:=BA.1 hx;have h2:=uag.1 hy;unfold Bf;rw[h2.2.1];simp;omega
theorem Uai{kind k:Int}{own:List Row}:∀ (ts:List Time) (m:List Row),∃e,ts.foldl (Ue kind k own) m=m++e/\∀x∈e,x.At∈ts
 |[],m=>⟨[],by simp,by simp⟩
 |t::r,m=>by
  obtain⟨e,h1,h2⟩:=Uai r (Ue kind k own m t);refine⟨(Oh kind k own m t).map (rowT t)++e,?_,λx hx=>?_⟩
  ·rw[List.foldl_cons,h1];unfold Ue;rw[List.append_assoc]
  ·rcases List.mem_append.1 hx with hx|hx
   ·obtain⟨y,_,rfl⟩:=List.mem_map.1 hx;simp[rowT]
   .simp[h2 x hx]
theorem bai{l:List Row}{t:Time}(h:∀x∈l,Bf x.At t=false):Va l t=[]:=by
 unfold Va;rw[List.filter_eq_nil_iff.2 λx hx=>by rw[h x hx];simp];rfl
theorem bal(l:List Item)(t:Time):Va (l.map (rowT t)) t=l:=by
 unfold Va
 rw[List.filter_eq_self.2 λx hx=>by
  obtain⟨y,_,rfl⟩:=List.mem_map.1 hx;simp[Bf,rowT],List.map_map]
 have:(rIt ∘ rowT t)=id:=by funext x;cases x;rfl
 rw[this,List.map_id]
theorem Xaj{l:List Row}{s t:Time}(h:∀x∈l,Bf x.At s=Bf x.At t):Va l s=Va l t:=by
 unfold Va;rw[List.filter_congr λx hx=>h x hx]
theorem cal{kind k:Int}{own:List Row}(ho:yc k own){ts:List Time}(hp:ts.Pairwise λx y=>Bf y x=false)(hok:∀t∈ts,Ea t=true){s:Time}(hs:s∈ts)(key:List Int) :
  Eqm (sumT (chI (Va (Ab kind k own ts) s)) key) (sumT (chI (Wa kind k (xd own s))) key):=by
 obtain⟨l1,l2,rfl⟩:=List.append_of_mem hs
 have h1:Ab kind k own (l1++s::l2)=l2.foldl (Ue kind k own) (Ue kind k own (Ab kind k own l1) s):=by
  unfold Ab;rw[List.foldl_append,List.foldl_cons]
 obtain⟨e,h2,h3⟩:=Uai (kind:=kind) (k:=k) (own:=own) l2 (Ue kind k own (Ab kind k own l1) s);have hM:=(Yl (kind:=kind) ho l1 λt ht=>hok t (by simp[ht])).1;generalize Ab kind k own l1=M at *
 have h9:Va e s=[]:=bai λx hx=>by
  have:=(List.pairwise_append.1 hp).2.1;exact (List.pairwise_cons.1 this).1 x.At (h3 x hx)
 rw[h1,h2];unfold Ue;rw[lD,lD,bal,h9,List.append_nil,NM]
 ·unfold Oh;have hd:=fZ (kind:=kind) (t:=s) ho hM;refine ((Eqm.refl _).add (QY (λx hx=>(hd x hx).2.2.2) key)).trans ?_;rw[NM];have h4:=xD (xd M s) key;have h5:=QY (λx hx=>(hM.items s x hx).2.2.2) key;have h5:Eqm (sumT (chI (xd M s)) key) (sumT (chI (Va M s)) key):=h5;exact ((Eqm.refl _).add ((Eqm.refl _).add (h4.trans h5.neg))).trans (Eqm.of (by omega))
theorem Vai(f:Row->Int):∀l:List Row,l≠[]->∃x∈l,∀y∈l,f y<=f x
 |[],h=>absurd rfl h
 |[x],_=>⟨x,by simp,by simp⟩
 |x::y::r,_=>by
  obtain⟨z,h1,h2⟩:=Vai f (y::r) (by simp);by_cases h:f z<=f x
  ·exact⟨x,by simp,λw hw=>by
    rcases List.mem_cons.1 hw with rfl|hw
    .exact Int.le_refl _
    .exact Int.le_trans (h2 w hw) h⟩
  ·exact⟨z,by simp only[List.mem_cons]at h1⊢;exact .inr h1,λw hw=>by
    rcases List.mem_cons.1 hw with rfl|hw
    .omega
    .exact h2 w hw⟩
theorem dal{kind k:Int}{a:List Row}(hr:Ib a=true){t:Time}(key:List Int) :
  Eqm (sumT (chI (Va (Ab kind k (na k a) (Xa a k)) t)) key) (sumT (chI (Wa kind k (xd (na k a) t))) key):=by
 have hrow:=(Bb hr).2;have ho:=Ph (k:=k) hrow;have hts:Xa a k=qc (jT a k) 8:=by unfold Xa;rw[if_pos hr]
 have hok:=(Zl (a:=a) (k:=k)).1;rw[hts]at hok⊢;obtain⟨e,he1,he2⟩:=Uai (kind:=kind) (k:=k) (own:=na k a) (qc (jT a k) 8) [];have hmade:Ab kind k (na k a) (qc (jT a k) 8)=e:=by unfold Ab;rw[he1];rfl
 have hJ:∀j∈qc (jT a k) 8,(∃x∈na k a,x.At.A=j.A/\x.At.B<=j.B)/\∃x∈na k a,x.At.B=j.B/\x.At.A<=j.A:=λj hj=>by
  obtain⟨⟨x,m1,k1,a1,b1⟩,y,n1,l1,c1,d1⟩:=Vp.1 (BA.1 hj).1;exact⟨⟨x,List.mem_filter.2 ⟨m1,by simpa using k1⟩,a1,b1⟩,y,List.mem_filter.2 ⟨n1,by simpa using l1⟩,c1,d1⟩
 by_cases hn:(na k a).filter (λx=>Bf x.At t)=[]
 ·have h0:∀x∈na k a,Bf x.At t=false:=λx hx=>by
   have:=List.filter_eq_nil_iff.1 hn x hx;simpa using this
  have h1:xd (na k a) t=[]:=by unfold xd;rw[bai h0];rfl
  rw[h1,Z1,hmade,bai λx hx=>?_]
  .exact Eqm.refl _
  ·obtain⟨⟨y,m1,a1,b1⟩,_⟩:=hJ _ (he2 x hx);have h2:=h0 y m1;cases hb:Bf x.At t with
   |false=>rfl
   |true=>
    simp only[Bf,Bool.and_eq_true,decide_eq_true_eq]at hb;have:Bf y.At t=true:=by simp only[Bf,Bool.and_eq_true,decide_eq_true_eq];omega
    rw[h2]at this;cases this
 ·obtain⟨x,hx1,hx2⟩:=Vai (λr=>r.At.A) _ hn;obtain⟨y,hy1,hy2⟩:=Vai (λr=>r.At.B) _ hn;obtain⟨mx1,bx⟩:=List.mem_filter.1 hx1;obtain⟨my1,bY⟩:=List.mem_filter.1 hy1;have mx2:=List.mem_filter.1 mx1;have my2:=List.mem_filter.1 my1;simp only[Bf,Bool.and_eq_true,decide_eq_true_eq]at bx bY;have ox:=Og (hrow x mx2.1);have oy:=Og (hrow y my2.1);simp only[Ea,decide_eq_true_eq]at ox oy;have exy:y.At.A<=x.At.A:=hx2 y hy1;have eyx:x.At.B<=y.At.B:=hy2 x hx1
  have hs:(⟨x.At.A,y.At.B⟩ : Time)∈qc (jT a k) 8:=by
   refine BA.2 ⟨Vp.2 ⟨⟨x,mx2.1,by simpa using mx2.2,rfl,eyx⟩,y,my2.1,by simpa using my2.2,rfl,exy⟩,?_⟩;show 0<=x.At.A/\x.At.A<8/\0<=y.At.B/\y.At.B<8;omega
  have hrows:∀r∈na k a,Bf r.At t=Bf r.At ⟨x.At.A,y.At.B⟩:=λr hr=>by
   rw[Bool.eq_iff_iff];constructor
   ·intro h;have hm:r∈(na k a).filter (λx=>Bf x.At t):=List.mem_filter.2 ⟨hr,h⟩;have h1:r.At.A<=x.At.A:=hx2 r hm;have h2:r.At.B<=y.At.B:=hy2 r hm;simp only[Bf,Bool.and_eq_true,decide_eq_true_eq];exact⟨h1,h2⟩
   ·intro h;simp only[Bf,Bool.and_eq_true,decide_eq_true_eq]at h⊢;omega
  have h1:xd (na k a) t=xd (na k a) ⟨x.At.A,y.At.B⟩:=by unfold xd;rw[Xaj hrows]
  have h2:Va e t=Va e ⟨x.At.A,y.At.B⟩:=Xaj λz hz=>by
   obtain⟨⟨r1,m1,a1,b1⟩,r2,m2,a2,b2⟩:=hJ _ (he2 z hz);have q1:=hrows r1 m1;have q2:=hrows r2 m2;rw[Bool.eq_iff_iff]at q1 q2⊢;simp only[Bf,Bool.and_eq_true,decide_eq_true_eq]at q1 q2⊢;constructor
   ·intro h;have c1:=q1.1 (by omega);have c2:=q2.1 (by omega);omega
   ·intro h;omega
  have h3:=cal (kind:=kind) ho (Waj (jT a k) 8) hok hs key;rw[hmade]at h3⊢;rw[h1,h2];exact h3
theorem eal{k:Int}{s:List Item}(hs:Canon s)(hk:∀x∈s,x.Key=k):Canon (Ec k s):=by
 refine⟨?_,λx hx=>?_⟩
 ·unfold Ec;rw[List.pairwise_map];refine List.Pairwise.imp_of_mem (λ{x y} hx hy h=>?_) (hs.1.sublist List.filter_sublist);have h1:=hk x (List.mem_filter.1 hx).1;have h2:=hk y (List.mem_filter.1 hy).1;unfold kI at h⊢;rw[h1,h2]at h;exact h
 ·obtain⟨y,_,rfl⟩:=List.mem_map.1 hx;exact⟨by simp,by unfold InR;simp⟩
theorem fal{kind k:Int}{s:List Item}(hs:Canon s)(hk:∀x∈s,x.Key=k):Canon (Wa kind k s):=by
 have h:=eal hs hk;unfold Wa;split
 ·split
  .exact⟨.nil,by simp⟩
  .exact⟨by simp,by simp[InR]⟩
 ·split
  .exact h
  .exact⟨h.1.sublist (List.take_sublist _ _),λx hx=>h.2 x (List.mem_of_mem_take hx)⟩
theorem gal{kind k:Int}{s:List Item}{x:Item}(hx:x∈Wa kind k s):x.Key=k:=by
 have honce:∀x∈Ec k s,x.Key=k:=λx hx=>by
  obtain⟨y,hy,rfl⟩:=List.mem_map.1 hx;rfl
 unfold Wa at hx;split at hx
 ·split at hx
  .cases hx
  ·simp at hx;subst hx;rfl
 ·split at hx
  .exact honce x hx
  .exact honce x (List.mem_of_mem_take hx)
theorem ial{kind:Int}{s:List Item}(hs:Canon s):Canon (fg kind s):=by
 have h:∀k:Nat,Canon (Wa kind k (s.filter λx=>decide (x.Key=k))):=λk=>fal (hs.filter _) λx hx=>by simpa using (List.mem_filter.1 hx).2
 have hk:∀ (k:Nat) x,x∈Wa kind k (s.filter λx=>decide (x.Key=k))->x.Key=k:=λk x hx=>gal hx;unfold fg;rw[Qh,List.append_nil];refine (h 0).append ((h 1).append ((h 2).append (h 3) λx hx y hy=>?_) λx hx y hy=>?_) λx hx y hy=>?_
 .rw[hk 2 x hx,hk 3 y hy];decide
 ·rw[hk 1 x hx];rcases List.mem_append.1 hy with hy|hy
  .rw[hk 2 y hy];decide
  .rw[hk 3 y hy];decide
 ·rw[hk 0 x hx];rcases List.mem_append.1 hy with hy|hy
  .rw[hk 1 y hy];decide
  ·rcases List.mem_append.1 hy with hy|hy
   .rw[hk 2 y hy];decide
   .rw[hk 3 y hy];decide
theorem jal(f:Nat->List Row)(t:Time):Va ((List.range 4).flatMap f) t=(List.range 4).flatMap λk=>Va (f k) t:=by
 show Va (f 0++(f 1++(f 2++(f 3++[])))) t=Va (f 0) t++(Va (f 1) t++(Va (f 2) t++(Va (f 3) t++[])));rw[lD,lD,lD,lD];rfl
theorem kal{kind:Int}{a:List Row}(hr:Ib a=true)(t:Time):xd (ab (Ce kind a)) t=fg kind (xd a t):=by
 have hrow:=(Bb hr).2;have hin:∀x∈a,InR x.Diff:=λx hx=>Zf (hrow x hx);rw[Aah λx hx=>((AD (kind:=kind) hrow).1 x hx).1];rw[← (ial (kind:=kind) (s:=xd a t) (V1 _)).gath];refine JY λkey=>?_
 have h:∀k:Nat,Eqm (sumT (chI (Va (Ab kind k (na k a) (Xa a k)) t)) key) (sumT (chI (Wa kind k ((xd a t).filter λx=>decide (x.Key=k)))) key):=λk=>by
  rw[← Zak hin];exact dal hr key
 unfold Ce fg;rw[jal,Qh,Qh];simp only[NM];exact (h 0).add ((h 1).add ((h 2).add ((h 3).add (Eqm.refl _))))
end Go.Proofs.YthfkpijcajdnhaaGreat

namespace Go.Proofs.YthfkpijcajdnhaaGreat
open Go Tg
section
variable {a:List Row} (hr:Ib a=true) {kind:Int} (hkind:1<=kind/\kind<=3)
include hr hkind
end
end Go.Proofs.YthfkpijcajdnhaaGreat

namespace Go.Proofs.YthfkpijcajdnhaaGreat
open Go Tg
def opS(kind num:Int)(ks ins:List (List Item)):List Item:=if kind=1 then ins.getD num.toNat [] else if kind=2 then gathI (oah num (ks.getD 0 [])) else if kind=3 then gathI (ks.getD 0 []++ks.getD 1 []) else
 if kind=4 then (ks.getD 0 []).map Jb else if kind=5 then gathI (qah (ks.getD 0 []) (ks.getD 1 [])) else fg num (ks.getD 0 [])
theorem Nak{a:List Row}(h:Ib a=true)(t:Time):∀x∈xd a t,-39999600<=x.Count/\x.Count<=39999600:=by
 obtain⟨h1,h2⟩:=Bb h
 have hs:uD 99999 (Va a t):=λx hx=>by
  obtain⟨r,hr,rfl⟩:=List.mem_map.1 hx;have:=h2 r (List.mem_filter.1 hr).1;simp only[vb,decide_eq_true_eq]at this;exact⟨this.2.2.2.2.2.1,this.2.2.2.2.2.2⟩
 have hl:(Va a t).length<=400:=by
  unfold Va;rw[List.length_map];exact Nat.le_trans (List.length_filter_le _ _) h1
 have h3:=Iak hs (by omega);intro x hx;have:=h3 x hx;omega
theorem Oak{P:List Row->Prop}(h0:P []){ks:List (List Row)}(h:∀x∈ks,P x)(n:Nat):P (ks.getD n []):=by
 rw[List.getD_eq_getElem?_getD];cases hn:ks[n]? with
 |none=>exact h0
 |some x=>exact h x (List.mem_of_getElem? hn)
theorem Pak(ks:List (List Row))(t:Time)(n:Nat):(ks.map λx=>xd x t).getD n []=xd (ks.getD n []) t:=by
 rw[List.getD_eq_getElem?_getD,List.getD_eq_getElem?_getD,List.getElem?_map];cases ks[n]?<;>rfl
theorem Qak{kind num:Int}{ks ins:List (List Row)}(hk:∀x∈ks,Qa x=true)(t:Time):xd (opR kind num ks ins) t=opS kind num (ks.map λx=>xd x t) (ins.map λx=>xd x t):=by
 have hr:∀n,Ib (ks.getD n [])=true:=Oak (P:=λx=>Ib x=true) rfl λx hx=>bg (hk x hx);have hm:=λn=>(Bb (hr n)).2;have hi:∀n,∀x∈ks.getD n [],InR x.Diff:=λn x hx=>Zf (hm n x hx);unfold opR opS;simp only[Pak];split
 .rfl
 ·split
  .exact Tak (hi 0) t
  ·split
   .exact Uak (hi 0) (hi 1) t
   ·split
    .exact Vak (hi 0) t λx hx=>by have:=Nak (hr 0) t x hx;omega
    ·split
     .exact Xak (hi 0) (hi 1) (λx hx=>(Dr (hm 0) (hm 1) x hx).1) t
     .exact kal (hr 0) t
end Go.Proofs.YthfkpijcajdnhaaGreat

namespace Go.Proofs.YthfkpijcajdnhaaGreat
open Go
theorem tar{d:Nat}{p:Plan}(h:okM (d+1) p=true):Md p=true:=by
 simp only[okM,Bool.and_eq_true]at h;exact h.1
theorem uar(d:Nat)(ins:List (List Row))(p:Plan):Ob (d+1) ins p=match Nb (Ob d ins) p.Kids with
 |none=>none
 |some ks=>if Qa (opR p.Kind p.Num ks ins)=true then some (opR p.Kind p.Num ks ins) else none:=rfl
end Go.Proofs.YthfkpijcajdnhaaGreat

namespace Go.Proofs.YthfkpijcajdnhaaGreat
open Go Tg
theorem lal{x y:Item}(h1:x.Key=y.Key)(h2:x.Val=y.Val)(h3:x.Count=y.Count):x=y:=by
 obtain⟨a,b,c⟩:=x;obtain⟨a',b',c'⟩:=y;simp at h1 h2 h3;subst h1 h2 h3;rfl
theorem Yaj(x y:Item):(cmp .eql x.Key y.Key&&(cmp .eql x.Val y.Val&&(cmp .eql x.Count y.Count&&true)))=true↔x=y:=by
 rw[Db,Db,Db];simp only[Bool.and_eq_true,decide_eq_true_eq,and_true];constructor
 .rintro⟨h1,h2,h3⟩;exact lal h1 h2 h3
 .rintro rfl;exact⟨rfl,rfl,rfl⟩
theorem mal(a b:List Item)(hl:a.length<1000000000):Hah a b/\(Gah a b=true↔a=b):=by
 by_cases hlen:a.length=b.length
 ·have hz:(a.zip b).length=a.length:=by rw[List.length_zip];omega
  have key:∃q,ia (λs=>ca ((λ(s:Int)=>rah a b s) s)) (λs=>Oah a b s) 0 q/\((q=.x ()/\a=b)\/(q=.r false/\a≠b)):=by
   refine ia.list (a.zip b) (λi (_:Unit)=>(i:Int)) (λl _=>a.take l.length=b.take l.length) (b0:=()) rfl rfl ?_ ?_
   ·rintro l ⟨u,v⟩ r ⟨⟩ hx hI;have hll:l.length<a.length:=by rw[← hz,hx];simp
    have hg:(a.zip b)[l.length]? = some (u,v):=by rw[hx];simp
    rw[List.getElem?_zip_eq_some]at hg
    have hu:rd .item a (l.length:Int)=u:=by
     show a.getD (Int.toNat l.length) _=u;rw[Int.toNat_natCast,List.getD_eq_getElem?_getD,hg.1];rfl
    have hv:rd .item b (l.length:Int)=v:=by
     show b.getD (Int.toNat l.length) _=v;rw[Int.toNat_natCast,List.getD_eq_getElem?_getD,hg.2];rfl
    have hla:aa .item a=(a.length:Int):=rfl;have hlb:aa .item b=(b.length:Int):=rfl;have hlss:cmp .lss (l.length:Int) (aa .item a)=true:=by rw[fc,hla];simp;omega
    have hi1:inb (l.length:Int) (aa .item a):=⟨by omega,by omega⟩;have hi2:inb (l.length:Int) (aa .item b):=⟨by omega,by omega⟩;refine⟨by simp[Oah,hlss,hi1,hi2,Dah,Tr.ob,fa],?_⟩;show (∃b',ca (rah a b (l.length:Int))=_/\_)\/∃q,ca (rah a b (l.length:Int))=_/\_;simp only[rah,hlss,hu,hv,Ua (l:=l) (by omega),Dah,Tr.val];by_cases he:u=v
    ·left;subst he;rw[(Yaj u u).2 rfl];refine⟨(),rfl,?_⟩;rw[List.length_append,List.length_singleton,List.take_add_one,List.take_add_one,hI,hg.1,hg.2]
    ·right
     have hne:(cmp .eql u.Key v.Key&&(cmp .eql u.Val v.Val&&(cmp .eql u.Count v.Count&&true)))=false:=by
      rw[← Bool.not_eq_true,Yaj];exact he
     rw[hne];refine⟨.r false,rfl,.inr ⟨rfl,λhab=>he ?_⟩⟩;have:=hg.1;rw[hab,hg.2]at this;exact (Option.some.inj this).symm
   ·rintro⟨⟩ hI;have hend:cmp .lss ((a.zip b).length:Int) (aa .item a)=false:=by rw[fc,hz];simp[aa]
    rw[hz,List.take_length,hlen,List.take_length]at hI;simp only[Oah,rah,hend,Dah,Tr.val,Tr.ob,fa];exact⟨by simp,_,rfl,.inl ⟨rfl,hI⟩⟩
  obtain⟨q,h1,h2⟩:=key;have b2:dak a b:=h1.t
  have hn:cmp .neq (aa .item a) (aa .item b)=false:=by
   show cmp .neq (a.length:Int) (b.length:Int)=false;rw[Ae,hlen];simp
  rcases h2 with⟨rfl,h2⟩|⟨rfl,h2⟩
  ·have a2:caj a b=.x ():=h1.v;simp only[Hah,Gah,Sah,Rah,eaj,daj,hn,a2,ocR,Fah,Eah,Qah,Pah,lpS,Tr.val,Tr.ob];exact⟨by simp[b2],λ_=>h2,λ_=>trivial⟩
  ·have a2:caj a b=.r false:=h1.v;simp only[Hah,Gah,Sah,Rah,eaj,daj,hn,a2,ocR,Fah,Eah,Qah,Pah,lpS,Tr.val,Tr.ob];exact⟨by simp[b2],(λh=>by cases h),λh=>absurd h h2⟩
 ·have hn:cmp .neq (aa .item a) (aa .item b)=true:=by
   show cmp .neq (a.length:Int) (b.length:Int)=true;rw[Ae];simp;omega
  simp only[Hah,Gah,Sah,Rah,hn,ocR,Fah,Eah,Tr.val,Tr.ob];exact⟨by simp,(λh=>by cases h),λh=>absurd (by rw[h]) hlen⟩
def atT(t:Time)(a:List Row):Prop:=∀x∈a,x.At=t
theorem atT.gath{t:Time}{a:List Row}(h:atT t a):atT t (ab a):=λx hx=>by
 obtain⟨y,hy,e⟩:=Dak hx;have e : [y.Key,y.Val,y.At.A,y.At.B]=[x.Key,x.Val,x.At.A,x.At.B]:=e;have hy:=h y hy;simp only[List.cons.injEq,and_true]at e;rcases hx:x.At with⟨A,B⟩;rw[hx,hy]at e;rw[← hy,hy];simp only at e;rw[← e.2.2.1,← e.2.2.2]
theorem nal{a:List Row}(h:Ib a=true)(t:Time):(xd a t).length<=400:=by
 obtain⟨h1,h2⟩:=Bb h;have hs:∀x∈Va a t,InR x.Count:=pah (λx hx=>Zf (h2 x hx)) t
 have hl:(Va a t).length<=400:=by
  unfold Va;rw[List.length_map];exact Nat.le_trans (List.length_filter_le _ _) h1
 exact Nat.le_trans (Jak hs) hl
end Go.Proofs.YthfkpijcajdnhaaGreat

namespace Go.Proofs.YthfkpijcajdnhaaGreat
open Go Tg
structure PS(s:List Item):Prop where
 ok:hao s=true
 kv:∀x∈s,(0<=x.Key/\x.Key<=3)/\0<=x.Val/\x.Val<=99
 cnt:∀x∈s,-39999600<=x.Count/\x.Count<=39999600
 can:Canon s
 len:s.length<=400
theorem var{x z:Item}(h:ltK (kI z) (kI x)=true):uan (some z) x=false:=by
 simp only[kI,ltK,Bool.or_eq_true,Bool.and_eq_true,decide_eq_true_eq]at h;simp only[uan,decide_eq_false_iff_not];rcases h with h|⟨h,h2|⟨_,h2⟩⟩
 .omega
 .omega
 .simp at h2
theorem waq:∀ {s:List Item} {y:Option Item},(∀x∈s,okI x=true)->s.Pairwise (λx y=>ltK (kI x) (kI y)=true)->(∀z,y=some z->∀x∈s,ltK (kI z) (kI x)=true)->okR y s=true
 |[],_,_,_,_=>rfl
 |x::r,y,h1,h2,h3=>by
  have h2':=List.pairwise_cons.1 h2;simp only[okR,Bool.and_eq_true,Bool.not_eq_true'];refine⟨h1 x (by simp),?_,waq (λz hz=>h1 z (by simp[hz])) h2'.2 λz hz u hu=>?_⟩
  ·cases y with
   |none=>rfl
   |some z=>exact var (h3 z rfl x (by simp))
  .cases hz;exact h2'.1 u hu
theorem iao{a:List Row}(h:Ib a=true)(t:Time):PS (xd a t):=by
 have hm:=(Bb h).2;have hl:=nal h t
 have hkv:∀x∈xd a t,(0<=x.Key/\x.Key<=3)/\0<=x.Val/\x.Val<=99:=λx hx=>by
  obtain⟨y,hy,e1,e2⟩:=yD hx;obtain⟨r,hr,rfl⟩:=List.mem_map.1 hy;have:=Si (hm r (List.mem_filter.1 hr).1);have e1:r.Key=x.Key:=e1;have e2:r.Val=x.Val:=e2;omega
 have hc:=Nak h t;refine⟨?_,hkv,hc,V1 _,hl⟩;simp only[hao,Bool.and_eq_true,decide_eq_true_eq];refine⟨waq (λx hx=>?_) (ZM _) (λz hz=>by cases hz),hl⟩;have h1:=hkv x hx;have h2:=hc x hx;have h3:=U1 hx;simp only[okI,decide_eq_true_eq];omega
theorem war(h:Int)(l:List Item)(x:Item):oah h (l++[x])=oah h l++aai h x:=by unfold oah;rw[List.flatMap_append];simp
theorem Eap(h:Int):∀l:List Item,(oah h l).length<=l.length
 |[]=>Nat.le_refl _
 |x::l=>by
  have:=Eap h l;unfold oah at *;rw[List.flatMap_cons,List.length_append,List.length_cons];have:(aai h x).length<=1:=by unfold aai;split<;>simp
  omega
theorem xar{s:List Item}(hs:PS s){h:Int}(hh:1<=h/\h<=7):Gao s h/\Fao s h=gathI (oah h s):=by
 have hl:=hs.len
 have k:ia (λq:LI×Int=>ca (zan h s (aa .item s) q.1 q.2)) (λq=>Pan h s (aa .item s) q.1 q.2) ([],0) (.x (oah h s)):=by
  refine ia.fold s (λi b=>(b,(i:Int))) (λl=>oah h l) rfl (λl x r hx=>?_) ?_
  ·have hlen:s.length=l.length+(r.length+1):=by rw[hx];simp
   have hrd:rd .item s (l.length:Int)=x:=by rw[hx];exact Za
   have hin:inb (l.length:Int) (aa .item s):=by rw[hx];exact Ta (t:=.item)
   have hlss:cmp .lss (l.length:Int) (aa .item s)=true:=by rw[hx];exact fb
   have hkv:=hs.kv x (by rw[hx];simp);obtain⟨e1,e2⟩:=vZ hkv.1 hkv.2 hh;have hl1:=Eap h l;have hlim:∀y,lim (aa .item (oah h l)) (aa .item [y]):=λy=>Wb (t:=.item) (show (oah h l).length<1099511627776 by omega);simp only[Pan,zan,Oan,Aao,Jaq,Iaq,zao,Tr.val,Tr.ob,fa,hlss,hrd,Ua (l:=l) (by omega),e2];rw[war];cases hb:(cc h x.Key x.Val).2.2 with
   |true=>exact⟨by simp[hin,hlim,e1],by simp[ca,aai,hb]⟩
   |false=>exact⟨by simp[hin,hlim,e1],by simp[ca,aai,hb]⟩
  ·have hend:cmp .lss (s.length:Int) (aa .item s)=false:=gb (t:=.item);simp only[Pan,zan,Oan,Tr.val,Tr.ob,hend];exact⟨by simp,rfl⟩
 have a2:Kaq h s (aa .item s)=.x (oah h s):=k.v;have b2:Laq h s (aa .item s):=k.t;have hl2:=Eap h s;obtain⟨q1,q2⟩:=G0 (oah h s) (by omega);obtain⟨s1,s2⟩:=pan s (by omega)
 have hw:xao h/\wao h=true:=by
  have e1:cmp .geq h 1=true:=decide_eq_true (by omega);have e2:cmp .leq h 7=true:=decide_eq_true (by omega);simp only[xao,wao,Rap,Qap,vao,Tr.val,Tr.ob,e1,e2];exact⟨by simp,rfl⟩
 simp only[Gao,Fao,Vap,Uap,Eao,Dao,Naq,Maq,Cao,Bao,lpS,Tr.val,Tr.ob,fa,s2,hs.ok,hw.2,a2,q2];exact⟨by simp[s1,hw.1,b2,q1],rfl⟩
theorem yar{s u:List Item}(hs:PS s)(hu:PS u):Jao s u/\Iao s u=gathI (s++u):=by
 have hl:=hs.len;have hl2:=hu.len;obtain⟨s1,s2⟩:=pan s (by omega);obtain⟨u1,u2⟩:=pan u (by omega);obtain⟨q1,q2⟩:=G0 (s++u) (by rw[List.length_append];omega);have h1:lim (aa .item ([]:List Item)) (aa .item s):=by simp only[lim,aa,List.length_nil];omega
 have h2:lim (aa .item s) (aa .item u):=qr (t:=.item) (by omega);simp only[Jao,Iao,Yap,Xap,Hao,Tr.val,Tr.ob,fa,s2,u2,hs.ok,hu.ok,List.nil_append,q2];exact⟨by simp[s1,u1,h1,h2,q1],rfl⟩
theorem zar{s:List Item}(hs:PS s):Qao s/\Pao s=s.map Jb:=by
 have hl:=hs.len
 have k:ia (λq:LI×Int=>ca (Aan s (aa .item s) q.1 q.2)) (λq=>San s (aa .item s) q.1 q.2) (s,0) (.x (s.map Jb)):=by
  refine ia.fold s (λi b=>(b,(i:Int))) (λl=>l.map Jb++s.drop l.length) (by simp) (λl x r hx=>?_) ?_
  ·have hlen:s.length=l.length+(r.length+1):=by rw[hx];simp
   have hd:s.drop l.length=x::r:=by rw[hx];simp
   have hd2:s.drop (l++[x]).length=r:=by rw[hx];simp
   have hnl:(l.map Jb).length=l.length:=by simp
   have hrd:rd .item (l.map Jb++x::r) (l.length:Int)=x:=by rw[← hnl];exact Za
   have hin:inb (l.length:Int) (aa .item (l.map Jb++x::r)):=by rw[← hnl];exact Ta (t:=.item)
   have hlss:cmp .lss (l.length:Int) (aa .item s)=true:=by rw[hx];exact fb
   have hset:List.set (l.map Jb++x::r) (Int.toNat (l.length:Int)) (Jb x)=(l++[x]).map Jb++r:=by
    rw[show Int.toNat (l.length:Int)=(l.map Jb).length by rw[hnl];rfl,List.set_append_right _ _ (Nat.le_refl _),Nat.sub_self];simp
   simp only[hd,hd2,San,Aan,Ran,Tr.val,Tr.ob,fa,hlss,hrd,Ua (l:=l) (by omega)];refine⟨by simp[hin],?_⟩;show Lp.go (List.set (l.map Jb++x::r) (Int.toNat (l.length:Int)) (Jb x),_)=_;rw[hset]
  ·have hend:cmp .lss (s.length:Int) (aa .item s)=false:=gb (t:=.item);simp only[San,Aan,Ran,Tr.val,Tr.ob,fa,hend];exact⟨by simp,by simp[ca]⟩
 have a2:Paq s (aa .item s)=.x (s.map Jb):=k.v;have b2:Qaq s (aa .item s):=k.t;obtain⟨s1,s2⟩:=pan s (by omega);have hlim:lim (aa .item ([]:List Item)) (aa .item s):=by simp only[lim,aa,List.length_nil];omega
 simp only[Qao,Pao,daq,caq,Oao,Nao,Saq,Raq,Mao,Lao,lpS,Tr.val,Tr.ob,fa,s2,hs.ok,List.nil_append,a2];exact⟨by simp[s1,b2,hlim],rfl⟩
theorem Fap(x:Item):∀b:List Item,(b.flatMap (Cah x)).length<=b.length
 |[]=>Nat.le_refl _
 |y::b=>by
  have:=Fap x b;rw[List.flatMap_cons,List.length_append,List.length_cons];have:(Cah x y).length<=1:=by unfold Cah;split<;>simp
  omega
theorem xaq(b:List Item):∀a:List Item,(qah a b).length<=a.length*b.length
 |[]=>by simp[qah]
 |x::a=>by
  have h1:=xaq b a;have h2:=Fap x b;show ((x::a).flatMap λx=>b.flatMap (Cah x)).length<=_;rw[List.flatMap_cons,List.length_append,List.length_cons,Nat.succ_mul];have:(qah a b).length=(a.flatMap λx=>b.flatMap (Cah x)).length:=rfl;omega
theorem yaq{a b:List Item}(ha:a.length<=400)(hb:b.length<=400):(qah a b).length<=160000:=Nat.le_trans (xaq b a) (Nat.mul_le_mul ha hb)
theorem Aar{x y:Int}(hx : -39999600<=x/\x<=39999600)(hy : -39999600<=y/\y<=39999600):ar .mul .i64 x y=x*y:=by
 have h1:x.natAbs<=39999600:=by omega
 have h2:y.natAbs<=39999600:=by omega
 have h3:(x*y).natAbs<=39999600*39999600:=by rw[Int.natAbs_mul];exact Nat.mul_le_mul h1 h2
 have h4:(39999600:Nat)*39999600=1599968000160000:=rfl;rw[h4]at h3;exact Xf (by omega)
theorem Bar{s u:List Item}(hs:PS s)(hu:PS u):bap s u/\aap s u=gathI (qah s u):=by
 have hl:=hs.len;have hlu:=hu.len
 have k4:∀ (x:Item) (m0:List Item) (i:Int),x∈s->m0.length<=160000->ia (λq:LI×Int=>ca (Can u m0 x s (aa .item s) i (aa .item u) q.1 q.2)) (λq=>Uan u m0 x s (aa .item s) i (aa .item u) q.1 q.2) (m0,0) (.x (m0++u.flatMap (Cah x))):=by
  intro x m0 i hx hm0;have hxk:=hs.kv x hx;have hxc:=hs.cnt x hx;refine ia.fold u (λi b=>(b,(i:Int))) (λl=>m0++l.flatMap (Cah x)) (by simp) (λl y r hy=>?_) ?_
  ·have hlen:u.length=l.length+(r.length+1):=by rw[hy];simp
   have hrd:rd .item u (l.length:Int)=y:=by rw[hy];exact Za
   have hin:inb (l.length:Int) (aa .item u):=by rw[hy];exact Ta (t:=.item)
   have hlss:cmp .lss (l.length:Int) (aa .item u)=true:=by rw[hy];exact fb
   have hym:y∈u:=by rw[hy];simp
   obtain⟨v1,v2⟩:=zZ hxk.2 (hu.kv y hym).2;have hl1:=Fap x l;have hlim:∀z,lim (aa .item (m0++l.flatMap (Cah x))) (aa .item [z]):=λz=>Wb (t:=.item) (show (m0++l.flatMap (Cah x)).length<1099511627776 by rw[List.length_append];omega);simp only[Uan,Can,Tan,Sao,Uaq,Taq,Rao,Tr.val,Tr.ob,fa,hlss,hrd,Ua (l:=l) (by omega),v2,Aar hxc (hu.cnt y hym),Db];rw[List.flatMap_append,← List.append_assoc];by_cases hk:x.Key=y.Key
   .exact⟨by simp[hin,hlim,v1],by simp[ca,Cah,hk]⟩
   .exact⟨by simp[hin,hlim,hk],by simp[ca,Cah,hk]⟩
  ·have hend:cmp .lss (u.length:Int) (aa .item u)=false:=gb (t:=.item);simp only[Uan,Can,Tan,Tr.val,Tr.ob,hend];exact⟨by simp,rfl⟩
 have k:ia (λq:LI×Int=>ca (Dan u s (aa .item s) q.1 q.2)) (λq=>Wan u s (aa .item s) q.1 q.2) ([],0) (.x (qah s u)):=by
  refine ia.fold s (λi m=>(m,(i:Int))) (λl=>qah l u) rfl (λl x r hx=>?_) ?_
  ·have hlen:s.length=l.length+(r.length+1):=by rw[hx];simp
   have hrd:rd .item s (l.length:Int)=x:=by rw[hx];exact Za
   have hin:inb (l.length:Int) (aa .item s):=by rw[hx];exact Ta (t:=.item)
   have hlss:cmp .lss (l.length:Int) (aa .item s)=true:=by rw[hx];exact fb
   have k:=k4 x (qah l u) (l.length:Int) (by rw[hx];simp) (yaq (a:=l) (b:=u) (by omega) hlu);have c2:Vaq u (qah l u) x s (aa .item s) (l.length:Int) (aa .item u)=.x (qah l u++u.flatMap (Cah x)):=k.v;have c1:Waq u (qah l u) x s (aa .item s) (l.length:Int) (aa .item u):=k.t;have hsn:qah (l++[x]) u=qah l u++u.flatMap (Cah x):=by unfold qah;rw[List.flatMap_append];simp
   simp only[Wan,Dan,Van,Vao,Yaq,Xaq,Uao,Tao,lpS,Tr.val,Tr.ob,fa,hlss,hrd,Ua (l:=l) (by omega),c2];rw[hsn];exact⟨by simp[hin,c1],rfl⟩
  ·have hend:cmp .lss (s.length:Int) (aa .item s)=false:=gb (t:=.item);simp only[Wan,Dan,Van,Tr.val,Tr.ob,hend];exact⟨by simp,rfl⟩
 have a2:Zaq u s (aa .item s)=.x (qah s u):=k.v;have b2:aar u s (aa .item s):=k.t;obtain⟨s1,s2⟩:=pan s (by omega);obtain⟨u1,u2⟩:=pan u (by omega);have hj:=yaq (a:=s) (b:=u) hl hlu;obtain⟨q1,q2⟩:=G0 (qah s u) (by omega);simp only[bap,aap,iaq,haq,Zao,Yao,car,bar,Xao,Wao,lpS,Tr.val,Tr.ob,fa,s2,u2,hs.ok,hu.ok,a2,q2];exact⟨by simp[s1,u1,b2,q1],rfl⟩
theorem Car(num:Int)(ks ins:List (List Item)):opS 1 num ks ins=ins.getD num.toNat []:=rfl
theorem Dar(num:Int)(ks ins:List (List Item)):opS 2 num ks ins=gathI (oah num (ks.getD 0 [])):=rfl
theorem Ear(num:Int)(ks ins:List (List Item)):opS 3 num ks ins=gathI (ks.getD 0 []++ks.getD 1 []):=rfl
theorem Far(num:Int)(ks ins:List (List Item)):opS 4 num ks ins=(ks.getD 0 []).map Jb:=rfl
theorem Gar(num:Int)(ks ins:List (List Item)):opS 5 num ks ins=gathI (qah (ks.getD 0 []) (ks.getD 1 [])):=rfl
theorem Har(num:Int)(ks ins:List (List Item)):opS 6 num ks ins=fg num (ks.getD 0 []):=rfl
theorem qan{ks:List (List Item)}{i:Int}(h0:0<=i)(h:i<ks.length):inb i (aa .litem ks):=by unfold inb aa;omega
theorem Iar{ins:List (List Row)}(t:Time)(hlen:ins.length=2)(hins:∀a∈ins,Qa a=true):∀ (d n:Nat),d<=n->∀ (p:Plan) (x:List Row),okM d p=true->Ob d ins p=some x ->
  (lan n).2 p (ins.map λa=>xd a t)/\(lan n).1 p (ins.map λa=>xd a t)=(xd x t,true,()):=by
 intro d
 induction d with
 |zero=>intro n _ p x h;cases h
 |succ d ih=>
  intro n hn p x hp hx;obtain⟨m,rfl⟩ : ∃m,n=m+1:=⟨n - 1,by omega⟩;obtain⟨hkl,hk⟩:=cO hp;have hb:=wD hx;have hx:=(uar d ins p).symm.trans hx
  obtain⟨ks,hks⟩ : ∃ks,Nb (Ob d ins) p.Kids=some ks:=by
   cases hA:Nb (Ob d ins) p.Kids with
   |none=>rw[hA]at hx;cases hx
   |some ks=>exact⟨ks,rfl⟩
  have hxe:opR p.Kind p.Num ks ins=x:=by
   rw[hks]at hx;simp only at hx;split at hx
   .exact Option.some.inj hx
   .cases hx
  have hkb:∀x∈ks,Qa x=true:=λx hx=>by
   obtain⟨q,_,hq⟩:=vD hks x hx;exact wD hq
  have hop:=Qak (kind:=p.Kind) (num:=p.Num) (ks:=ks) (ins:=ins) hkb t;rw[hxe]at hop;generalize hJ:(ins.map λa=>xd a t)=J at hop ih⊢;have hJl:J.length=2:=by rw[← hJ,List.length_map];exact hlen
  have hJp:∀s∈J,PS s:=λs hs=>by
   rw[← hJ]at hs;obtain⟨a,ha,rfl⟩:=List.mem_map.1 hs;exact iao (bg (hins a ha)) t
  have hkn:=Xl hks;generalize hL:(ks.map λa=>xd a t)=L at hop;have hLl:L.length=p.Kids.length:=by rw[← hL,List.length_map];exact hkn
  have hLp:∀s∈L,PS s:=λs hs=>by
   rw[← hL]at hs;obtain⟨a,ha,rfl⟩:=List.mem_map.1 hs;exact iao (bg (hkb a ha)) t
  have k:∃q,ia (λs:List LI×Int=>ca (Fan (lan m).1 (lan m).2 J p.Kind p.Num p.Kids (aa .plan p.Kids) s.1 s.2)) (λs=>Zan (lan m).1 (lan m).2 J p.Kind p.Num p.Kids (aa .plan p.Kids) s.1 s.2) ([],0) q/\q=.x L:=by
   refine ia.list p.Kids (λi b=>(b,(i:Int))) (λl b=>∃ys,Nb (Ob d ins) l=some ys/\b=ys.map λa=>xd a t) (b0:=[]) rfl ⟨[],rfl,rfl⟩ (λl y r b hy hI=>?_) (λb hI=>?_)
   ·obtain⟨ys,hI,rfl⟩:=hI;have hrd:rd .plan p.Kids (l.length:Int)=y:=by rw[hy];exact Za
    have hin:inb (l.length:Int) (aa .plan p.Kids):=by rw[hy];exact Ta (t:=.plan)
    have hlss:cmp .lss (l.length:Int) (aa .plan p.Kids)=true:=by rw[hy];exact fb
    have hlen2:p.Kids.length=l.length+(r.length+1):=by rw[hy];simp
    have hbl:=Xl hI;have hall:=Wl (Ob d ins) l (y::r);have hall1:=Wl (Ob d ins) l [y];rw[← hy,hks,hI]at hall;rw[hI]at hall1;cases hf:Ob d ins y with
    |none=>simp[Nb,hf]at hall
    |some z=>
     simp only[Nb,hf]at hall1;obtain⟨i1,i2⟩:=ih m (by omega) y z (hk y (by rw[hy];simp)) hf;have hlim:∀w,lim (aa .litem (ys.map λa=>xd a t)) (aa .litem [w]):=λw=>Wb (t:=.litem) (show (ys.map λa=>xd a t).length<1099511627776 by rw[List.length_map];omega);simp only[Zan,Fan,Yan,Tr.val,Tr.ob,fa,hlss,hrd,dg,i2,Ua (l:=l) (by omega)];exact⟨by simp[hin,i1,hlim],.inl ⟨_,rfl,ys++[z],hall1,by rw[List.map_append];rfl⟩⟩
   ·obtain⟨ys,hI,rfl⟩:=hI;rw[hks]at hI;cases hI;have hend:cmp .lss (p.Kids.length:Int) (aa .plan p.Kids)=false:=gb (t:=.plan);simp only[Zan,Fan,Yan,Tr.val,Tr.ob,fa,hend];exact⟨by simp,_,rfl,by rw[hL]⟩
  obtain⟨q,kq,rfl⟩:=k;have a2:dar (lan m).1 (lan m).2 J p.Kind p.Num p.Kids (aa .plan p.Kids)=.x L:=kq.v;have b2:ear (lan m).1 (lan m).2 J p.Kind p.Num p.Kids (aa .plan p.Kids):=kq.t;have hroot:=tar hp;simp only[Md,decide_eq_true_eq]at hroot;obtain⟨r1,r2,r3⟩:=hroot;have hpx:=iao (bg hb) t;have hpl:=hpx.len;obtain⟨z1,z2⟩:=pan (xd x t) (by omega)
  have hg0:∀ {l:List (List Item)},(∀s∈l,PS s)->∀n,n<l.length->PS (l.getD n []):=λ{l} h n hn=>by
   rw[List.getD_eq_getElem?_getD,List.getElem?_eq_getElem hn];exact h _ (List.getElem_mem hn)
  obtain⟨K,M,kids⟩:=p;simp only at r1 r2 r3 b2 a2 hLl hop⊢;have rl0:∀l:List (List Item),rd .litem l 0=l.getD 0 []:=λ_=>rfl;have rl1:∀l:List (List Item),rd .litem l 1=l.getD 1 []:=λ_=>rfl
  have key:maq (lan m).1 (lan m).2 J K M kids L/\laq (lan m).1 (lan m).2 J K M kids L=.n (xd x t):=by
   simp only[maq,laq,jap,Tr.val,Tr.ob,fa,Db,rl0,rl1,List.nil_append];rcases Cr K with rfl|rfl|rfl|rfl|rfl|rfl|⟨g1,g2,g3,g4,g5,g6⟩
   ·simp only[kd]at r1 r2 r3;have hM:0<=M/\M<=1:=by simpa using And.intro r2 r3
    have hrd:rd .litem J M=J.getD M.toNat []:=rfl;have hp1:=hg0 hJp M.toNat (by omega);have hin:=qan (ks:=J) hM.1 (by omega);have hl:=hp1.len;have hlim:lim (aa .item ([]:List Item)) (aa .item (J.getD M.toNat [])):=by simp only[lim,aa,List.length_nil];omega
    rw[hop,Car];exact⟨by simp only[hrd];simp[hin];exact hlim,by simp[hrd]⟩
   ·have hn1:L.length=1:=by simp[kd]at r1;omega
    have hin:=qan (ks:=L) (i:=0) (by omega) (by omega);simp only[kd]at r2 r3;have hM:1<=M/\M<=7:=by simpa using And.intro r2 r3
    obtain⟨c1,c2⟩:=xar (hg0 hLp 0 (by omega)) hM;rw[hop,Dar];exact⟨by simp[-List.getD_eq_getElem?_getD,hin,c1],by simp[-List.getD_eq_getElem?_getD,c2]⟩
   ·have hn1:L.length=2:=by simp[kd]at r1;omega
    have hin:=qan (ks:=L) (i:=0) (by omega) (by omega);have hin1:=qan (ks:=L) (i:=1) (by omega) (by omega);obtain⟨c1,c2⟩:=yar (hg0 hLp 0 (by omega)) (hg0 hLp 1 (by omega));rw[hop,Ear];exact⟨by simp[-List.getD_eq_getElem?_getD,hin,hin1,c1],by simp[-List.getD_eq_getElem?_getD,c2]⟩
   ·have hn1:L.length=1:=by simp[kd]at r1;omega
    have hin:=qan (ks:=L) (i:=0) (by omega) (by omega);obtain⟨c1,c2⟩:=zar (hg0 hLp 0 (by omega));rw[hop,Far];exact⟨by simp[-List.getD_eq_getElem?_getD,hin,c1],by simp[-List.getD_eq_getElem?_getD,c2]⟩
   ·have hn1:L.length=2:=by simp[kd]at r1;omega
    have hin:=qan (ks:=L) (i:=0) (by omega) (by omega);have hin1:=qan (ks:=L) (i:=1) (by omega) (by omega);obtain⟨c1,c2⟩:=Bar (hg0 hLp 0 (by omega)) (hg0 hLp 1 (by omega));rw[hop,Gar];exact⟨by simp[-List.getD_eq_getElem?_getD,hin,hin1,c1],by simp[-List.getD_eq_getElem?_getD,c2]⟩
   ·have hn1:L.length=1:=by simp[kd]at r1;omega
    have hin:=qan (ks:=L) (i:=0) (by omega) (by omega);simp only[kd]at r2 r3;have hM:1<=M/\M<=3:=by simpa using And.intro r2 r3
    have hp1:=hg0 hLp 0 (by omega);have hl:=hp1.len;obtain⟨c1,c2⟩:=TZ (s:=L.getD 0 []) (by omega) hp1.can (λx hx=>(hp1.kv x hx).1) hM;rw[hop,Har];exact⟨by simp[-List.getD_eq_getElem?_getD,hin,c1],by simp[-List.getD_eq_getElem?_getD,c2]⟩
   ·exfalso
    simp[kd,g1,g2,g3,g4,g5,g6]at r1
  obtain⟨c1,c2⟩:=key;simp only[lan,oap,nap,lap,iap,har,gar,gap,fap,kap,lpS,Tr.val,Tr.ob,fa,a2,c2,z2,hpx.ok];exact⟨by simp[b2,c1,c2,z1],rfl⟩
theorem Jar{p:Plan}{ins:List (List Row)}{x:List Row}(f:ZN p ins x)(t:Time):vap p (ins.map λa=>xd a t)/\uap p (ins.map λa=>xd a t)=(xd x t,true,()):=by
 obtain⟨p1,p2⟩:=L1 p;obtain⟨q1,q2⟩:=Iar t f.len f.every 4 Pc (by decide) p x f.ok f.flow;have q1:oaq p (ins.map λa=>xd a t):=q1;have q2:naq p (ins.map λa=>xd a t)=(xd x t,true,()):=q2;generalize hJ:(ins.map λa=>xd a t)=J at q1 q2⊢;have hJl:J.length=2:=by rw[← hJ,List.length_map];exact f.len
 have hJp:∀s∈J,PS s:=λs hs=>by
  rw[← hJ]at hs;obtain⟨a,ha,rfl⟩:=List.mem_map.1 hs;exact iao (bg (f.every a ha)) t
 have k:ia (λs:Int=>ca (Gan J p.Kind p.Num p.Kids (aa .litem J) s)) (λs=>cao J p.Kind p.Num p.Kids (aa .litem J) s) 0 (.x ()):=by
  refine ia.fold J (λi (_:Unit)=>(i:Int)) (λ_=>()) rfl (λl y r hx=>?_) ?_
  ·have hlen:J.length=l.length+(r.length+1):=by rw[hx];simp
   have hrd:rd .litem J (l.length:Int)=y:=by rw[hx];exact Za
   have hin:inb (l.length:Int) (aa .litem J):=by rw[hx];exact Ta (t:=.litem)
   have hlss:cmp .lss (l.length:Int) (aa .litem J)=true:=by rw[hx];exact fb
   have hy:=hJp y (by rw[hx];simp);have hyl:=hy.len;obtain⟨b1,b2⟩:=pan y (by omega);simp only[cao,Gan,bao,Tr.val,Tr.ob,fa,hlss,hrd,b2,hy.ok,Ua (l:=l) (by omega)];exact⟨by simp[hin,b1],rfl⟩
  ·have hend:cmp .lss (J.length:Int) (aa .litem J)=false:=gb (t:=.litem);simp only[cao,Gan,bao,Tr.val,Tr.ob,fa,hend];exact⟨by simp,rfl⟩
 have a2:jar J p.Kind p.Num p.Kids (aa .litem J)=.x ():=k.v;have b2:kar J p.Kind p.Num p.Kids (aa .litem J):=k.t;have hne:cmp .neq (aa .litem J) 2=false:=by rw[Ae];unfold aa;simp[hJl]
 simp only[vap,uap,saq,raq,tap,sap,mar,lar,rap,qap,lpS,Tr.val,Tr.ob,fa,dg,p2,f.ok,hne,a2,q2];exact⟨by simp[p1,b2,q1],rfl⟩
theorem Zaj(n:Nat):allT (n+1)=allT n++(List.range 8).map λb:Nat=>(⟨(n:Int),(b:Int)⟩ : Time):=by
 unfold allT;rw[List.range_succ (n:=n),List.flatMap_append];simp
theorem Wai:∀n,(allT n).length=8*n
 |0=>rfl
 |n+1=>by rw[Zaj,List.length_append,Wai n];simp;omega
theorem oal{t:Time}(h:t∈allT 8):Ea t=true:=by
 obtain⟨a,ha,h⟩:=List.mem_flatMap.1 h;obtain⟨b,hb,rfl⟩:=List.mem_map.1 h;have ha:=List.mem_range.1 ha;have hb:=List.mem_range.1 hb;simp only[Ea,decide_eq_true_eq];omega
theorem pal:xai/\wai=allT 8:=by
 have k4:∀ (m0:List Time) (n:Nat),m0.length<=64->ia (λs:List Time×Int=>ca (wah m0 (n:Int) s.1 s.2)) (λs=>Iah m0 (n:Int) s.1 s.2) (m0,0) (.x (m0++(List.range 8).map λb:Nat=>(⟨(n:Int),(b:Int)⟩ : Time))):=λm0 n hm=>by
  have h:=LN (step:=λs:List Time×Int=>ca (wah m0 (n:Int) s.1 s.2)) (ob:=λs=>Iah m0 (n:Int) s.1 s.2) (λk=>m0++(List.range k).map λb:Nat=>(⟨(n:Int),(b:Int)⟩ : Time)) (fin:=.x (m0++(List.range 8).map λb:Nat=>(⟨(n:Int),(b:Int)⟩ : Time))) (λi hi=>?_) ?_
  .simpa using h
  ·have e:cmp .leq (i:Int) 7=true:=decide_eq_true (by omega);have hlim:∀w,lim (aa .time (m0++(List.range i).map λb:Nat=>(⟨(n:Int),(b:Int)⟩ : Time))) (aa .time [w]):=λw=>Wb (t:=.time) (show List.length _<1099511627776 by rw[List.length_append,List.length_map,List.length_range];omega);simp only[Iah,wah,Uah,Tr.val,Tr.ob,fa,e];refine⟨by simp[hlim],?_⟩;have ea:ar .add .i64 (i:Int) 1=((i+1:Nat):Int):=by rw[nc (by omega)];omega
   rw[List.range_succ,List.map_append,← List.append_assoc,ea];rfl
  ·have e:cmp .leq ((8:Nat):Int) 7=false:=rfl;simp only[Iah,wah,Uah,Tr.val,Tr.ob,fa,e];exact⟨by simp,rfl⟩
 have k:ia (λs:List Time×Int=>ca (xah s.1 s.2)) (λs=>Jah s.1 s.2) ([],0) (.x (allT 8)):=by
  refine LN (step:=λs:List Time×Int=>ca (xah s.1 s.2)) (ob:=λs=>Jah s.1 s.2) allT (λi hi=>?_) ?_
  ·have e:cmp .leq (i:Int) 7=true:=decide_eq_true (by omega);have k:=k4 (allT i) i (by rw[Wai];omega);have a4:kak (allT i) (i:Int)=.x (allT (i+1)):=by rw[Zaj];exact k.v
   have b4:lak (allT i) (i:Int):=k.t;have ea:ar .add .i64 (i:Int) 1=((i+1:Nat):Int):=by rw[nc (by omega)];omega
   simp only[Jah,xah,Vah,rai,nak,mak,qai,pai,lpS,Tr.val,Tr.ob,e,a4,ea];exact⟨by simp[b4],rfl⟩
  ·have e:cmp .leq ((8:Nat):Int) 7=false:=rfl;simp only[Jah,xah,Vah,Tr.val,Tr.ob,e];exact⟨by simp,rfl⟩
 have a2:oak=.x (allT 8):=k.v;have b2:pak:=k.t;simp only[xai,wai,uaj,taj,vai,uai,rak,qak,tai,sai,lpS,Tr.val,Tr.ob,a2];exact⟨by simp[b2],rfl⟩
theorem Kar{ins:List (List Row)}(hl:ins.length<=2)(hr:∀a∈ins,Ib a=true){t:Time}(ht:Ea t=true):pao ins t/\oao ins t=ins.map λa=>xd a t:=by
 have k:ia (λs:List LI×Int=>ca (van ins t s.1 s.2)) (λs=>Lan ins t s.1 s.2) ([],0) (.x (ins.map λa=>xd a t)):=by
  refine ia.fold ins (λi b=>(b,(i:Int))) (λl=>l.map λa=>xd a t) rfl (λl y r hx=>?_) ?_
  ·have hlen:ins.length=l.length+(r.length+1):=by rw[hx];simp
   have hrd:rd .lrow ins (l.length:Int)=y:=by rw[hx];exact Za
   have hin:inb (l.length:Int) (aa .lrow ins):=by rw[hx];exact Ta (t:=.lrow)
   have hlss:cmp .lss (l.length:Int) (aa .lrow ins)=true:=by rw[hx];exact fb
   have hy:=hr y (by rw[hx];simp);have hyl:=(Bb hy).1;obtain⟨b1,b2⟩:=Naj y t (by omega);rw[if_pos ⟨hy,ht⟩]at b2;have hlim:∀w,lim (aa .litem (l.map λa=>xd a t)) (aa .litem [w]):=λw=>Wb (t:=.litem) (show (l.map λa=>xd a t).length<1099511627776 by rw[List.length_map];omega);simp only[Lan,van,Kan,Tr.val,Tr.ob,fa,hlss,hrd,b2,Ua (l:=l) (by omega)];exact⟨by simp[hin,b1,hlim],by rw[List.map_append];rfl⟩
  ·have hend:cmp .lss (ins.length:Int) (aa .lrow ins)=false:=gb (t:=.lrow);simp only[Lan,van,Kan,Tr.val,Tr.ob,fa,hend];exact⟨by simp,rfl⟩
 have a2:zaq ins t=.x (ins.map λa=>xd a t):=k.v;have b2:Aaq ins t:=k.t;simp only[pao,oao,Jap,Iap,nao,mao,Caq,Baq,lao,kao,lpS,Tr.val,Tr.ob,a2];exact⟨by simp[b2],rfl⟩
theorem Lar(c:List Int)(hc:∀x∈c,0<=x/\x<=255):Dap c/\Cap c=true:=by
 by_cases hbig:cmp .gtr (aa .byte c) 1048576=true
 ·simp only[Dap,Cap,Bap,Aap,hbig,ocR,gao,Tr.val,Tr.ob,fa];exact⟨by simp,trivial⟩
 ·have hbig:cmp .gtr (aa .byte c) 1048576=false:=by simpa using hbig
  obtain⟨p,ins,h⟩:=F1 hc;simp only[Dap,Cap,Bap,Aap,gao,Tr.val,Tr.ob,fa,hbig,h.d2,dg,h.s2,h.i2];cases hF:We p ins with
  |none=>
   have l1:=oN [] [] (by simp);have l2:=pN [] (by simp);simp only[zc,l2,ocR];exact⟨by simp[h.d1,h.s1,h.i1,l1],by simp⟩
  |some x=>
   have f:=G1 hF;have hs:=f.short;have l1:=oN x x (by omega);have l2:=pN x (by omega);have hlen:=h.len;have hro:∀a∈ins,Ib a=true:=λa ha=>bg (f.every a ha);have hrx:=bg f.batch;obtain⟨w1,w2⟩:=pal
   have k:ia (λs:Int=>ca (Han p.Kind p.Num p.Kids ins x (allT 8) s)) (λs=>fao p.Kind p.Num p.Kids ins x (allT 8) s) 0 (.x ()):=by
    refine ia.fold (allT 8) (λi (_:Unit)=>(i:Int)) (λ_=>()) rfl (λl t r hx=>?_) ?_
    ·have hlen:(allT 8).length=l.length+(r.length+1):=by rw[hx];simp
     rw[Wai]at hlen;have hrd:rd .time (allT 8) (l.length:Int)=t:=by rw[hx];exact Za
     have hin:inb (l.length:Int) (aa .time (allT 8)):=by rw[hx];exact Ta (t:=.time)
     have hlss:cmp .lss (l.length:Int) (aa .time (allT 8))=true:=by rw[hx];exact fb
     have ht:Ea t=true:=oal (by rw[hx];simp);obtain⟨a1,a2⟩:=Kar h.len hro ht;obtain⟨s1,s2⟩:=Jar f t;obtain⟨b1,b2⟩:=Naj x t (by omega);rw[if_pos ⟨hrx,ht⟩]at b2;have hpl:=nal hrx t;obtain⟨i1,i2⟩:=mal (xd x t) (xd x t) (by omega);simp only[fao,Han,eao,Tr.val,Tr.ob,fa,hlss,hrd,a2,dg,s2,b2,i2.2 rfl,Ua (l:=l) (by omega)];exact⟨by simp[hin,a1,s1,b1,i1],rfl⟩
    ·have hend:cmp .lss ((allT 8).length:Int) (aa .time (allT 8))=false:=gb (t:=.time);simp only[fao,Han,eao,Tr.val,Tr.ob,fa,hend];exact⟨by simp,rfl⟩
   have a2:nar p.Kind p.Num p.Kids ins x (allT 8)=.x ():=k.v;have b2:oar p.Kind p.Num p.Kids ins x (allT 8):=k.t;simp only[zap,qar,par,yap,xap,lpS,Tr.val,Tr.ob,zc,l2,w2,a2];exact⟨by simp[h.d1,h.s1,h.i1,l1,w1,b2],rfl⟩
end Go.Proofs.YthfkpijcajdnhaaGreat

namespace Go.Proofs.YthfkpijcajdnhaaGreat
open Go
theorem Cam:Con Tryz.prog 20 Zai:=Ial (.cons Taf (.cons DV (.cons dag (.nil xa ya))))
theorem Dam:Con Tryz.prog 21 faj:=Oal (.nil xa ya)
theorem Ham:Con Tryz.prog 27 vaj:=nam (.nil xa ya)
theorem aat:Con Tryz.prog 30 Kap:=Rar (.cons Cam (.nil xa ya))
theorem Ian:Con Tryz.prog 56 san:=Xar (.nil xa ya)
theorem bat:Con Tryz.prog 104 Sap:=cas (.nil xa ya)
theorem cat:Con Tryz.prog 81 Wap:=kas (.cons Ian (.cons bat (.cons Vaf (.cons CM (.nil xa ya)))))
theorem dat:Con Tryz.prog 82 Zap:=pas (.cons Ian (.cons CM (.nil xa ya)))
theorem eat:Con Tryz.prog 83 eaq:=vas (.cons Ian (.nil xa ya))
theorem fat:Con Tryz.prog 84 jaq:=Gas (.cons Ian (.cons Zaf (.cons CM (.nil xa ya))))
theorem sar:∀n,Con Tryz.prog 57 (dap (lan n).1 (lan n).2)
 |0=>Fl (fn:=Tryz.f57) (c:=Jd Tryz.f57) (by kernel_rfl) (by kernel_rfl) (by kernel_rfl) λ_ h=>h
 |n+1=>Nas (.cons (sar n) (.cons cat (.cons dat (.cons eat (.cons fat (.cons gag (.cons Ian (.nil xa ya))))))))
theorem gat:Con Tryz.prog 57 iar:=(sar Pc)
theorem iat:Con Tryz.prog 29 taq:=Tas (.cons Qaf (.cons Ian (.cons gat (.nil xa ya))))
theorem jat:Con Tryz.prog 10 rar:=Zas (.cons waf (.cons Naf (.cons kag (.cons lag (.cons Ham (.cons aat (.cons iat (.cons Cam (.cons Dam (.nil xa ya))))))))))
end Go.Proofs.YthfkpijcajdnhaaGreat
