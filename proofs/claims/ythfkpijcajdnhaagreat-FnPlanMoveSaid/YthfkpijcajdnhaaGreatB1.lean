/-
  What 'FlowTimes' computes: the times of a key's rows, and all their joins, in order. Printed by a program: what functions compute, and their contracts (part 1). Printed by a program: what functions compute, and their contracts (part 2). 'DrawPlanFlow' by hand: a list of lists that is cut and written. Rules for loops over lists, and for the order that a fold sets up. 'advanced' by hand: a list of one's own is written while a parameter is read. What the drawing functions give: bounds. Sums of rows and of items in the reference: they are the gathered ones. What is drawn for laws of loops: bounds. Sets and steps of loops, by what they compute. Sums over changes, and what is left of them when they are put in order. Sums but for multiples of 2 to the power of 64: what is left of changes put in order depends on these alone. No statement is proved here.
-/
import Derived.Test.YthfkpijcajdnhaaGreatAR
import Derived.Test.YthfkpijcajdnhaaGreatProg
import Derived.IntWalk

namespace Go.Proofs.YthfkpijcajdnhaaGreat
open Go
def vb(x:Row):Bool:=decide (0<=x.Key/\x.Key<=3/\0<=x.Val/\x.Val<=99/\(0<=x.At.A/\x.At.A<=7/\0<=x.At.B/\x.At.B<=7)/\-99999<=x.Diff/\x.Diff<=99999)
def Ib(xs:List Row):Bool:=xs.all vb&&decide (xs.length<=400)
def Ea(t:Time):Bool:=decide (0<=t.A/\t.A<=7/\0<=t.B/\t.B<=7)
def jT(xs:List Row)(k:Int)(t:Time):Bool:=xs.any (λx=>decide (x.Key=k/\x.At.A=t.A/\x.At.B<=t.B))&&xs.any (λx=>decide (x.Key=k/\x.At.B=t.B/\x.At.A<=t.A))
def rowP(p:Time->Bool)(i:Int)(n:Nat):List Time:=((List.range n).filter λb:Nat=>p ⟨i,(b:Int)⟩).map λb:Nat=>(⟨i,(b:Int)⟩ : Time)
def qc(p:Time->Bool):Nat->List Time
 |0=>[]
 |n+1=>qc p n++rowP p n 8
def Xa(xs:List Row)(k:Int):List Time:=if Ib xs=true then qc (jT xs k) 8 else []
def XJ(xs:List Row)(_:Int):Prop:=xs.length<=1000000
def IV:Spec:=⟨[.lst .row,.int .i64],.one .fr (.lst .time),false,λx=>(Xa x.1 x.2.1,0),λx=>XJ x.1 x.2.1⟩
end Go.Proofs.YthfkpijcajdnhaaGreat

namespace Go.Proofs.YthfkpijcajdnhaaGreat
open Go
noncomputable section
set_option maxRecDepth 100000
def tt:TT:=[(2,⟨.scalar,1,[.int .i64 0],some .int,false⟩),
 (3,⟨.scalar,1,[.int .i64 0],some .int,false⟩),
 (4,⟨.scalar,1,[.bool false],some .bool,false⟩),
 (5,⟨.scalar,1,[.int .u8 0],some .byte,false⟩),
 (6,⟨.scalar,1,[.int .u8 0],some .byte,false⟩),
 (7,⟨(.struct [(0,1),(1,1),(2,1),(3,1)]),4,[.int .i64 0,.int .i64 0,.bool false,.int .u8 0],none,false⟩),
 (8,⟨(.struct [(0,1),(1,1),(2,1),(3,1)]),4,[.int .i64 0,.int .i64 0,.bool false,.int .u8 0],none,false⟩),
 (9,⟨.scalar,1,[.str ByteArray.empty],some .str,false⟩),
 (10,⟨.scalar,1,[.str ByteArray.empty],some .str,false⟩),
 (11,⟨.scalar,1,[.str ByteArray.empty],some .str,false⟩),
 (12,⟨.scalar,1,[.int .u64 0],none,false⟩),
 (13,⟨(.struct [(0,1),(1,1)]),2,[.str ByteArray.empty,.int .u64 0],none,false⟩),
 (14,⟨(.struct [(0,1),(1,1)]),2,[.str ByteArray.empty,.int .u64 0],none,false⟩),
 (21,⟨.scalar,1,[.int .i32 0],none,false⟩),
 (22,⟨(.slice 5),1,[.nl .byte],none,false⟩),
 (23,⟨(.slice 25),1,[.nl .plan],none,false⟩),
 (24,⟨(.struct [(0,1),(1,1),(2,1)]),3,[.int .i64 0,.int .i64 0,.nl .plan],some .plan,false⟩),
 (25,⟨(.struct [(0,1),(1,1),(2,1)]),3,[.int .i64 0,.int .i64 0,.nl .plan],some .plan,false⟩),
 (26,⟨(.slice 29),1,[.nl .lrow],none,false⟩),
 (29,⟨(.slice 44),1,[.nl .row],some .lrow,false⟩),
 (37,⟨(.struct [(0,1),(1,1)]),2,[.int .i64 0,.int .i64 0],some .time,true⟩),
 (38,⟨(.struct [(0,1),(1,1)]),2,[.int .i64 0,.int .i64 0],some .time,true⟩),
 (39,⟨(.slice 42),1,[.nl .item],some .litem,false⟩),
 (41,⟨(.struct [(0,1),(1,1),(2,1)]),3,[.int .i64 0,.int .i64 0,.int .i64 0],some .item,true⟩),
 (42,⟨(.struct [(0,1),(1,1),(2,1)]),3,[.int .i64 0,.int .i64 0,.int .i64 0],some .item,true⟩),
 (43,⟨(.struct [(0,1),(1,1),(2,2),(4,1)]),5,[.int .i64 0,.int .i64 0,.int .i64 0,.int .i64 0,.int .i64 0],some .row,true⟩),
 (44,⟨(.struct [(0,1),(1,1),(2,2),(4,1)]),5,[.int .i64 0,.int .i64 0,.int .i64 0,.int .i64 0,.int .i64 0],some .row,true⟩),
 (51,⟨(.slice 38),1,[.nl .time],none,false⟩),
 (57,⟨(.slice 39),1,[.nl .litem],none,false⟩),
 (80,⟨(.struct [(0,1),(1,1)]),2,[.nl .byte,.int .i64 0],none,false⟩),
 (81,⟨(.struct [(0,1),(1,1)]),2,[.nl .byte,.int .i64 0],none,false⟩),
 (91,⟨(.slice 3),1,[.nl .int],none,false⟩),
 (113,⟨.scalar,1,[.int .u64 0],none,false⟩),
 (121,⟨.scalar,1,[.int .u64 0],none,false⟩),
 (129,⟨.scalar,1,[.int .u32 0],none,false⟩),
 (131,⟨.scalar,1,[.int .u64 0],none,false⟩),
 (133,⟨.scalar,1,[.int .i64 0],some .int,false⟩),
 (140,⟨.scalar,1,[.int .u64 0],none,false⟩),
 (155,⟨.scalar,1,[.int .u8 0],some .byte,false⟩),
 (156,⟨.scalar,1,[.int .u8 0],some .byte,false⟩),
 (159,⟨.scalar,1,[.int .i32 0],none,false⟩),
 (160,⟨.scalar,1,[.int .i32 0],none,false⟩),
 (163,⟨(.struct [(0,1),(1,1)]),2,[.str ByteArray.empty,.int .u8 0],none,false⟩),
 (164,⟨(.struct [(0,1),(1,1)]),2,[.str ByteArray.empty,.int .u8 0],none,false⟩)]
abbrev Gd(s:SP):=Good Tryz.prog tt s
def ID:SP:=[]
abbrev F35:Fnn:=⟨[.tmp 2],.rdr,none,[]⟩
abbrev eO:(LB×Int)->RV:=rvF F35
abbrev fO:=@OkF Tryz.prog tt Tryz.f35 F35 ((LB×Int))
def Er(x1:LB):Tr ((LB×Int)) LB Empty Empty Empty:=.c (cmp .gtr (aa .byte x1) 2000) (.w [le3 0 2000 (aa .byte x1)] (.l (.n (List.drop (Int.toNat 0) (List.take (Int.toNat 2000) x1)))))
 (.l (.n x1))
def gO:=λx1=>(Er x1).val
def iO:=λx1=>(Er x1).ob
def Gr:=λx1=>da.mk (gO x1) (iO x1) [0,1] [(0,.S .byte x1)] eO (λq=>[(0,.S .byte q)]) nE nE nE
theorem A2(G:Gd ID){fr x1}:fO fr (Gr x1):=oa G [(1,[0,5]),(2,[0])] (Er x1)
def Hr(a0:LB):Tr ((LB×Int)) Empty Empty Empty Empty:=.s (Gr a0) (λq4=>.l (.r (q4,0))) nE nE nE
def JD:=λa0=>(Hr a0).val
def LD:=λa0=>(Hr a0).ob
def C2:=λa0=>da.mk (JD a0) (LD a0) [] [(0,.S .byte a0)] eO nE nE nE nE
theorem D2(G:Gd ID){fr a0}:fO fr (C2 a0):=ga G [([0,1],λe=>⟨Gr (gL .byte e 0 0)⟩)] ⟨λ_=>⟨rfl,A2 G⟩,trivial⟩ [(0,[0]),(3,[2])] (Hr a0)
def Pg(a0:LB):(LB×Int):=ocR (JD a0)
def fm(a0:LB):Prop:=LD a0
def PD:Spec:=⟨[(.lst .byte)],.rdr,false,λx=>(Pg x.1,0),λx=>fm x.1⟩
theorem G2(G:Gd ID):Con Tryz.prog 35 PD:=Ba (pts:=[(.lst .byte)]) (F:=F35) G λ_ _=>D2 G
def jO:SP:=[]
abbrev F38:Fnn:=⟨[.tmp 4],.one .fr (.int .i64),some 0,[]⟩
abbrev H2:LB->Int×Int->RV:=rvR F38
abbrev I2:=@OkF Tryz.prog tt Tryz.f38 F38 (Int×Int)
def Ir(a0:(LB×Int))(a1:Int):Tr (Int×Int) Empty Empty Empty Empty:=.c (cond (cmp .lss a1 1) true (cmp .eql (aa .byte a0.1) 0)) (.l (.r (0,(ar .add .i64 a0.2 1))))
 (.c (cmp .lss (ar .sub .i64 (ar .add .i64 a0.2 1) 1) (aa .byte a0.1)) (.w [inb (ar .sub .i64 (ar .add .i64 a0.2 1) 1) (aa .byte a0.1),(a1:Int)≠0] (.l (.r ((ar .rem .i64 (IntKind.wrap .i64 (rd .byte a0.1 (ar .sub .i64 (ar .add .i64 a0.2 1) 1))) a1),(ar .add .i64 a0.2 1)))))
 (.w [((aa .byte a0.1):Int)≠0,inb (ar .rem .i64 (ar .sub .i64 (ar .add .i64 a0.2 1) 1) (aa .byte a0.1)) (aa .byte a0.1),((aa .byte a0.1):Int)≠0,inb (ar .rem .i64 (ar .add .i64 (ar .mul .i64 (ar .sub .i64 (ar .add .i64 a0.2 1) 1) 7) 3) (aa .byte a0.1)) (aa .byte a0.1),((aa .byte a0.1):Int)≠0] (.w [(64:Int)≠0] (.w [(a1:Int)≠0] (.l (.r ((ar .rem .i64 (xr .i64 (ar .add .i64 (ar .add .i64 (ar .add .i64 (ar .mul .i64 (IntKind.wrap .i64 (rd .byte a0.1 (ar .rem .i64 (ar .sub .i64 (ar .add .i64 a0.2 1) 1) (aa .byte a0.1)))) 131) (ar .mul .i64 (IntKind.wrap .i64 (rd .byte a0.1 (ar .rem .i64 (ar .add .i64 (ar .mul .i64 (ar .sub .i64 (ar .add .i64 a0.2 1) 1) 7) 3) (aa .byte a0.1)))) 1117)) (ar .mul .i64 (ar .sub .i64 (ar .add .i64 a0.2 1) 1) 29)) (ar .mul .i64 (ar .quo .i64 (ar .sub .i64 (ar .add .i64 a0.2 1) 1) (aa .byte a0.1)) 53)) (ar .quo .i64 (ar .add .i64 (ar .add .i64 (ar .add .i64 (ar .mul .i64 (IntKind.wrap .i64 (rd .byte a0.1 (ar .rem .i64 (ar .sub .i64 (ar .add .i64 a0.2 1) 1) (aa .byte a0.1)))) 131) (ar .mul .i64 (IntKind.wrap .i64 (rd .byte a0.1 (ar .rem .i64 (ar .add .i64 (ar .mul .i64 (ar .sub .i64 (ar .add .i64 a0.2 1) 1) 7) 3) (aa .byte a0.1)))) 1117)) (ar .mul .i64 (ar .sub .i64 (ar .add .i64 a0.2 1) 1) 29)) (ar .mul .i64 (ar .quo .i64 (ar .sub .i64 (ar .add .i64 a0.2 1) 1) (aa .byte a0.1)) 53)) 64)) a1),(ar .add .i64 a0.2 1))))))))
def QD:=λa0 a1=>(Ir a0 a1).val
def SD:=λa0 a1=>(Ir a0 a1).ob
def J2:=λa0 a1=>da.mk (QD a0 a1) (SD a0 a1) [] [(0,.R a0.1 a0.2),(1,.I a1)] (H2 a0.1) nE nE nE nE
theorem L2(G:Gd jO){fr a0 a1}:I2 fr (J2 a0 a1):=oa G [(0,[0,1]),(1,[0,1]),(2,[0,1,24]),(3,[0,4]),(4,[0,1,5]),(5,[0,1,5,36]),(6,[0,4]),(7,[0,1,6]),(8,[0,1,6]),(9,[0,4])] (Ir a0 a1)
def ua(a0:(LB×Int))(a1:Int):Int×Int:=ocR (QD a0 a1)
def Eb(a0:(LB×Int))(a1:Int):Prop:=SD a0 a1
def Ef:Spec:=⟨[.rdr,(.int .i64)],.one .fr (.int .i64),true,λx=>ua x.1 x.2.1,λx=>Eb x.1 x.2.1⟩
theorem R2(G:Gd jO):Con Tryz.prog 38 Ef:=Vf (pts:=[.rdr,(.int .i64)]) (F:=F38) G (λx=>x.1.1) λ_ _=>L2 G
abbrev V61:=(LB×Int)->Int->Plan×Int
abbrev Q61:=(LB×Int)->Int->Prop
def Jr(v:V61)(p:Q61):Spec:=⟨[.rdr,(.int .i64)],.one .fr (.st .plan),true,λx=>v x.1 x.2.1,λx=>p x.1 x.2.1⟩
def kO(r61V:V61)(r61P:Q61):SP:=[(38,Ef),(61,Jr r61V r61P)]
abbrev F61:Fnn:=⟨[.cell 4 25],.one .fr (.st .plan),some 0,[]⟩
abbrev T2:LB->Plan×Int->RV:=rvR F61
abbrev U2:=@OkF Tryz.prog tt Tryz.f61 F61 (Plan×Int)
def gm(r61V:V61)(r61P:Q61)(a0:(LB×Int))(a1:Int):Tr (Plan×Int) Empty Empty Empty Empty:=.k (ua (a0.1,a0.2) 6) λu1=>.w [((!(cmp .lss a1 2))&&true)=true->(Eb (a0.1,a0.2) 6)] (.c (cond (cmp .lss a1 2) true (cmp .eql u1.1 0)) (.k (ua (a0.1,(cond ((!(cmp .lss a1 2))&&true) u1.2 a0.2)) 2) λu3=>.w [(Eb (a0.1,(cond ((!(cmp .lss a1 2))&&true) u1.2 a0.2)) 2)] (.l (.r ((Plan.mk 1 u3.1 []),u3.2))))
 (.k (ua (a0.1,(cond ((!(cmp .lss a1 2))&&true) u1.2 a0.2)) 6) λu4=>.w [(Eb (a0.1,(cond ((!(cmp .lss a1 2))&&true) u1.2 a0.2)) 6)] (.c (cmp .eql u4.1 0) (.k (ua (a0.1,u4.2) 7) λu6=>.k (r61V (a0.1,u6.2) (ar .sub .i64 a1 1)) λu7=>.w [Eb (a0.1,u4.2) 7,r61P (a0.1,u6.2) (ar .sub .i64 a1 1)] (.l (.r ((Plan.mk 2 (ar .add .i64 1 u6.1) [(Plan.mk u7.1.Kind u7.1.Num u7.1.Kids)]),u7.2))))
 (.c (cmp .eql u4.1 1) (.k (r61V (a0.1,u4.2) (ar .sub .i64 a1 1)) λu9=>.k (r61V (a0.1,u9.2) (ar .sub .i64 a1 1)) λu10=>.w [r61P (a0.1,u4.2) (ar .sub .i64 a1 1),r61P (a0.1,u9.2) (ar .sub .i64 a1 1)] (.l (.r ((Plan.mk 3 0 [(Plan.mk u9.1.Kind u9.1.Num u9.1.Kids),(Plan.mk u10.1.Kind u10.1.Num u10.1.Kids)]),u10.2))))
 (.c (cmp .eql u4.1 2) (.k (r61V (a0.1,u4.2) (ar .sub .i64 a1 1)) λu12=>.w [r61P (a0.1,u4.2) (ar .sub .i64 a1 1)] (.l (.r ((Plan.mk 4 0 [(Plan.mk u12.1.Kind u12.1.Num u12.1.Kids)]),u12.2))))
 (.c (cmp .eql u4.1 3) (.k (r61V (a0.1,u4.2) (ar .sub .i64 a1 1)) λu14=>.k (r61V (a0.1,u14.2) (ar .sub .i64 a1 1)) λu15=>.w [r61P (a0.1,u4.2) (ar .sub .i64 a1 1),r61P (a0.1,u14.2) (ar .sub .i64 a1 1)] (.l (.r ((Plan.mk 5 0 [(Plan.mk u14.1.Kind u14.1.Num u14.1.Kids),(Plan.mk u15.1.Kind u15.1.Num u15.1.Kids)]),u15.2))))
 (.k (ua (a0.1,u4.2) 3) λu16=>.k (r61V (a0.1,u16.2) (ar .sub .i64 a1 1)) λu17=>.w [Eb (a0.1,u4.2) 3,r61P (a0.1,u16.2) (ar .sub .i64 a1 1)] (.l (.r ((Plan.mk 6 (ar .add .i64 1 u16.1) [(Plan.mk u17.1.Kind u17.1.Num u17.1.Kids)]),u17.2))))))))))
def im:=λr61V r61P a0 a1=>(gm r61V r61P a0 a1).val
def jm:=λr61V r61P a0 a1=>(gm r61V r61P a0 a1).ob
def V2:=λr61V r61P a0 a1=>da.mk (im r61V r61P a0 a1) (jm r61V r61P a0 a1) [] [(0,.R a0.1 a0.2),(1,.I a1)] (T2 a0.1) nE nE nE nE
theorem X2{r61V:V61}{r61P:Q61}(G:Gd (kO r61V r61P)){fr a0 a1}:U2 fr (V2 r61V r61P a0 a1):=oa G [(0,[0,1,4]),(1,[0,1,4,11]),(2,[0,4]),(3,[0,1,4,16]),(4,[0,1,4,16,17]),(5,[0,4]),(6,[0,1,4,16,28]),(7,[0,4]),(8,[0,1,4,16,40]),(9,[0,4]),(10,[0,1,4,48]),(11,[0,4]),(12,[0,4])] (gm r61V r61P a0 a1)
theorem Y2{r61V:V61}{r61P:Q61}(G:Gd (kO r61V r61P)):Con Tryz.prog 61 (Jr (λa0 a1=>ocR (im r61V r61P a0 a1)) (λa0 a1=>jm r61V r61P a0 a1)):=Vf (pts:=[.rdr,(.int .i64)]) (F:=F61) G (λx=>x.1.1) λ_ _=>X2 G
def md:Nat->V61×Q61
 |0=>(λ_ _=>default,λ_ _=>False)
 |n+1=>(λa0 a1=>ocR (im (md n).1 (md n).2 a0 a1),λa0 a1=>jm (md n).1 (md n).2 a0 a1)
def km:V61:=(md Pc).1
def UD:Q61:=(md Pc).2
def lO:Spec:=Jr km UD
def VD:SP:=[(61,lO),(38,Ef)]
abbrev F36:Fnn:=⟨[.cell 2 25],.one .fr (.st .plan),some 0,[]⟩
abbrev mO:LB->Plan×Int->RV:=rvR F36
abbrev nO:=@OkF Tryz.prog tt Tryz.f36 F36 (Plan×Int)
def Kr(x2:LB)(x3 x4 x5:Int)(x6:LP):Tr (Plan×Int) (Int×Int×Int) Empty Empty Empty:=.k (ua (x2,x3) 24) λu7=>.w [Eb (x2,x3) 24] (.c (cmp .eql u7.1 0) (.k (ua (x2,u7.2) 9) λu9=>.w [Eb (x2,u7.2) 9] (.l (.n (u9.2,(ar .sub .i64 u9.1 1),x5))))
 (.c (cmp .eql u7.1 1) (.l (.n (u7.2,x4,(ar .add .i64 x5 5))))
 (.c (cmp .eql u7.1 2) (.l (.r ((Plan.mk 4 0 [(Plan.mk x4 x5 x6),(Plan.mk x4 x5 x6)]),u7.2)))
 (.c (cmp .eql u7.1 3) (.l (.r ((Plan.mk 4 0 [(Plan.mk 4 0 [(Plan.mk x4 x5 x6)])]),u7.2)))
 (.l (.n (u7.2,x4,x5)))))))
def Lr:=λx2 x3 x4 x5 x6=>(Kr x2 x3 x4 x5 x6).val
def XD:=λx2 x3 x4 x5 x6=>(Kr x2 x3 x4 x5 x6).ob
def Mr:=λx2 x3 x4 x5 x6=>da.mk (Lr x2 x3 x4 x5 x6) (XD x2 x3 x4 x5 x6) [0,1,1] [(0,.R x2 x3),(2,.box [(.fr,.i 0),(.fr,.i 0),(.fr,.nl .plan)]),(3,.box [(.fr,.i x4),(.fr,.i x5),(.fr,.lst .plan x6)])] (mO x2) (λq=>[(0,.R x2 q.1),(2,.box [(.fr,.i 0),(.fr,.i 0),(.fr,.nl .plan)]),(3,.box [(.fr,.i q.2.1),(.fr,.i q.2.2),(.fr,.lst .plan x6)])]) nE nE nE
theorem Z2(G:Gd VD){fr x2 x3 x4 x5 x6}:nO fr (Mr x2 x3 x4 x5 x6):=oa G [(2,[0,2,3,7]),(3,[0,2,3,7,8]),(4,[0,2,3]),(5,[0,2,3,7,14]),(6,[0,2,3]),(7,[0,2,3,7,20]),(8,[0,2]),(9,[0,2,3,26]),(10,[0,2])] (Kr x2 x3 x4 x5 x6)
def Nr(a0:(LB×Int)):Tr (Plan×Int) Empty Empty Empty Empty:=.k (km (a0.1,a0.2) 4) λu1=>.w [UD (a0.1,a0.2) 4] (.s (Mr a0.1 u1.2 u1.1.Kind u1.1.Num u1.1.Kids) (λq16=>.l (.r ((Plan.mk q16.2.1 q16.2.2 u1.1.Kids),q16.1))) nE nE nE)
def YD:=λa0=>(Nr a0).val
def ZD:=λa0=>(Nr a0).ob
def A3:=λa0=>da.mk (YD a0) (ZD a0) [] [(0,.R a0.1 a0.2)] (mO a0.1) nE nE nE nE
theorem C3(G:Gd VD){fr a0}:nO fr (A3 a0):=ga G [([0,1,1],λe=>⟨Mr (gL .byte e 0 0) (gI e 0 1) (gI e 3 0) (gI e 3 1) (gL .plan e 3 2)⟩)] ⟨λ_=>⟨rfl,Z2 G⟩,trivial⟩ [(0,[0,2]),(1,[0,2,3]),(11,[0,2])] (Nr a0)
def Xe(a0:(LB×Int)):Plan×Int:=ocR (YD a0)
def lm(a0:(LB×Int)):Prop:=ZD a0
def aE:Spec:=⟨[.rdr],.one .fr (.st .plan),true,λx=>Xe x.1,λx=>lm x.1⟩
theorem D3(G:Gd VD):Con Tryz.prog 36 aE:=Vf (pts:=[.rdr]) (F:=F36) G (λx=>x.1.1) λ_ _=>C3 G
def oO:SP:=[(38,Ef)]
abbrev F80:Fnn:=⟨[.cell 2 38],.one .fr (.st .time),some 0,[]⟩
abbrev E3:LB->Time×Int->RV:=rvR F80
abbrev G3:=@OkF Tryz.prog tt Tryz.f80 F80 (Time×Int)
def Pr(a0:(LB×Int)):Tr (Time×Int) Empty Empty Empty Empty:=.k (ua (a0.1,a0.2) 10) λu1=>.w [Eb (a0.1,a0.2) 10] (.c (cmp .eql u1.1 0) (.k (ua (a0.1,u1.2) 8) λu3=>.k (ua (a0.1,u3.2) 8) λu4=>.w [Eb (a0.1,u1.2) 8,Eb (a0.1,u3.2) 8] (.l (.r ((Time.mk u3.1 u4.1),u4.2))))
 (.k (ua (a0.1,u1.2) 4) λu5=>.k (ua (a0.1,u5.2) 4) λu6=>.w [Eb (a0.1,u1.2) 4,Eb (a0.1,u5.2) 4] (.l (.r ((Time.mk u5.1 u6.1),u6.2)))))
def bE:=λa0=>(Pr a0).val
def cE:=λa0=>(Pr a0).ob
def H3:=λa0=>da.mk (bE a0) (cE a0) [] [(0,.R a0.1 a0.2)] (E3 a0.1) nE nE nE nE
theorem I3(G:Gd oO){fr a0}:G3 fr (H3 a0):=oa G [(0,[0,2]),(1,[0,2,5]),(2,[0,2]),(3,[0,2])] (Pr a0)
def Qr(a0:(LB×Int)):Time×Int:=ocR (bE a0)
def Rr(a0:(LB×Int)):Prop:=cE a0
def dE:Spec:=⟨[.rdr],.one .fr (.st .time),true,λx=>Qr x.1,λx=>Rr x.1⟩
theorem J3(G:Gd oO):Con Tryz.prog 80 dE:=Vf (pts:=[.rdr]) (F:=F80) G (λx=>x.1.1) λ_ _=>I3 G
def pO:SP:=[(38,Ef),(80,dE)]
abbrev F91:Fnn:=⟨[.cell 2 44],.one .fr (.st .row),some 0,[]⟩
abbrev L3:LB->Row×Int->RV:=rvR F91
abbrev P3:=@OkF Tryz.prog tt Tryz.f91 F91 (Row×Int)
def Ur(a0:(LB×Int)):Tr (Row×Int) Empty Empty Empty Empty:=.k (ua (a0.1,a0.2) 4) λu1=>.k (ua (a0.1,u1.2) 9) λu2=>.k (Qr (a0.1,u2.2)) λu3=>.k (ua (a0.1,u3.2) 8) λu4=>.w [Eb (a0.1,a0.2) 4,Eb (a0.1,u1.2) 9,inb u2.1 (aa .int [0,1,2,3,4,9,10,57,99]),Rr (a0.1,u2.2),Eb (a0.1,u3.2) 8,inb u4.1 (aa .int [1,1,1,2,(-1),(-1),3,0])] (.l (.r ((Row.mk u1.1 (rd .int [0,1,2,3,4,9,10,57,99] u2.1) u3.1 (rd .int [1,1,1,2,(-1),(-1),3,0] u4.1)),u4.2)))
def eE:=λa0=>(Ur a0).val
def fE:=λa0=>(Ur a0).ob
def R3:=λa0=>da.mk (eE a0) (fE a0) [] [(0,.R a0.1 a0.2)] (L3 a0.1) nE nE nE nE
theorem T3(G:Gd pO){fr a0}:P3 fr (R3 a0):=oa G [(0,[0,2]),(1,[0,2])] (Ur a0)
def Ye(a0:(LB×Int)):Row×Int:=ocR (eE a0)
def mm(a0:(LB×Int)):Prop:=fE a0
def Vr:Spec:=⟨[.rdr],.one .fr (.st .row),true,λx=>Ye x.1,λx=>mm x.1⟩
theorem U3(G:Gd pO):Con Tryz.prog 91 Vr:=Vf (pts:=[.rdr]) (F:=F91) G (λx=>x.1.1) λ_ _=>T3 G
def Rh:SP:=[(38,Ef),(91,Vr)]
abbrev F63:Fnn:=⟨[.tmp 4],.one (.acc true) (.lst .row),some 0,[]⟩
abbrev nm:LB->LR×Int->RV:=rvR F63
abbrev Wi:=@OkF Tryz.prog tt Tryz.f63 F63 (LR×Int)
def Wr(x48:LB)(x49:Int)(x50:LR)(_x51:Int)(x52:Row):Tr (LR×Int) (Int×Int×Int×Int) Empty Empty Empty:=.k (ua (x48,x49) 3) λu53=>.w [((cmp .gtr (aa .row x50) 0)&&true)=true->(Eb (x48,x49) 3)] (.c (cond (cmp .gtr (aa .row x50) 0) (cmp .eql u53.1 0) false) (.k (ua (x48,(cond ((cmp .gtr (aa .row x50) 0)&&true) u53.2 x49)) (aa .row x50)) λu55=>.w [(Eb (x48,(cond ((cmp .gtr (aa .row x50) 0)&&true) u53.2 x49)) (aa .row x50)),inb u55.1 (aa .row x50)] (.k (ua (x48,u55.2) 2) λu56=>.w [Eb (x48,u55.2) 2] (.c (cmp .eql u56.1 0) (.l (.n (u56.2,(rd .row x50 u55.1).Key,(rd .row x50 u55.1).Val,(IntKind.wrap .i64 (0 - (rd .row x50 u55.1).Diff)))))
 (.l (.n (u56.2,(rd .row x50 u55.1).Key,(rd .row x50 u55.1).Val,x52.Diff))))))
 (.l (.n ((cond ((cmp .gtr (aa .row x50) 0)&&true) u53.2 x49),x52.Key,x52.Val,x52.Diff))))
def gE:=λx48 x49 x50 x51 x52=>(Wr x48 x49 x50 x51 x52).val
def Xr:=λx48 x49 x50 x51 x52=>(Wr x48 x49 x50 x51 x52).ob
def Yr:=λx48 x49 x50 x51 x52=>da.mk (gE x48 x49 x50 x51 x52) (Xr x48 x49 x50 x51 x52) [0,1,0,0,1,0,0,1,0,1,1] [(0,.R x48 x49),(5,.A .row x50),(6,.I x51),(7,.B [x52.Key,x52.Val,x52.At.A,x52.At.B,x52.Diff])] (nm x48) (λq=>[(0,.R x48 q.1),(5,.A .row x50),(6,.I x51),(7,.B [q.2.1,q.2.2.1,x52.At.A,x52.At.B,q.2.2.2])]) nE nE nE
theorem V3(G:Gd Rh){fr x48 x49 x50 x51 x52}:Wi fr (Yr x48 x49 x50 x51 x52):=oa G [(6,[0,5,6,7,27]),(7,[0,5,6,7,8]),(8,[0,5,6,7,8]),(9,[0,5,6,7,8]),(10,[0,5,6,7,8,43]),(11,[0,5,6,7])] (Wr x48 x49 x50 x51 x52)
def Zr(x43:LB)(x44:Int)(x45:LR)(x46:Int):Tr (LR×Int) (Int×LR) Empty Empty Empty:=.k (Ye (x43,x44)) λu47=>.w [mm (x43,x44)] (.s (Yr x43 u47.2 x45 x46 u47.1) (λq62=>.w [lim (aa .row x45) (aa .row [(Row.mk q62.2.1 q62.2.2.1 u47.1.At q62.2.2.2)])] (.l (.n (q62.1,(x45++[(Row.mk q62.2.1 q62.2.2.1 u47.1.At q62.2.2.2)]))))) nE nE nE)
def qO:=λx43 x44 x45 x46=>(Zr x43 x44 x45 x46).val
def rO:=λx43 x44 x45 x46=>(Zr x43 x44 x45 x46).ob
def om:=λx43 x44 x45 x46=>da.mk (qO x43 x44 x45 x46) (rO x43 x44 x45 x46) [0,1,0,0,1,0,1,1] [(0,.R x43 x44),(5,.A .row x45),(6,.I x46)] (nm x43) (λq=>[(0,.R x43 q.1),(5,.A .row q.2),(6,.I x46)]) nE nE nE
theorem X3(G:Gd Rh){fr x43 x44 x45 x46}:Wi fr (om x43 x44 x45 x46):=ga G [([0,1,0,0,1,0,0,1,0,1,1],λe=>⟨Yr (gL .byte e 0 0) (gI e 0 1) (gL .row e 5 0) (gI e 6 0) (gRow e 7)⟩)] ⟨λ_=>⟨rfl,V3 G⟩,trivial⟩ [(5,[0,5,6,7]),(12,[0,5,6])] (Zr x43 x44 x45 x46)
def pm(x5:LB)(_x6 _x7 s39:Int)(s40:LR)(s41:Int):Tr (LR×Int) (Int×LR×Int) (Int×LR) Empty Empty:=.c (cmp .gtr s41 0) (.s (om x5 s39 s40 s41) (λq68=>.l (.n (q68.1,q68.2,(ar .sub .i64 s41 1)))) nE nE nE)
 (.l (.x (s39,s40)))
def Xi:=λx5 x6 x7 s39 s40 s41=>(pm x5 x6 x7 s39 s40 s41).val
def qm:=λx5 x6 x7 s39 s40 s41=>(pm x5 x6 x7 s39 s40 s41).ob
def iE:=λx5 x6 x7 s39 s40 s41=>Ka (Xi x5 x6 x7 s39 s40 s41) (qm x5 x6 x7 s39 s40 s41) [0,0,1,0,1,1] (λq=>[(0,.R x5 q.1),(5,.A .row q.2.1),(6,.I q.2.2)]) (s39,s40,s41) (nm x5) (λq=>(0,[(0,.R x5 q.1),(5,.A .row q.2)])) nE nE
theorem Y3(G:Gd Rh){fr x5 x6 x7 s39 s40 s41}:Wi fr (iE x5 x6 x7 s39 s40 s41):=ga G [([0,1,0,0,1,0,1,1],λe=>⟨om (gL .byte e 0 0) (gI e 0 1) (gL .row e 5 0) (gI e 6 0)⟩)] ⟨λ_=>⟨rfl,X3 G⟩,trivial⟩ [(3,[0,5,6,15]),(4,[0,5,6])] (pm x5 x6 x7 s39 s40 s41)
def sO:=λx5 x6 x7=>lpV (λs:Int×LR×Int=>ca (Xi x5 x6 x7 s.1 s.2.1 s.2.2)) (x6,[],x7)
def tO:=λx5 x6 x7=>LpT (λs:Int×LR×Int=>ca (Xi x5 x6 x7 s.1 s.2.1 s.2.2)) (λs=>qm x5 x6 x7 s.1 s.2.1 s.2.2) (x6,[],x7)
def es:=λx5 x6 x7=>lpS (iE x5 x6 x7 x6 [] x7) (sO x5 x6 x7) (tO x5 x6 x7)
theorem Z3(G:Gd Rh){fr x5 x6 x7}:Wi fr (es x5 x6 x7):=Na (λs:Int×LR×Int=>iE x5 x6 x7 s.1 s.2.1 s.2.2) (x6,[],x7) λ_=>Y3 G
def js(x1:LB)(x2 x3:Int):Tr (LR×Int) (Int×LR) Empty Empty Empty:=.k (ua (x1,x2) (ar .add .i64 x3 1)) λu4=>.w [Eb (x1,x2) (ar .add .i64 x3 1)] (.s (es x1 u4.2 u4.1) nE (λq82=>.l (.n (q82.1,q82.2))) nE nE)
def uO:=λx1 x2 x3=>(js x1 x2 x3).val
def vO:=λx1 x2 x3=>(js x1 x2 x3).ob
def ns:=λx1 x2 x3=>da.mk (uO x1 x2 x3) (vO x1 x2 x3) [0,1,1] [(0,.R x1 x2),(1,.I x3),(5,.A .row [])] (nm x1) (λq=>[(0,.R x1 q.1),(5,.A .row q.2)]) nE nE nE
theorem j4(G:Gd Rh){fr x1 x2 x3}:Wi fr (ns x1 x2 x3):=ga G [([0,1,0,1,1],λe=>⟨es (gL .byte e 0 0) (gI e 0 1) (gI e 6 0)⟩)] ⟨λ_=>⟨rfl,Z3 G⟩,trivial⟩ [(2,[0,5,6])] (js x1 x2 x3)
def qs(a0:(LB×Int))(a1:Int):Tr (LR×Int) Empty Empty Empty Empty:=.s (ns a0.1 a0.2 a1) (λq86=>.l (.r (q86.2,q86.1))) nE nE nE
def jE:=λa0 a1=>(qs a0 a1).val
def kE:=λa0 a1=>(qs a0 a1).ob
def n4:=λa0 a1=>da.mk (jE a0 a1) (kE a0 a1) [] [(0,.R a0.1 a0.2),(1,.I a1)] (nm a0.1) nE nE nE nE
theorem A4(G:Gd Rh){fr a0 a1}:Wi fr (n4 a0 a1):=ga G [([0,1,1],λe=>⟨ns (gL .byte e 0 0) (gI e 0 1) (gI e 1 0)⟩)] ⟨λ_=>⟨rfl,j4 G⟩,trivial⟩ [(0,[0,1]),(1,[0,1,5]),(13,[0,4])] (qs a0 a1)
def Ff(a0:(LB×Int))(a1:Int):LR×Int:=ocR (jE a0 a1)
def rm(a0:(LB×Int))(a1:Int):Prop:=kE a0 a1
def ws:Spec:=⟨[.rdr,(.int .i64)],.one (.acc true) (.lst .row),true,λx=>Ff x.1 x.2.1,λx=>rm x.1 x.2.1⟩
theorem B4(G:Gd Rh):Con Tryz.prog 63 ws:=Vf (pts:=[.rdr,(.int .i64)]) (F:=F63) G (λx=>x.1.1) λ_ _=>A4 G
def wO:SP:=[]
abbrev F53:Fnn:=⟨[.tmp 6],.one .fr .bool,none,[]⟩
abbrev C4:Bool->RV:=rvF F53
abbrev D4:=@OkF Tryz.prog tt Tryz.f53 F53 Bool
def lE(a0 a1 a2:Int):Tr Bool Empty Empty Empty Empty:=.l (.r (cond (cmp .geq a0 a1) (cmp .leq a0 a2) false))
def xO:=λa0 a1 a2=>(lE a0 a1 a2).val
def yO:=λa0 a1 a2=>(lE a0 a1 a2).ob
def E4:=λa0 a1 a2=>da.mk (xO a0 a1 a2) (yO a0 a1 a2) [] [(0,.I a0),(1,.I a1),(2,.I a2)] C4 nE nE nE nE
theorem G4(G:Gd wO){fr a0 a1 a2}:D4 fr (E4 a0 a1 a2):=oa G [(0,[0,1,2]),(1,[6])] (lE a0 a1 a2)
def Nd(a0:Int)(a1:Int)(a2:Int):Bool:=ocR (xO a0 a1 a2)
def ig(a0:Int)(a1:Int)(a2:Int):Prop:=yO a0 a1 a2
def sm:Spec:=⟨[(.int .i64),(.int .i64),(.int .i64)],.one .fr .bool,false,λx=>(Nd x.1 x.2.1 x.2.2.1,0),λx=>ig x.1 x.2.1 x.2.2.1⟩
theorem H4(G:Gd wO):Con Tryz.prog 53 sm:=Ba (pts:=[(.int .i64),(.int .i64),(.int .i64)]) (F:=F53) G λ_ _=>G4 G
def zO:SP:=[(53,sm)]
abbrev F24:Fnn:=⟨[.tmp 2],.one .fr .bool,none,[]⟩
abbrev I4:Bool->RV:=rvF F24
abbrev J4:=@OkF Tryz.prog tt Tryz.f24 F24 Bool
def mE(a0:Time):Tr Bool Empty Empty Empty Empty:=.k (Nd a0.A 0 7) λu1=>.w [ig a0.A 0 7,(u1&&true)=true->(ig a0.B 0 7)] (.l (.r (cond u1 (Nd a0.B 0 7) false)))
def AO:=λa0=>(mE a0).val
def BO:=λa0=>(mE a0).ob
def L4:=λa0=>da.mk (AO a0) (BO a0) [] [(0,.agg true [.i a0.A,.i a0.B])] I4 nE nE nE nE
theorem P4(G:Gd zO){fr a0}:J4 fr (L4 a0):=oa G [(0,[1]),(1,[2])] (mE a0)
def qe(a0:Time):Bool:=ocR (AO a0)
def Qg(a0:Time):Prop:=BO a0
def Yi:Spec:=⟨[(.st .time)],.one .fr .bool,false,λx=>(qe x.1,0),λx=>Qg x.1⟩
theorem R4(G:Gd zO):Con Tryz.prog 24 Yi:=Ba (pts:=[(.st .time)]) (F:=F24) G λ_ _=>P4 G
def CO:SP:=[(53,sm),(24,Yi)]
abbrev F52:Fnn:=⟨[.tmp 2],.one .fr .bool,none,[]⟩
abbrev T4:Bool->RV:=rvF F52
abbrev U4:=@OkF Tryz.prog tt Tryz.f52 F52 Bool
def oE(a0:Row):Tr Bool Empty Empty Empty Empty:=.k (Nd a0.Key 0 3) λu1=>.k (Nd a0.Val 0 99) λu2=>.k (qe a0.At) λu3=>.w [ig a0.Key 0 3,(u1&&true)=true->(ig a0.Val 0 99),((cond u1 u2 false)&&true)=true->(Qg a0.At),((cond (cond u1 u2 false) u3 false)&&true)=true->(ig a0.Diff (-99999) 99999)] (.l (.r (cond (cond (cond u1 u2 false) u3 false) (Nd a0.Diff (-99999) 99999) false)))
def DO:=λa0=>(oE a0).val
def EO:=λa0=>(oE a0).ob
def V4:=λa0=>da.mk (DO a0) (EO a0) [] [(0,.agg true [.i a0.Key,.i a0.Val,.i a0.At.A,.i a0.At.B,.i a0.Diff])] T4 nE nE nE nE
theorem X4(G:Gd CO){fr a0}:U4 fr (V4 a0):=oa G [(0,[1]),(1,[2])] (oE a0)
def pE(a0:Row):Bool:=ocR (DO a0)
def qE(a0:Row):Prop:=EO a0
def rE:Spec:=⟨[(.st .row)],.one .fr .bool,false,λx=>(pE x.1,0),λx=>qE x.1⟩
theorem Y4(G:Gd CO):Con Tryz.prog 52 rE:=Ba (pts:=[(.st .row)]) (F:=F52) G λ_ _=>X4 G
def um:SP:=[(52,rE)]
abbrev F23:Fnn:=⟨[.tmp 2],.one .fr .bool,none,[]⟩
abbrev sE:Bool->RV:=rvF F23
abbrev As:=@OkF Tryz.prog tt Tryz.f23 F23 Bool
def vm(x3:LR)(s8:Int):Tr Bool Int Unit Empty Empty:=.c (cmp .lss s8 (aa .row x3)) (.w [inb s8 (aa .row x3),qE (rd .row x3 s8)] (.c (!(pE (rd .row x3 s8))) (.l (.r false))
 (.l (.n (ar .add .i64 s8 1)))))
 (.l (.x ()))
def Zi:=λx3 s8=>(vm x3 s8).val
def wm:=λx3 s8=>(vm x3 s8).ob
def tE:=λx3 s8=>Ka (Zi x3 s8) (wm x3 s8) [0,0,1,0,1,1] (λq=>[(0,.S .row x3),(3,.I q)]) s8 sE (λ_=>(0,[])) nE nE
theorem Z4(G:Gd um){fr x3 s8}:As fr (tE x3 s8):=oa G [(4,[0,3,10]),(5,[0,3]),(6,[0,3,18]),(7,[2])] (vm x3 s8)
def FO:=λx3=>lpV (λs:Int=>ca (Zi x3 s)) 0
def GO:=λx3=>LpT (λs:Int=>ca (Zi x3 s)) (λs=>wm x3 s) 0
def Cs:=λx3=>lpS (tE x3 0) (FO x3) (GO x3)
theorem j5(G:Gd um){fr x3}:As fr (Cs x3):=Na (λs:Int=>tE x3 s) 0 λ_=>Z4 G
def Ds(x2:LR):Tr Bool Unit Empty Empty Empty:=.s (Cs x2) nE (λ_=>.l (.n ())) nE nE
def JO:=λx2=>(Ds x2).val
def LO:=λx2=>(Ds x2).ob
def Es:=λx2=>da.mk (JO x2) (LO x2) [0,1,1] [(0,.S .row x2)] sE (λ_=>[]) nE nE nE
theorem l5(G:Gd um){fr x2}:As fr (Es x2):=ga G [([0,1,0,1,1],λe=>⟨Cs (gL .row e 0 0)⟩)] ⟨λ_=>⟨rfl,j5 G⟩,trivial⟩ [(3,[0,3])] (Ds x2)
def Fs(a0:LR):Tr Bool Empty Empty Empty Empty:=.c (cmp .gtr (aa .row a0) 400) (.l (.r false))
 (.s (Es a0) (λ_=>.l (.r true)) nE nE nE)
def uE:=λa0=>(Fs a0).val
def vE:=λa0=>(Fs a0).ob
def n5:=λa0=>da.mk (uE a0) (vE a0) [] [(0,.S .row a0)] sE nE nE nE nE
theorem w5(G:Gd um){fr a0}:As fr (n5 a0):=ga G [([0,1,1],λe=>⟨Es (gL .row e 0 0)⟩)] ⟨λ_=>⟨rfl,l5 G⟩,trivial⟩ [(0,[0]),(1,[0,6]),(2,[2]),(8,[2])] (Fs a0)
def jg(a0:LR):Bool:=ocR (uE a0)
def Rg(a0:LR):Prop:=vE a0
def Th:Spec:=⟨[(.lst .row)],.one .fr .bool,false,λx=>(jg x.1,0),λx=>Rg x.1⟩
theorem A5(G:Gd um):Con Tryz.prog 23 Th:=Ba (pts:=[(.lst .row)]) (F:=F23) G λ_ _=>w5 G
def xm:SP:=[]
abbrev F66:Fnn:=⟨[.tmp 4],.one .fr (.int .i64),none,[]⟩
abbrev xE:Int->RV:=rvF F66
abbrev Gs:=@OkF Tryz.prog tt Tryz.f66 F66 Int
def Uh(x3 x4:LB)(s9:Int):Tr Int Int Unit Empty Empty:=.c (cmp .lss s9 (aa .int x3)) (.w [inb s9 (aa .int x3),inb s9 (aa .int x4)] (.c (cmp .lss (rd .int x3 s9) (rd .int x4 s9)) (.l (.r (-1)))
 (.w [inb s9 (aa .int x3),inb s9 (aa .int x4)] (.c (cmp .gtr (rd .int x3 s9) (rd .int x4 s9)) (.l (.r 1))
 (.l (.n (ar .add .i64 s9 1)))))))
 (.l (.x ()))
def kg:=λx3 x4 s9=>(Uh x3 x4 s9).val
def ym:=λx3 x4 s9=>(Uh x3 x4 s9).ob
def yE:=λx3 x4 s9=>Ka (kg x3 x4 s9) (ym x3 x4 s9) [0,0,1,0,1,1,1] (λq=>[(5,.A .int x3),(6,.A .int x4),(7,.I q)]) s9 xE (λ_=>(0,[])) nE nE
theorem B5(G:Gd xm){fr x3 x4 s9}:Gs fr (yE x3 x4 s9):=oa G [(4,[5,6,7,33]),(5,[5,6,7]),(6,[5,6,7,44]),(7,[4]),(8,[5,6,7,53]),(9,[4])] (Uh x3 x4 s9)
def MO:=λx3 x4=>lpV (λs:Int=>ca (kg x3 x4 s)) 0
def NO:=λx3 x4=>LpT (λs:Int=>ca (kg x3 x4 s)) (λs=>ym x3 x4 s) 0
def Hs:=λx3 x4=>lpS (yE x3 x4 0) (MO x3 x4) (NO x3 x4)
theorem C5(G:Gd xm){fr x3 x4}:Gs fr (Hs x3 x4):=Na (λs:Int=>yE x3 x4 s) 0 λ_=>B5 G
def Is(x1 x2:LB):Tr Int Unit Empty Empty Empty:=.s (Hs x1 x2) nE (λ_=>.l (.n ())) nE nE
def OO:=λx1 x2=>(Is x1 x2).val
def PO:=λx1 x2=>(Is x1 x2).ob
def Js:=λx1 x2=>da.mk (OO x1 x2) (PO x1 x2) [0,1,1,1] [(5,.A .int x1),(6,.A .int x2)] xE (λ_=>[]) nE nE nE
theorem D5(G:Gd xm){fr x1 x2}:Gs fr (Js x1 x2):=ga G [([0,1,0,1,1,1],λe=>⟨Hs (gL .int e 5 0) (gL .int e 6 0)⟩)] ⟨λ_=>⟨rfl,C5 G⟩,trivial⟩ [(3,[5,6,7])] (Is x1 x2)
def Ks(a0 a1:Row):Tr Int Empty Empty Empty Empty:=.s (Js [a0.Key,a0.Val,a0.At.A,a0.At.B] [a1.Key,a1.Val,a1.At.A,a1.At.B]) (λ_=>.l (.r 0)) nE nE nE
def zE:=λa0 a1=>(Ks a0 a1).val
def BE:=λa0 a1=>(Ks a0 a1).ob
def E5:=λa0 a1=>da.mk (zE a0 a1) (BE a0 a1) [] [(0,.agg true [.i a0.Key,.i a0.Val,.i a0.At.A,.i a0.At.B,.i a0.Diff]),(1,.agg true [.i a1.Key,.i a1.Val,.i a1.At.A,.i a1.At.B,.i a1.Diff])] xE nE nE nE nE
theorem G5(G:Gd xm){fr a0 a1}:Gs fr (E5 a0 a1):=ga G [([0,1,1,1],λe=>⟨Js (gL .int e 5 0) (gL .int e 6 0)⟩)] ⟨λ_=>⟨rfl,D5 G⟩,trivial⟩ [(0,[2,3]),(1,[3,5]),(2,[5,6]),(10,[4])] (Ks a0 a1)
def Vh(a0:Row)(a1:Row):Int:=ocR (zE a0 a1)
def zm(a0:Row)(a1:Row):Prop:=BE a0 a1
def Ls:Spec:=⟨[(.st .row),(.st .row)],.one .fr (.int .i64),false,λx=>(Vh x.1 x.2.1,0),λx=>zm x.1 x.2.1⟩
theorem H5(G:Gd xm):Con Tryz.prog 66 Ls:=Ba (pts:=[(.st .row),(.st .row)]) (F:=F66) G λ_ _=>G5 G
def Sg:SP:=[(66,Ls)]
abbrev F94:Fnn:=⟨[.tmp 4],.one (.acc true) (.lst .row),none,[]⟩
abbrev aj:LR->RV:=rvF F94
abbrev Wh:=@OkF Tryz.prog tt Tryz.f94 F94 LR
def Ms(_x46:LR)(x47 x48 x49 x50 x51:Int)(x52:LR)(x53:Bool)(_x54 x55:Int):Tr LR (LR×Bool) Empty Empty Empty:=.c (cond (!x53) (cmp .gtr x55 0) false) (.w [lim (aa .row x52) (aa .row [(Row.mk x47 x48 (Time.mk x49 x50) x51)])] (.l (.n ((x52++[(Row.mk x47 x48 (Time.mk x49 x50) x51)]),true))))
 (.l (.n (x52,x53)))
def QO:=λx46 x47 x48 x49 x50 x51 x52 x53 x54 x55=>(Ms x46 x47 x48 x49 x50 x51 x52 x53 x54 x55).val
def RO:=λx46 x47 x48 x49 x50 x51 x52 x53 x54 x55=>(Ms x46 x47 x48 x49 x50 x51 x52 x53 x54 x55).ob
def Ns:=λx46 x47 x48 x49 x50 x51 x52 x53 x54 x55=>da.mk (QO x46 x47 x48 x49 x50 x51 x52 x53 x54 x55) (RO x46 x47 x48 x49 x50 x51 x52 x53 x54 x55) [0,1,0,0,1,0,0,1,0,1,1,1] [(0,.S .row x46),(3,.B [x47,x48,x49,x50,x51]),(5,.A .row x52),(6,.O x53),(7,.I x54),(8,.I x55)] aj (λq=>[(0,.S .row x46),(3,.B [x47,x48,x49,x50,x51]),(5,.A .row q.1),(6,.O q.2),(7,.I x54),(8,.I x55)]) nE nE nE
theorem I5(G:Gd Sg){fr x46 x47 x48 x49 x50 x51 x52 x53 x54 x55}:Wh fr (Ns x46 x47 x48 x49 x50 x51 x52 x53 x54 x55):=oa G [(7,[0,3,5,6,7,8,27]),(8,[0,3,5,7,8]),(9,[0,3,5,6,7,8])] (Ms x46 x47 x48 x49 x50 x51 x52 x53 x54 x55)
def Ps(x36:LR)(x37 x38 x39 x40 x41:Int)(x42:LR)(x43:Bool)(x44:Int):Tr LR (Int×LR×Bool) Empty Empty Empty:=.k (Vh (rd .row x36 x44) (Row.mk x37 x38 (Time.mk x39 x40) x41)) λu45=>.w [inb x44 (aa .row x36),zm (rd .row x36 x44) (Row.mk x37 x38 (Time.mk x39 x40) x41)] (.s (Ns x36 x37 x38 x39 x40 x41 x42 x43 x44 u45) (λq59=>.c (cond (!q59.2) (cmp .eql u45 0) false) (.w [inb x44 (aa .row x36)] (.w [lim (aa .row q59.1) (aa .row [(Row.mk x37 x38 (Time.mk x39 x40) (ar .add .i64 x41 (rd .row x36 x44).Diff))])] (.l (.n ((ar .add .i64 x41 (rd .row x36 x44).Diff),(q59.1++[(Row.mk x37 x38 (Time.mk x39 x40) (ar .add .i64 x41 (rd .row x36 x44).Diff))]),true)))))
 (.w [inb x44 (aa .row x36),lim (aa .row q59.1) (aa .row [(rd .row x36 x44)])] (.l (.n (x41,(q59.1++[(rd .row x36 x44)]),q59.2))))) nE nE nE)
def SO:=λx36 x37 x38 x39 x40 x41 x42 x43 x44=>(Ps x36 x37 x38 x39 x40 x41 x42 x43 x44).val
def TO:=λx36 x37 x38 x39 x40 x41 x42 x43 x44=>(Ps x36 x37 x38 x39 x40 x41 x42 x43 x44).ob
def Am:=λx36 x37 x38 x39 x40 x41 x42 x43 x44=>da.mk (SO x36 x37 x38 x39 x40 x41 x42 x43 x44) (TO x36 x37 x38 x39 x40 x41 x42 x43 x44) [0,1,0,0,1,0,1,1,1] [(0,.S .row x36),(3,.B [x37,x38,x39,x40,x41]),(5,.A .row x42),(6,.O x43),(7,.I x44)] aj (λq=>[(0,.S .row x36),(3,.B [x37,x38,x39,x40,q.1]),(5,.A .row q.2.1),(6,.O q.2.2),(7,.I x44)]) nE nE nE
theorem L5(G:Gd Sg){fr x36 x37 x38 x39 x40 x41 x42 x43 x44}:Wh fr (Am x36 x37 x38 x39 x40 x41 x42 x43 x44):=ga G [([0,1,0,0,1,0,0,1,0,1,1,1],λe=>⟨Ns (gL .row e 0 0) (gI e 3 0) (gI e 3 1) (gI e 3 2) (gI e 3 3) (gI e 3 4) (gL .row e 5 0) (gB e 6 0) (gI e 7 0) (gI e 8 0)⟩)] ⟨λ_=>⟨rfl,I5 G⟩,trivial⟩ [(6,[0,3,5,6,7,8]),(10,[0,3,5,6,7,37]),(11,[0,3,5,7]),(12,[0,3,5,7]),(13,[0,3,5,6,7]),(14,[0,3,5,6,7])] (Ps x36 x37 x38 x39 x40 x41 x42 x43 x44)
def Bm(x3:LR)(x4:Row)(s31:Int)(s32:LR)(s33:Bool)(s34:Int):Tr LR (Int×LR×Bool×Int) (Int×LR×Bool) Empty Empty:=.c (cmp .lss s34 (aa .row x3)) (.s (Am x3 x4.Key x4.Val x4.At.A x4.At.B s31 s32 s33 s34) (λq67=>.l (.n (q67.1,q67.2.1,q67.2.2,(ar .add .i64 s34 1)))) nE nE nE)
 (.l (.x (s31,s32,s33)))
def Ug:=λx3 x4 s31 s32 s33 s34=>(Bm x3 x4 s31 s32 s33 s34).val
def Xh:=λx3 x4 s31 s32 s33 s34=>(Bm x3 x4 s31 s32 s33 s34).ob
def CE:=λx3 x4 s31 s32 s33 s34=>Ka (Ug x3 x4 s31 s32 s33 s34) (Xh x3 x4 s31 s32 s33 s34) [0,0,1,0,1,1,1] (λq=>[(0,.S .row x3),(3,.B [x4.Key,x4.Val,x4.At.A,x4.At.B,q.1]),(5,.A .row q.2.1),(6,.O q.2.2.1),(7,.I q.2.2.2)]) (s31,s32,s33,s34) aj (λq=>(0,[(3,.B [x4.Key,x4.Val,x4.At.A,x4.At.B,q.1]),(5,.A .row q.2.1),(6,.O q.2.2)])) nE nE
theorem O5(G:Gd Sg){fr x3 x4 s31 s32 s33 s34}:Wh fr (CE x3 x4 s31 s32 s33 s34):=ga G [([0,1,0,0,1,0,1,1,1],λe=>⟨Am (gL .row e 0 0) (gI e 3 0) (gI e 3 1) (gI e 3 2) (gI e 3 3) (gI e 3 4) (gL .row e 5 0) (gB e 6 0) (gI e 7 0)⟩)] ⟨λ_=>⟨rfl,L5 G⟩,trivial⟩ [(4,[0,3,5,6,7,13]),(5,[0,3,5,6,7])] (Bm x3 x4 s31 s32 s33 s34)
def UO:=λx3 x4=>lpV (λs:Int×LR×Bool×Int=>ca (Ug x3 x4 s.1 s.2.1 s.2.2.1 s.2.2.2)) (x4.Diff,[],false,0)
def VO:=λx3 x4=>LpT (λs:Int×LR×Bool×Int=>ca (Ug x3 x4 s.1 s.2.1 s.2.2.1 s.2.2.2)) (λs=>Xh x3 x4 s.1 s.2.1 s.2.2.1 s.2.2.2) (x4.Diff,[],false,0)
def Qs:=λx3 x4=>lpS (CE x3 x4 x4.Diff [] false 0) (UO x3 x4) (VO x3 x4)
theorem P5(G:Gd Sg){fr x3 x4}:Wh fr (Qs x3 x4):=Na (λs:Int×LR×Bool×Int=>CE x3 x4 s.1 s.2.1 s.2.2.1 s.2.2.2) (x4.Diff,[],false,0) λ_=>O5 G
def Rs(x1:LR)(x2:Row):Tr LR (Int×LR×Bool) Empty Empty Empty:=.s (Qs x1 x2) nE (λq84=>.l (.n (q84.1,q84.2.1,q84.2.2))) nE nE
def WO:=λx1 x2=>(Rs x1 x2).val
def XO:=λx1 x2=>(Rs x1 x2).ob
def Ss:=λx1 x2=>da.mk (WO x1 x2) (XO x1 x2) [0,1,1,1] [(0,.S .row x1),(3,.B [x2.Key,x2.Val,x2.At.A,x2.At.B,x2.Diff]),(5,.A .row []),(6,.O false)] aj (λq=>[(3,.B [x2.Key,x2.Val,x2.At.A,x2.At.B,q.1]),(5,.A .row q.2.1),(6,.O q.2.2)]) nE nE nE
theorem R5(G:Gd Sg){fr x1 x2}:Wh fr (Ss x1 x2):=ga G [([0,1,0,1,1,1],λe=>⟨Qs (gL .row e 0 0) (gRow e 3)⟩)] ⟨λ_=>⟨rfl,P5 G⟩,trivial⟩ [(3,[0,3,5,6,7])] (Rs x1 x2)
def Cm(x91 x92 x93 x94 x95:Int)(x96:LR)(x97:Bool):Tr LR LR Empty Empty Empty:=.c (!x97) (.w [lim (aa .row x96) (aa .row [(Row.mk x91 x92 (Time.mk x93 x94) x95)])] (.l (.n (x96++[(Row.mk x91 x92 (Time.mk x93 x94) x95)]))))
 (.l (.n x96))
def DE:=λx91 x92 x93 x94 x95 x96 x97=>(Cm x91 x92 x93 x94 x95 x96 x97).val
def EE:=λx91 x92 x93 x94 x95 x96 x97=>(Cm x91 x92 x93 x94 x95 x96 x97).ob
def Ts:=λx91 x92 x93 x94 x95 x96 x97=>da.mk (DE x91 x92 x93 x94 x95 x96 x97) (EE x91 x92 x93 x94 x95 x96 x97) [0,1,1,1,1] [(3,.B [x91,x92,x93,x94,x95]),(5,.A .row x96),(6,.O x97)] aj (λq=>[(5,.A .row q)]) nE nE nE
theorem T5(G:Gd Sg){fr x91 x92 x93 x94 x95 x96 x97}:Wh fr (Ts x91 x92 x93 x94 x95 x96 x97):=oa G [(15,[3,5,59]),(16,[5])] (Cm x91 x92 x93 x94 x95 x96 x97)
def Us(a0:LR)(a1:Row):Tr LR Empty Empty Empty Empty:=.s (Ss a0 a1) (λq89=>.s (Ts a1.Key a1.Val a1.At.A a1.At.B q89.1 q89.2.1 q89.2.2) (λq100=>.l (.r q100)) nE nE nE) nE nE nE
def FE:=λa0 a1=>(Us a0 a1).val
def GE:=λa0 a1=>(Us a0 a1).ob
def U5:=λa0 a1=>da.mk (FE a0 a1) (GE a0 a1) [] [(0,.S .row a0),(1,.agg true [.i a1.Key,.i a1.Val,.i a1.At.A,.i a1.At.B,.i a1.Diff])] aj nE nE nE nE
theorem X5(G:Gd Sg){fr a0 a1}:Wh fr (U5 a0 a1):=ga G [([0,1,1,1],λe=>⟨Ss (gL .row e 0 0) (gRow e 3)⟩),([0,1,1,1,1],λe=>⟨Ts (gI e 3 0) (gI e 3 1) (gI e 3 2) (gI e 3 3) (gI e 3 4) (gL .row e 5 0) (gB e 6 0)⟩)] ⟨λ_=>⟨rfl,R5 G⟩,λ_=>⟨rfl,T5 G⟩,trivial⟩ [(0,[0,3]),(1,[0,3,5]),(2,[0,3,5,6]),(17,[4])] (Us a0 a1)
def Vs(a0:LR)(a1:Row):LR:=ocR (FE a0 a1)
def Ws(a0:LR)(a1:Row):Prop:=GE a0 a1
def IE:Spec:=⟨[(.lst .row),(.st .row)],.one (.acc true) (.lst .row),false,λx=>(Vs x.1 x.2.1,0),λx=>Ws x.1 x.2.1⟩
theorem Y5(G:Gd Sg):Con Tryz.prog 94 IE:=Ba (pts:=[(.lst .row),(.st .row)]) (F:=F94) G λ_ _=>X5 G
def lg:SP:=[(94,IE)]
abbrev F68:Fnn:=⟨[.tmp 2],.one (.acc true) (.lst .row),none,[]⟩
abbrev bj:LR->RV:=rvF F68
abbrev Vg:=@OkF Tryz.prog tt Tryz.f68 F68 LR
def Dm(x2 s7:LR)(s8:Int):Tr LR (LR×Int) LR Empty Empty:=.c (cmp .lss s8 (aa .row x2)) (.w [inb s8 (aa .row x2),Ws s7 (rd .row x2 s8)] (.l (.n ((Vs s7 (rd .row x2 s8)),(ar .add .i64 s8 1)))))
 (.l (.x s7))
def cj:=λx2 s7 s8=>(Dm x2 s7 s8).val
def Em:=λx2 s7 s8=>(Dm x2 s7 s8).ob
def JE:=λx2 s7 s8=>Ka (cj x2 s7 s8) (Em x2 s7 s8) [0,0,1,0,1,1] (λq=>[(0,.S .row x2),(3,.A .row q.1),(4,.I q.2)]) (s7,s8) bj (λq=>(0,[(3,.A .row q)])) nE nE
theorem Z5(G:Gd lg){fr x2 s7 s8}:Vg fr (JE x2 s7 s8):=oa G [(3,[0,3,4,11]),(4,[0,3,4]),(5,[0,3,4])] (Dm x2 s7 s8)
def YO:=λx2=>lpV (λs:LR×Int=>ca (cj x2 s.1 s.2)) ([],0)
def ZO:=λx2=>LpT (λs:LR×Int=>ca (cj x2 s.1 s.2)) (λs=>Em x2 s.1 s.2) ([],0)
def Xs:=λx2=>lpS (JE x2 [] 0) (YO x2) (ZO x2)
theorem d6(G:Gd lg){fr x2}:Vg fr (Xs x2):=Na (λs:LR×Int=>JE x2 s.1 s.2) ([],0) λ_=>Z5 G
def Ys(x1:LR):Tr LR LR Empty Empty Empty:=.s (Xs x1) nE (λq18=>.l (.n q18)) nE nE
def aP:=λx1=>(Ys x1).val
def bP:=λx1=>(Ys x1).ob
def Zs:=λx1=>da.mk (aP x1) (bP x1) [0,1,1] [(0,.S .row x1),(3,.A .row [])] bj (λq=>[(3,.A .row q)]) nE nE nE
theorem i6(G:Gd lg){fr x1}:Vg fr (Zs x1):=ga G [([0,1,0,1,1],λe=>⟨Xs (gL .row e 0 0)⟩)] ⟨λ_=>⟨rfl,d6 G⟩,trivial⟩ [(2,[0,3,4])] (Ys x1)
def bt(x38 x39:LR)(x40:Int):Tr LR LR Empty Empty Empty:=.w [inb x40 (aa .row x38)] (.c (cmp .neq (rd .row x38 x40).Diff 0) (.w [inb x40 (aa .row x38),lim (aa .row x39) (aa .row [(rd .row x38 x40)])] (.l (.n (x39++[(rd .row x38 x40)]))))
 (.l (.n x39)))
def cP:=λx38 x39 x40=>(bt x38 x39 x40).val
def dP:=λx38 x39 x40=>(bt x38 x39 x40).ob
def Fm:=λx38 x39 x40=>da.mk (cP x38 x39 x40) (dP x38 x39 x40) [0,1,0,0,1,0,1,1,1,1] [(3,.A .row x38),(5,.A .row x39),(6,.I x40)] bj (λq=>[(3,.A .row x38),(5,.A .row q),(6,.I x40)]) nE nE nE
theorem j6(G:Gd lg){fr x38 x39 x40}:Vg fr (Fm x38 x39 x40):=oa G [(10,[3,5,6,32]),(11,[3,5,6])] (bt x38 x39 x40)
def Gm(x24 s35:LR)(s36:Int):Tr LR (LR×Int) LR Empty Empty:=.c (cmp .lss s36 (aa .row x24)) (.s (Fm x24 s35 s36) (λq43=>.l (.n (q43,(ar .add .i64 s36 1)))) nE nE nE)
 (.l (.x s35))
def ej:=λx24 s35 s36=>(Gm x24 s35 s36).val
def Hm:=λx24 s35 s36=>(Gm x24 s35 s36).ob
def LE:=λx24 s35 s36=>Ka (ej x24 s35 s36) (Hm x24 s35 s36) [0,0,1,0,1,1,1,1] (λq=>[(3,.A .row x24),(5,.A .row q.1),(6,.I q.2)]) (s35,s36) bj (λq=>(2,[(5,.A .row q)])) nE nE
theorem l6(G:Gd lg){fr x24 s35 s36}:Vg fr (LE x24 s35 s36):=ga G [([0,1,0,0,1,0,1,1,1,1],λe=>⟨Fm (gL .row e 3 0) (gL .row e 5 0) (gI e 6 0)⟩)] ⟨λ_=>⟨rfl,j6 G⟩,trivial⟩ [(8,[3,5,6,24]),(9,[3,5,6])] (Gm x24 s35 s36)
def eP:=λx24=>lpV (λs:LR×Int=>ca (ej x24 s.1 s.2)) ([],0)
def fP:=λx24=>LpT (λs:LR×Int=>ca (ej x24 s.1 s.2)) (λs=>Hm x24 s.1 s.2) ([],0)
def ct:=λx24=>lpS (LE x24 [] 0) (eP x24) (fP x24)
theorem t6(G:Gd lg){fr x24}:Vg fr (ct x24):=Na (λs:LR×Int=>LE x24 s.1 s.2) ([],0) λ_=>l6 G
def et(x23:LR):Tr LR LR Empty Empty Empty:=.s (ct x23) nE (λq54=>.l (.n q54)) nE nE
def gP:=λx23=>(et x23).val
def iP:=λx23=>(et x23).ob
def ft:=λx23=>da.mk (gP x23) (iP x23) [0,1,1,1,1] [(3,.A .row x23),(5,.A .row [])] bj (λq=>[(5,.A .row q)]) nE nE nE
theorem v6(G:Gd lg){fr x23}:Vg fr (ft x23):=ga G [([0,1,0,1,1,1,1],λe=>⟨ct (gL .row e 3 0)⟩)] ⟨λ_=>⟨rfl,t6 G⟩,trivial⟩ [(7,[3,5,6])] (et x23)
def jt(a0:LR):Tr LR Empty Empty Empty Empty:=.s (Zs a0) (λq21=>.s (ft q21) (λq57=>.l (.r q57)) nE nE nE) nE nE nE
def ME:=λa0=>(jt a0).val
def PE:=λa0=>(jt a0).ob
def w6:=λa0=>da.mk (ME a0) (PE a0) [] [(0,.S .row a0)] bj nE nE nE nE
theorem z6(G:Gd lg){fr a0}:Vg fr (w6 a0):=ga G [([0,1,1],λe=>⟨Zs (gL .row e 0 0)⟩),([0,1,1,1,1],λe=>⟨ft (gL .row e 3 0)⟩)] ⟨λ_=>⟨rfl,i6 G⟩,λ_=>⟨rfl,v6 G⟩,trivial⟩ [(0,[0]),(1,[0,3]),(6,[3,5]),(12,[2])] (jt a0)
def Ee(a0:LR):LR:=ocR (ME a0)
def Gf(a0:LR):Prop:=PE a0
def mg:Spec:=⟨[(.lst .row)],.one (.acc true) (.lst .row),false,λx=>(Ee x.1,0),λx=>Gf x.1⟩
theorem A6(G:Gd lg):Con Tryz.prog 68 mg:=Ba (pts:=[(.lst .row)]) (F:=F68) G λ_ _=>z6 G
def Im:SP:=[(23,Th),(66,Ls)]
abbrev F41:Fnn:=⟨[.tmp 2],.one .fr .bool,none,[]⟩
abbrev QE:Bool->RV:=rvF F41
abbrev kt:=@OkF Tryz.prog tt Tryz.f41 F41 Bool
def fj(x4:LR)(s9:Int):Tr Bool Int Unit Empty Empty:=.c (cmp .lss s9 (aa .row x4)) (.w [inb s9 (aa .row x4),((cmp .gtr s9 0)&&((!(cmp .eql (rd .row x4 s9).Diff 0))&&true))=true->inb (ar .sub .i64 s9 1) (aa .row x4),((cmp .gtr s9 0)&&((!(cmp .eql (rd .row x4 s9).Diff 0))&&true))=true->inb s9 (aa .row x4),((cmp .gtr s9 0)&&((!(cmp .eql (rd .row x4 s9).Diff 0))&&true))=true->(zm (rd .row x4 (ar .sub .i64 s9 1)) (rd .row x4 s9))] (.c (cond (cmp .eql (rd .row x4 s9).Diff 0) true (cond (cmp .gtr s9 0) (cmp .geq (Vh (rd .row x4 (ar .sub .i64 s9 1)) (rd .row x4 s9)) 0) false)) (.l (.r false))
 (.l (.n (ar .add .i64 s9 1)))))
 (.l (.x ()))
def Yh:=λx4 s9=>(fj x4 s9).val
def gj:=λx4 s9=>(fj x4 s9).ob
def RE:=λx4 s9=>Ka (Yh x4 s9) (gj x4 s9) [0,0,1,0,1,1] (λq=>[(0,.S .row x4),(3,.I q)]) s9 QE (λ_=>(0,[])) nE nE
theorem B6(G:Gd Im){fr x4 s9}:kt fr (RE x4 s9):=oa G [(4,[0,3,10]),(5,[0,3]),(6,[0,3,35]),(7,[2])] (fj x4 s9)
def jP:=λx4=>lpV (λs:Int=>ca (Yh x4 s)) 0
def kP:=λx4=>LpT (λs:Int=>ca (Yh x4 s)) (λs=>gj x4 s) 0
def mt:=λx4=>lpS (RE x4 0) (jP x4) (kP x4)
theorem C6(G:Gd Im){fr x4}:kt fr (mt x4):=Na (λs:Int=>RE x4 s) 0 λ_=>B6 G
def nt(x3:LR):Tr Bool Unit Empty Empty Empty:=.s (mt x3) nE (λ_=>.l (.n ())) nE nE
def lP:=λx3=>(nt x3).val
def mP:=λx3=>(nt x3).ob
def qt:=λx3=>da.mk (lP x3) (mP x3) [0,1,1] [(0,.S .row x3)] QE (λ_=>[]) nE nE nE
theorem D6(G:Gd Im){fr x3}:kt fr (qt x3):=ga G [([0,1,0,1,1],λe=>⟨mt (gL .row e 0 0)⟩)] ⟨λ_=>⟨rfl,C6 G⟩,trivial⟩ [(3,[0,3])] (nt x3)
def ut(a0:LR):Tr Bool Empty Empty Empty Empty:=.w [Rg a0] (.c (!(jg a0)) (.l (.r false))
 (.s (qt a0) (λ_=>.l (.r true)) nE nE nE))
def SE:=λa0=>(ut a0).val
def UE:=λa0=>(ut a0).ob
def E6:=λa0=>da.mk (SE a0) (UE a0) [] [(0,.S .row a0)] QE nE nE nE nE
theorem G6(G:Gd Im){fr a0}:kt fr (E6 a0):=ga G [([0,1,1],λe=>⟨qt (gL .row e 0 0)⟩)] ⟨λ_=>⟨rfl,D6 G⟩,trivial⟩ [(0,[0]),(1,[0,6]),(2,[2]),(8,[2])] (ut a0)
def ij(a0:LR):Bool:=ocR (SE a0)
def jj(a0:LR):Prop:=UE a0
def Jm:Spec:=⟨[(.lst .row)],.one .fr .bool,false,λx=>(ij x.1,0),λx=>jj x.1⟩
theorem H6(G:Gd Im):Con Tryz.prog 41 Jm:=Ba (pts:=[(.lst .row)]) (F:=F41) G λ_ _=>G6 G
def nP:SP:=[(41,Jm)]
abbrev F90:Fnn:=⟨[.tmp 2],.one .sh (.lst .row),none,[]⟩
abbrev I6:LR->RV:=rvF F90
abbrev J6:=@OkF Tryz.prog tt Tryz.f90 F90 LR
def lj(a0:LR):Tr LR Empty Empty Empty Empty:=.w [jj a0] (.c (!(ij a0)) (.l (.r []))
 (.l (.r a0)))
def vt:=λa0=>(lj a0).val
def wt:=λa0=>(lj a0).ob
def L6:=λa0=>da.mk (vt a0) (wt a0) [] [(0,.S .row a0)] I6 nE nE nE nE
theorem O6(G:Gd nP){fr a0}:J6 fr (L6 a0):=oa G [(0,[0]),(1,[0,5]),(2,[2]),(3,[2])] (lj a0)
def Zh(a0:LR):LR:=ocR (vt a0)
def ai(a0:LR):Prop:=wt a0
def xt:Spec:=⟨[(.lst .row)],.one .sh (.lst .row),false,λx=>(Zh x.1,0),λx=>ai x.1⟩
theorem P6(G:Gd nP):Con Tryz.prog 90 xt:=Ba (pts:=[(.lst .row)]) (F:=F90) G λ_ _=>O6 G
def oP:SP:=[(23,Th),(68,mg),(90,xt)]
abbrev F62:Fnn:=⟨[.tmp 2],.one .sh (.lst .row),none,[]⟩
abbrev Q6:LR->RV:=rvF F62
abbrev R6:=@OkF Tryz.prog tt Tryz.f62 F62 LR
def zt(a0:LR):Tr LR Empty Empty Empty Empty:=.w [Rg a0] (.c (!(jg a0)) (.l (.r []))
 (.w [Gf a0,ai (Ee a0)] (.l (.r (Zh (Ee a0))))))
def VE:=λa0=>(zt a0).val
def WE:=λa0=>(zt a0).ob
def T6:=λa0=>da.mk (VE a0) (WE a0) [] [(0,.S .row a0)] Q6 nE nE nE nE
theorem U6(G:Gd oP){fr a0}:R6 fr (T6 a0):=oa G [(0,[0]),(1,[0,5]),(2,[2]),(3,[2])] (zt a0)
def Bt(a0:LR):LR:=ocR (VE a0)
def Ct(a0:LR):Prop:=WE a0
def XE:Spec:=⟨[(.lst .row)],.one .sh (.lst .row),false,λx=>(Bt x.1,0),λx=>Ct x.1⟩
theorem V6(G:Gd oP):Con Tryz.prog 62 XE:=Ba (pts:=[(.lst .row)]) (F:=F62) G λ_ _=>U6 G
def pP:SP:=[(63,ws),(62,XE)]
abbrev F37:Fnn:=⟨[.tmp 4],.one .sh (.lst .row),some 0,[]⟩
abbrev X6:LB->LR×Int->RV:=rvR F37
abbrev Y6:=@OkF Tryz.prog tt Tryz.f37 F37 (LR×Int)
def Dt(a0:(LB×Int))(a1:Int):Tr (LR×Int) Empty Empty Empty Empty:=.k (Ff (a0.1,a0.2) a1) λu1=>.w [rm (a0.1,a0.2) a1,Ct u1.1] (.l (.r ((Bt u1.1),u1.2)))
def YE:=λa0 a1=>(Dt a0 a1).val
def ZE:=λa0 a1=>(Dt a0 a1).ob
def Z6:=λa0 a1=>da.mk (YE a0 a1) (ZE a0 a1) [] [(0,.R a0.1 a0.2),(1,.I a1)] (X6 a0.1) nE nE nE nE
theorem c7(G:Gd pP){fr a0 a1}:Y6 fr (Z6 a0 a1):=oa G [(0,[0,1]),(1,[0,4])] (Dt a0 a1)
def Ic(a0:(LB×Int))(a1:Int):LR×Int:=ocR (YE a0 a1)
def bi(a0:(LB×Int))(a1:Int):Prop:=ZE a0 a1
def aF:Spec:=⟨[.rdr,(.int .i64)],.one .sh (.lst .row),true,λx=>Ic x.1 x.2.1,λx=>bi x.1 x.2.1⟩
theorem d7(G:Gd pP):Con Tryz.prog 37 aF:=Vf (pts:=[.rdr,(.int .i64)]) (F:=F37) G (λx=>x.1.1) λ_ _=>c7 G
def Et:SP:=[(91,Vr),(38,Ef)]
abbrev F64:Fnn:=⟨[.tmp 4],.one (.acc false) (.lst .row),some 0,[]⟩
abbrev bF:LB->LR×Int->RV:=rvR F64
abbrev cF:=@OkF Tryz.prog tt Tryz.f64 F64 (LR×Int)
def Ft(x2:LB)(x3:Int)(_x4:LR)(x5:Row):Tr (LR×Int) (Int×Int×Int×Int×Int×Int) Empty Empty Empty:=.k (ua (x2,x3) 5) λu6=>.w [Eb (x2,x3) 5] (.c (cmp .eql u6.1 0) (.k (ua (x2,u6.2) 2) λu8=>.w [Eb (x2,u6.2) 2,inb u8.1 (aa .int [(-1),4])] (.l (.n (u8.2,(rd .int [(-1),4] u8.1),x5.Val,x5.At.A,x5.At.B,x5.Diff))))
 (.c (cmp .eql u6.1 1) (.k (ua (x2,u6.2) 2) λu10=>.w [Eb (x2,u6.2) 2,inb u10.1 (aa .int [(-1),100])] (.l (.n (u10.2,x5.Key,(rd .int [(-1),100] u10.1),x5.At.A,x5.At.B,x5.Diff))))
 (.c (cmp .eql u6.1 2) (.l (.n (u6.2,x5.Key,x5.Val,(-1),0,x5.Diff)))
 (.c (cmp .eql u6.1 3) (.k (ua (x2,u6.2) 2) λu13=>.w [Eb (x2,u6.2) 2,inb u13.1 (aa .int [(-100000),100000])] (.l (.n (u13.2,x5.Key,x5.Val,x5.At.A,x5.At.B,(rd .int [(-100000),100000] u13.1)))))
 (.l (.n (u6.2,x5.Key,x5.Val,x5.At.A,8,x5.Diff)))))))
def dF:=λx2 x3 x4 x5=>(Ft x2 x3 x4 x5).val
def eF:=λx2 x3 x4 x5=>(Ft x2 x3 x4 x5).ob
def Gt:=λx2 x3 x4 x5=>da.mk (dF x2 x3 x4 x5) (eF x2 x3 x4 x5) [0,1,1] [(0,.R x2 x3),(1,.S .row x4),(5,.B [x5.Key,x5.Val,x5.At.A,x5.At.B,x5.Diff])] (bF x2) (λq=>[(0,.R x2 q.1),(1,.S .row x4),(5,.B [q.2.1,q.2.2.1,q.2.2.2.1,q.2.2.2.2.1,q.2.2.2.2.2])]) nE nE nE
theorem g7(G:Gd Et){fr x2 x3 x4 x5}:cF fr (Gt x2 x3 x4 x5):=oa G [(2,[0,1,5,9]),(3,[0,1,5]),(4,[0,1,5,9,12]),(5,[0,1,5]),(6,[0,1,5,9,20]),(7,[0,1,5]),(8,[0,1,5,9,28]),(9,[0,1,5]),(10,[0,1,5,32]),(11,[0,1,5])] (Ft x2 x3 x4 x5)
def It(_x22:LB)(_x23:Int)(x24:LR)(x25 x26 x27 x28 x29:Int):Tr (LR×Int) LR Empty Empty Empty:=.w [lim (aa .row []) (aa .row x24),lim (aa .row ([]++x24)) (aa .row [(Row.mk x25 x26 (Time.mk x27 x28) x29)])] (.l (.n (([]++x24)++[(Row.mk x25 x26 (Time.mk x27 x28) x29)])))
def qP:=λx22 x23 x24 x25 x26 x27 x28 x29=>(It x22 x23 x24 x25 x26 x27 x28 x29).val
def rP:=λx22 x23 x24 x25 x26 x27 x28 x29=>(It x22 x23 x24 x25 x26 x27 x28 x29).ob
def Jt:=λx22 x23 x24 x25 x26 x27 x28 x29=>da.mk (qP x22 x23 x24 x25 x26 x27 x28 x29) (rP x22 x23 x24 x25 x26 x27 x28 x29) [0,1,1,1] [(0,.R x22 x23),(1,.S .row x24),(5,.B [x25,x26,x27,x28,x29])] (bF x22) (λq=>[(0,.R x22 x23),(4,.v (.acc false) (.lst .row q))]) nE nE nE
theorem i7(G:Gd Et){fr x22 x23 x24 x25 x26 x27 x28 x29}:cF fr (Jt x22 x23 x24 x25 x26 x27 x28 x29):=any_ok G [0,4] 20 (It x22 x23 x24 x25 x26 x27 x28 x29) rfl rfl rfl (by kernel_rfl) (by kernel_rfl) (by kernel_rfl)
def Kt(a0:(LB×Int))(a1:LR):Tr (LR×Int) Empty Empty Empty Empty:=.k (Ye (a0.1,a0.2)) λu1=>.w [mm (a0.1,a0.2)] (.s (Gt a0.1 u1.2 a1 u1.1) (λq20=>.s (Jt a0.1 q20.1 a1 q20.2.1 q20.2.2.1 q20.2.2.2.1 q20.2.2.2.2.1 q20.2.2.2.2.2) (λq31=>.l (.r (q31,q20.1))) nE nE nE) nE nE nE)
def fF:=λa0 a1=>(Kt a0 a1).val
def gF:=λa0 a1=>(Kt a0 a1).ob
def j7:=λa0 a1=>da.mk (fF a0 a1) (gF a0 a1) [] [(0,.R a0.1 a0.2),(1,.S .row a1)] (bF a0.1) nE nE nE nE
theorem l7(G:Gd Et){fr a0 a1}:cF fr (j7 a0 a1):=ga G [([0,1,1],λe=>⟨Gt (gL .byte e 0 0) (gI e 0 1) (gL .row e 1 0) (gRow e 5)⟩),([0,1,1,1],λe=>⟨Jt (gL .byte e 0 0) (gI e 0 1) (gL .row e 1 0) (gI e 5 0) (gI e 5 1) (gI e 5 2) (gI e 5 3) (gI e 5 4)⟩)] ⟨λ_=>⟨rfl,g7 G⟩,λ_=>⟨rfl,i7 G⟩,trivial⟩ [(0,[0,1]),(1,[0,1,5])] (Kt a0 a1)
def mj(a0:(LB×Int))(a1:LR):LR×Int:=ocR (fF a0 a1)
def Lt(a0:(LB×Int))(a1:LR):Prop:=gF a0 a1
def iF:Spec:=⟨[.rdr,(.lst .row)],.one (.acc false) (.lst .row),true,λx=>mj x.1 x.2.1,λx=>Lt x.1 x.2.1⟩
theorem m7(G:Gd Et):Con Tryz.prog 64 iF:=Vf (pts:=[.rdr,(.lst .row)]) (F:=F64) G (λx=>x.1.1) λ_ _=>l7 G
def sP:SP:=[(63,ws),(38,Ef),(64,iF)]
abbrev F39:Fnn:=⟨[.tmp 2],.one (.acc false) (.lst .row),some 0,[]⟩
abbrev t7:LB->LR×Int->RV:=rvR F39
abbrev v7:=@OkF Tryz.prog tt Tryz.f39 F39 (LR×Int)
def Mt(a0:(LB×Int)):Tr (LR×Int) Empty Empty Empty Empty:=.k (Ff (a0.1,a0.2) 10) λu1=>.w [rm (a0.1,a0.2) 10] (.k (ua (a0.1,u1.2) 14) λu2=>.w [Eb (a0.1,u1.2) 14] (.c (cmp .eql u2.1 0) (.k (mj (a0.1,u2.2) u1.1) λu4=>.w [Lt (a0.1,u2.2) u1.1] (.l (.r (u4.1,u4.2))))
 (.l (.r (u1.1,u2.2)))))
def jF:=λa0=>(Mt a0).val
def kF:=λa0=>(Mt a0).ob
def z7:=λa0=>da.mk (jF a0) (kF a0) [] [(0,.R a0.1 a0.2)] (t7 a0.1) nE nE nE nE
theorem A7(G:Gd sP){fr a0}:v7 fr (z7 a0):=oa G [(0,[0]),(1,[0,3]),(2,[0,3,8]),(3,[0,2]),(4,[0,2])] (Mt a0)
def Dd(a0:(LB×Int)):LR×Int:=ocR (jF a0)
def ci(a0:(LB×Int)):Prop:=kF a0
def lF:Spec:=⟨[.rdr],.one (.acc false) (.lst .row),true,λx=>Dd x.1,λx=>ci x.1⟩
theorem B7(G:Gd sP):Con Tryz.prog 39 lF:=Vf (pts:=[.rdr]) (F:=F39) G (λx=>x.1.1) λ_ _=>A7 G
def mF:SP:=[(35,PD),(36,aE),(37,aF),(38,Ef),(39,lF)]
def Wg(a0:LB):Plan×List LR×Unit:=let r:=Pg a0;let p:=Xe (r.1,r.2);let a:=Ic (r.1,p.2) 5;let b:=Ic (r.1,a.2) 5;let c:=ua (r.1,b.2) 30;let i:=cond (cmp .eql c.1 0) [b.1] [a.1,b.1];let d:=ua (r.1,c.2) 30;let y:=Dd (r.1,d.2)
 (p.1,cond (cmp .eql d.1 0) (y.1::i.tail) i,())
def nj(a0:LB):Prop:=let r:=Pg a0;let p:=Xe (r.1,r.2);let a:=Ic (r.1,p.2) 5;let b:=Ic (r.1,a.2) 5;let c:=ua (r.1,b.2) 30;let d:=ua (r.1,c.2) 30
 fm a0/\lm (r.1,r.2)/\bi (r.1,p.2) 5/\bi (r.1,a.2) 5/\Eb (r.1,b.2) 30/\Eb (r.1,c.2) 30/\(cmp .eql d.1 0=true->ci (r.1,d.2))
def Nt:Spec:=⟨[.lst .byte],.tup [(false,.st .plan),(false,.lst .lrow)],false,λx=>(Wg x.1,0),λx=>nj x.1⟩
def Ot:SP:=[]
abbrev F92:Fnn:=⟨[.tmp 2,.tmp 3,.tmp 4],.tup [(true,(.int .i64)),(true,(.int .i64)),(true,(.int .i64))],none,[]⟩
abbrev nF:Int×Int×Int×Unit->RV:=rvF F92
abbrev oF:=@OkF Tryz.prog tt Tryz.f92 F92 (Int×Int×Int×Unit)
def Pt(x4:Int):Tr (Int×Int×Int×Unit) Bool Empty Empty Empty:=.c (cmp .eql x4 3) (.l (.n (cmp .eql x4 3)))
 (.l (.n (cmp .eql x4 5)))
def tP:=λx4=>(Pt x4).val
def uP:=λx4=>(Pt x4).ob
def Qt:=λx4=>da.mk (tP x4) (uP x4) [0,1,1,1,1,0,1,0,1] [(5,.I x4)] nF (λq=>[(5,.I x4),(10,.O q)]) nE nE nE
theorem G7(G:Gd Ot){fr x4}:oF fr (Qt x4):=oa G [(6,[5,10]),(7,[5,10])] (Pt x4)
def Rt(x1:Int):Tr (Int×Int×Int×Unit) Unit Empty Empty Empty:=.c (cmp .eql x1 1) (.l (.r (0,(0,(1,())))))
 (.c (cmp .eql x1 2) (.l (.r (1,(1,(7,())))))
 (.s (Qt x1) (λq7=>.c q7 (.l (.r (2,(0,(0,())))))
 (.c (cmp .eql x1 4) (.l (.r (1,(0,(0,())))))
 (.c (cmp .eql x1 6) (.l (.r (1,(1,(3,())))))
 (.l (.n ()))))) nE nE nE))
def vP:=λx1=>(Rt x1).val
def wP:=λx1=>(Rt x1).ob
def St:=λx1=>da.mk (vP x1) (wP x1) [0,1] [(0,.I x1)] nF (λ_=>[]) nE nE nE
theorem H7(G:Gd Ot){fr x1}:oF fr (St x1):=ga G [([0,1,1,1,1,0,1,0,1],λe=>⟨Qt (gI e 5 0)⟩)] ⟨λ_=>⟨rfl,G7 G⟩,trivial⟩ [(1,[5]),(2,[5,6]),(3,[2,3,4]),(4,[5,8]),(5,[2,3,4]),(8,[2,3,4]),(9,[5,13]),(10,[2,3,4]),(11,[15]),(12,[2,3,4])] (Rt x1)
def Tt(a0:Int):Tr (Int×Int×Int×Unit) Empty Empty Empty Empty:=.s (St a0) (λ_=>.l (.r ((-1),(0,(0,()))))) nE nE nE
def pF:=λa0=>(Tt a0).val
def qF:=λa0=>(Tt a0).ob
def I7:=λa0=>da.mk (pF a0) (qF a0) [] [(0,.I a0)] nF nE nE nE nE
theorem J7(G:Gd Ot){fr a0}:oF fr (I7 a0):=ga G [([0,1],λe=>⟨St (gI e 0 0)⟩)] ⟨λ_=>⟨rfl,H7 G⟩,trivial⟩ [(0,[0]),(13,[2,3,4])] (Tt a0)
def di(a0:Int):Int×Int×Int×Unit:=ocR (pF a0)
def Ut(a0:Int):Prop:=qF a0
def rF:Spec:=⟨[(.int .i64)],.tup [(true,(.int .i64)),(true,(.int .i64)),(true,(.int .i64))],false,λx=>(di x.1,0),λx=>Ut x.1⟩
theorem L7(G:Gd Ot):Con Tryz.prog 92 rF:=Ba (pts:=[(.int .i64)]) (F:=F92) G λ_ _=>J7 G
abbrev V65:=Plan->Int->Bool
abbrev Q65:=Plan->Int->Prop
def Vt(v:V65)(p:Q65):Spec:=⟨[(.st .plan),(.int .i64)],.one .fr .bool,false,λx=>(v x.1 x.2.1,0),λx=>p x.1 x.2.1⟩
def Km(r65V:V65)(r65P:Q65):SP:=[(92,rF),(53,sm),(65,Vt r65V r65P)]
abbrev F65:Fnn:=⟨[.tmp 4],.one .fr .bool,none,[]⟩
abbrev sF:Bool->RV:=rvF F65
abbrev Wt:=@OkF Tryz.prog tt Tryz.f65 F65 Bool
def Lm(r65V:V65)(r65P:Q65)(x8 _x9 _x10:Int)(x11:LP)(s16:Int):Tr Bool Int Unit Empty Empty:=.c (cmp .lss s16 (aa .plan x11)) (.w [inb s16 (aa .plan x11),r65P (Plan.mk (rd .plan x11 s16).Kind (rd .plan x11 s16).Num (rd .plan x11 s16).Kids) (ar .sub .i64 x8 1)] (.c (!(r65V (Plan.mk (rd .plan x11 s16).Kind (rd .plan x11 s16).Num (rd .plan x11 s16).Kids) (ar .sub .i64 x8 1))) (.l (.r false))
 (.l (.n (ar .add .i64 s16 1)))))
 (.l (.x ()))
def pj:=λr65V r65P x8 x9 x10 x11 s16=>(Lm r65V r65P x8 x9 x10 x11 s16).val
def Mm:=λr65V r65P x8 x9 x10 x11 s16=>(Lm r65V r65P x8 x9 x10 x11 s16).ob
def tF:=λr65V r65P x8 x9 x10 x11 s16=>Ka (pj r65V r65P x8 x9 x10 x11 s16) (Mm r65V r65P x8 x9 x10 x11 s16) [0,0,1,0,1,1,1] (λq=>[(1,.I x8),(2,.box [(.fr,.i x9),(.fr,.i x10),(.sh,.lst .plan x11)]),(8,.I q)]) s16 sF (λ_=>(0,[])) nE nE
theorem O7{r65V:V65}{r65P:Q65}(G:Gd (Km r65V r65P)){fr x8 x9 x10 x11 s16}:Wt fr (tF r65V r65P x8 x9 x10 x11 s16):=oa G [(5,[1,2,8,37]),(6,[1,2,8]),(7,[1,2,8,48]),(8,[4])] (Lm r65V r65P x8 x9 x10 x11 s16)
def xP:=λr65V r65P x8 x9 x10 x11=>lpV (λs:Int=>ca (pj r65V r65P x8 x9 x10 x11 s)) 0
def yP:=λr65V r65P x8 x9 x10 x11=>LpT (λs:Int=>ca (pj r65V r65P x8 x9 x10 x11 s)) (λs=>Mm r65V r65P x8 x9 x10 x11 s) 0
def Xt:=λr65V r65P x8 x9 x10 x11=>lpS (tF r65V r65P x8 x9 x10 x11 0) (xP r65V r65P x8 x9 x10 x11) (yP r65V r65P x8 x9 x10 x11)
theorem P7{r65V:V65}{r65P:Q65}(G:Gd (Km r65V r65P)){fr x8 x9 x10 x11}:Wt fr (Xt r65V r65P x8 x9 x10 x11):=Na (λs:Int=>tF r65V r65P x8 x9 x10 x11 s) 0 λ_=>O7 G
def Yt(r65V:V65)(r65P:Q65)(x4 x5 x6:Int)(x7:LP):Tr Bool Unit Empty Empty Empty:=.s (Xt r65V r65P x4 x5 x6 x7) nE (λ_=>.l (.n ())) nE nE
def zP:=λr65V r65P x4 x5 x6 x7=>(Yt r65V r65P x4 x5 x6 x7).val
def AP:=λr65V r65P x4 x5 x6 x7=>(Yt r65V r65P x4 x5 x6 x7).ob
def Zt:=λr65V r65P x4 x5 x6 x7=>da.mk (zP r65V r65P x4 x5 x6 x7) (AP r65V r65P x4 x5 x6 x7) [0,1,1,1] [(1,.I x4),(2,.box [(.fr,.i x5),(.fr,.i x6),(.sh,.lst .plan x7)])] sF (λ_=>[]) nE nE nE
theorem Q7{r65V:V65}{r65P:Q65}(G:Gd (Km r65V r65P)){fr x4 x5 x6 x7}:Wt fr (Zt r65V r65P x4 x5 x6 x7):=ga G [([0,1,0,1,1,1],λe=>⟨Xt r65V r65P (gI e 1 0) (gI e 2 0) (gI e 2 1) (gL .plan e 2 2)⟩)] ⟨λ_=>⟨rfl,P7 G⟩,trivial⟩ [(4,[1,2,8])] (Yt r65V r65P x4 x5 x6 x7)
def qj(r65V:V65)(r65P:Q65)(a0:Plan)(a1:Int):Tr Bool Empty Empty Empty Empty:=.k (di a0.Kind) λu1=>.w [Ut a0.Kind] (.w [((!(cond (cmp .lss a1 1) true (cmp .neq (aa .plan a0.Kids) u1.1)))&&true)=true->(ig a0.Num u1.2.1 u1.2.2.1)] (.c (cond (cond (cmp .lss a1 1) true (cmp .neq (aa .plan a0.Kids) u1.1)) true (!(Nd a0.Num u1.2.1 u1.2.2.1))) (.l (.r false))
 (.s (Zt r65V r65P a1 a0.Kind a0.Num a0.Kids) (λ_=>.l (.r true)) nE nE nE)))
def rj:=λr65V r65P a0 a1=>(qj r65V r65P a0 a1).val
def sj:=λr65V r65P a0 a1=>(qj r65V r65P a0 a1).ob
def R7:=λr65V r65P a0 a1=>da.mk (rj r65V r65P a0 a1) (sj r65V r65P a0 a1) [] [(0,.agg false [.i a0.Kind,.i a0.Num,.lst .plan a0.Kids]),(1,.I a1)] sF nE nE nE nE
theorem T7{r65V:V65}{r65P:Q65}(G:Gd (Km r65V r65P)){fr a0 a1}:Wt fr (R7 r65V r65P a0 a1):=ga G [([0,1,1,1],λe=>⟨Zt r65V r65P (gI e 1 0) (gI e 2 0) (gI e 2 1) (gL .plan e 2 2)⟩)] ⟨λ_=>⟨rfl,Q7 G⟩,trivial⟩ [(0,[1,2]),(1,[1,2,5,6,7]),(2,[1,2,32]),(3,[4]),(9,[4])] (qj r65V r65P a0 a1)
theorem U7{r65V:V65}{r65P:Q65}(G:Gd (Km r65V r65P)):Con Tryz.prog 65 (Vt (λa0 a1=>ocR (rj r65V r65P a0 a1)) (λa0 a1=>sj r65V r65P a0 a1)):=Ba (pts:=[(.st .plan),(.int .i64)]) (F:=F65) G λ_ _=>T7 G
def Jc:Nat->V65×Q65
 |0=>(λ_ _=>default,λ_ _=>False)
 |n+1=>(λa0 a1=>ocR (rj (Jc n).1 (Jc n).2 a0 a1),λa0 a1=>sj (Jc n).1 (Jc n).2 a0 a1)
def BP:V65:=(Jc Pc).1
def CP:Q65:=(Jc Pc).2
def FP:Spec:=Vt BP CP
def GP:SP:=[(65,FP)]
abbrev F40:Fnn:=⟨[.tmp 2],.one .fr .bool,none,[]⟩
abbrev V7:Bool->RV:=rvF F40
abbrev X7:=@OkF Tryz.prog tt Tryz.f40 F40 Bool
def au(a0:Plan):Tr Bool Empty Empty Empty Empty:=.w [CP (Plan.mk a0.Kind a0.Num a0.Kids) 4] (.l (.r (BP (Plan.mk a0.Kind a0.Num a0.Kids) 4)))
def uF:=λa0=>(au a0).val
def vF:=λa0=>(au a0).ob
def Y7:=λa0=>da.mk (uF a0) (vF a0) [] [(0,.agg false [.i a0.Kind,.i a0.Num,.lst .plan a0.Kids])] V7 nE nE nE nE
theorem Z7(G:Gd GP){fr a0}:X7 fr (Y7 a0):=oa G [(0,[1]),(1,[2])] (au a0)
def eu(a0:Plan):Bool:=ocR (uF a0)
def fu(a0:Plan):Prop:=vF a0
def wF:Spec:=⟨[(.st .plan)],.one .fr .bool,false,λx=>(eu x.1,0),λx=>fu x.1⟩
theorem c8(G:Gd GP):Con Tryz.prog 40 wF:=Ba (pts:=[(.st .plan)]) (F:=F40) G λ_ _=>Z7 G
def HP:SP:=[]
abbrev F93:Fnn:=⟨[.tmp 6,.tmp 7,.tmp 8],.tup [(true,(.int .i64)),(true,(.int .i64)),(true,.bool)],none,[]⟩
abbrev d8:Int×Int×Bool×Unit->RV:=rvF F93
abbrev g8:=@OkF Tryz.prog tt Tryz.f93 F93 (Int×Int×Bool×Unit)
def gu(a0 a1 a2:Int):Tr (Int×Int×Bool×Unit) Empty Empty Empty Empty:=.c (cmp .eql a2 1) (.w [(4:Int)≠0,(4:Int)≠0] (.l (.r ((ar .rem .i64 a1 4),((ar .add .i64 (ar .mul .i64 (ar .quo .i64 a1 4) 4) a0),(true,()))))))
 (.c (cmp .eql a2 2) (.w [(100:Int)≠0] (.l (.r (a0,((ar .rem .i64 (ar .add .i64 a1 1) 100),(true,()))))))
 (.c (cmp .eql a2 3) (.w [(4:Int)≠0] (.l (.r ((ar .rem .i64 a1 4),(a1,(true,()))))))
 (.c (cmp .eql a2 4) (.l (.r (0,(a1,(true,())))))
 (.c (cmp .eql a2 5) (.w [(2:Int)≠0] (.l (.r (a0,(a1,((cmp .eql (ar .rem .i64 a1 2) 0),()))))))
 (.c (cmp .eql a2 6) (.w [(2:Int)≠0] (.l (.r (a0,(a1,((cmp .eql (ar .rem .i64 a0 2) 0),()))))))
 (.l (.r (a0,(a1,((cmp .lss a1 10),()))))))))))
def xF:=λa0 a1 a2=>(gu a0 a1 a2).val
def yF:=λa0 a1 a2=>(gu a0 a1 a2).ob
def j8:=λa0 a1 a2=>da.mk (xF a0 a1 a2) (yF a0 a1 a2) [] [(0,.I a0),(1,.I a1),(2,.I a2)] d8 nE nE nE nE
theorem l8(G:Gd HP){fr a0 a1 a2}:g8 fr (j8 a0 a1 a2):=oa G [(0,[0,1,2]),(1,[0,1,9]),(2,[0,1,9,10]),(3,[6,7,8]),(4,[0,1,9,19]),(5,[6,7,8]),(6,[0,1,9,25]),(7,[6,7,8]),(8,[0,1,9,30]),(9,[6,7,8]),(10,[0,1,9,33]),(11,[6,7,8]),(12,[0,1,40]),(13,[6,7,8]),(14,[6,7,8])] (gu a0 a1 a2)
def iu(a0:Int)(a1:Int)(a2:Int):Int×Int×Bool×Unit:=ocR (xF a0 a1 a2)
def ku(a0:Int)(a1:Int)(a2:Int):Prop:=yF a0 a1 a2
def zF:Spec:=⟨[(.int .i64),(.int .i64),(.int .i64)],.tup [(true,(.int .i64)),(true,(.int .i64)),(true,.bool)],false,λx=>(iu x.1 x.2.1 x.2.2.1,0),λx=>ku x.1 x.2.1 x.2.2.1⟩
theorem m8(G:Gd HP):Con Tryz.prog 93 zF:=Ba (pts:=[(.int .i64),(.int .i64),(.int .i64)]) (F:=F93) G λ_ _=>l8 G
def tj:SP:=[(93,zF),(68,mg)]
abbrev F67:Fnn:=⟨[.tmp 4],.one (.acc true) (.lst .row),none,[]⟩
abbrev lu:LR->RV:=rvF F67
abbrev Nm:=@OkF Tryz.prog tt Tryz.f67 F67 LR
def nu(x20:LR)(x21:Int)(x22:LR)(x23:Int):Tr LR LR Empty Empty Empty:=.k (iu (rd .row x20 x23).Key (rd .row x20 x23).Val x21) λu24=>.w [inb x23 (aa .row x20),inb x23 (aa .row x20),ku (rd .row x20 x23).Key (rd .row x20 x23).Val x21] (.c u24.2.2.1 (.w [inb x23 (aa .row x20),inb x23 (aa .row x20),lim (aa .row x22) (aa .row [(Row.mk u24.1 u24.2.1 (rd .row x20 x23).At (rd .row x20 x23).Diff)])] (.l (.n (x22++[(Row.mk u24.1 u24.2.1 (rd .row x20 x23).At (rd .row x20 x23).Diff)]))))
 (.l (.n x22)))
def IP:=λx20 x21 x22 x23=>(nu x20 x21 x22 x23).val
def JP:=λx20 x21 x22 x23=>(nu x20 x21 x22 x23).ob
def pu:=λx20 x21 x22 x23=>da.mk (IP x20 x21 x22 x23) (JP x20 x21 x22 x23) [0,1,0,0,1,0,1,1] [(0,.S .row x20),(1,.I x21),(5,.A .row x22),(6,.I x23)] lu (λq=>[(0,.S .row x20),(1,.I x21),(5,.A .row q),(6,.I x23)]) nE nE nE
theorem n8(G:Gd tj){fr x20 x21 x22 x23}:Nm fr (pu x20 x21 x22 x23):=oa G [(5,[0,1,5,6,7,8,9]),(6,[0,1,5,6,7,8,33]),(7,[0,1,5,6])] (nu x20 x21 x22 x23)
def Om(x3:LR)(x4:Int)(s17:LR)(s18:Int):Tr LR (LR×Int) LR Empty Empty:=.c (cmp .lss s18 (aa .row x3)) (.s (pu x3 x4 s17 s18) (λq27=>.l (.n (q27,(ar .add .i64 s18 1)))) nE nE nE)
 (.l (.x s17))
def uj:=λx3 x4 s17 s18=>(Om x3 x4 s17 s18).val
def Pm:=λx3 x4 s17 s18=>(Om x3 x4 s17 s18).ob
def AF:=λx3 x4 s17 s18=>Ka (uj x3 x4 s17 s18) (Pm x3 x4 s17 s18) [0,0,1,0,1,1] (λq=>[(0,.S .row x3),(1,.I x4),(5,.A .row q.1),(6,.I q.2)]) (s17,s18) lu (λq=>(0,[(5,.A .row q)])) nE nE
theorem t8(G:Gd tj){fr x3 x4 s17 s18}:Nm fr (AF x3 x4 s17 s18):=ga G [([0,1,0,0,1,0,1,1],λe=>⟨pu (gL .row e 0 0) (gI e 1 0) (gL .row e 5 0) (gI e 6 0)⟩)] ⟨λ_=>⟨rfl,n8 G⟩,trivial⟩ [(3,[0,1,5,6,14]),(4,[0,1,5,6])] (Om x3 x4 s17 s18)
def OP:=λx3 x4=>lpV (λs:LR×Int=>ca (uj x3 x4 s.1 s.2)) ([],0)
def PP:=λx3 x4=>LpT (λs:LR×Int=>ca (uj x3 x4 s.1 s.2)) (λs=>Pm x3 x4 s.1 s.2) ([],0)
def qu:=λx3 x4=>lpS (AF x3 x4 [] 0) (OP x3 x4) (PP x3 x4)
theorem v8(G:Gd tj){fr x3 x4}:Nm fr (qu x3 x4):=Na (λs:LR×Int=>AF x3 x4 s.1 s.2) ([],0) λ_=>t8 G
def ru(x1:LR)(x2:Int):Tr LR LR Empty Empty Empty:=.s (qu x1 x2) nE (λq38=>.l (.n q38)) nE nE
def QP:=λx1 x2=>(ru x1 x2).val
def TP:=λx1 x2=>(ru x1 x2).ob
def su:=λx1 x2=>da.mk (QP x1 x2) (TP x1 x2) [0,1,1] [(0,.S .row x1),(1,.I x2),(5,.A .row [])] lu (λq=>[(5,.A .row q)]) nE nE nE
theorem z8(G:Gd tj){fr x1 x2}:Nm fr (su x1 x2):=ga G [([0,1,0,1,1],λe=>⟨qu (gL .row e 0 0) (gI e 1 0)⟩)] ⟨λ_=>⟨rfl,v8 G⟩,trivial⟩ [(2,[0,1,5,6])] (ru x1 x2)
def tu(a0:LR)(a1:Int):Tr LR Empty Empty Empty Empty:=.s (su a0 a1) (λq41=>.w [Gf q41] (.l (.r (Ee q41)))) nE nE nE
def BF:=λa0 a1=>(tu a0 a1).val
def CF:=λa0 a1=>(tu a0 a1).ob
def A8:=λa0 a1=>da.mk (BF a0 a1) (CF a0 a1) [] [(0,.S .row a0),(1,.I a1)] lu nE nE nE nE
theorem B8(G:Gd tj){fr a0 a1}:Nm fr (A8 a0 a1):=ga G [([0,1,1],λe=>⟨su (gL .row e 0 0) (gI e 1 0)⟩)] ⟨λ_=>⟨rfl,z8 G⟩,trivial⟩ [(0,[0,1]),(1,[0,1,5]),(8,[4])] (tu a0 a1)
def uu(a0:LR)(a1:Int):LR:=ocR (BF a0 a1)
def vu(a0:LR)(a1:Int):Prop:=CF a0 a1
def DF:Spec:=⟨[(.lst .row),(.int .i64)],.one (.acc true) (.lst .row),false,λx=>(uu x.1 x.2.1,0),λx=>vu x.1 x.2.1⟩
theorem D8(G:Gd tj):Con Tryz.prog 67 DF:=Ba (pts:=[(.lst .row),(.int .i64)]) (F:=F67) G λ_ _=>B8 G
def Qm:SP:=[(23,Th),(68,mg),(90,xt)]
abbrev F69:Fnn:=⟨[.tmp 2],.one .sh (.lst .row),none,[]⟩
abbrev EF:LR->RV:=rvF F69
abbrev wu:=@OkF Tryz.prog tt Tryz.f69 F69 LR
def Rm(x2 s7:LR)(s8:Int):Tr LR (LR×Int) LR Empty Empty:=.w [((cmp .lss s8 (aa .row x2))&&true)=true->(Rg x2)] (.c (cond (cmp .lss s8 (aa .row x2)) (jg x2) false) (.w [inb s8 (aa .row x2)] (.w [lim (aa .row s7) (aa .row [(Row.mk (rd .row x2 s8).Key (rd .row x2 s8).Val (rd .row x2 s8).At (IntKind.wrap .i64 (0 - (rd .row x2 s8).Diff)))])] (.l (.n ((s7++[(Row.mk (rd .row x2 s8).Key (rd .row x2 s8).Val (rd .row x2 s8).At (IntKind.wrap .i64 (0 - (rd .row x2 s8).Diff)))]),(ar .add .i64 s8 1))))))
 (.l (.x s7)))
def wj:=λx2 s7 s8=>(Rm x2 s7 s8).val
def Sm:=λx2 s7 s8=>(Rm x2 s7 s8).ob
def FF:=λx2 s7 s8=>Ka (wj x2 s7 s8) (Sm x2 s7 s8) [0,0,1,0,1,1] (λq=>[(0,.S .row x2),(3,.A .row q.1),(4,.I q.2)]) (s7,s8) EF (λq=>(0,[(3,.A .row q)])) nE nE
theorem E8(G:Gd Qm){fr x2 s7 s8}:wu fr (FF x2 s7 s8):=oa G [(3,[0,3,4,14]),(4,[0,3,4]),(5,[0,3,4,5]),(6,[0,3,4,5]),(7,[0,3,4])] (Rm x2 s7 s8)
def UP:=λx2=>lpV (λs:LR×Int=>ca (wj x2 s.1 s.2)) ([],0)
def VP:=λx2=>LpT (λs:LR×Int=>ca (wj x2 s.1 s.2)) (λs=>Sm x2 s.1 s.2) ([],0)
def xu:=λx2=>lpS (FF x2 [] 0) (UP x2) (VP x2)
theorem G8(G:Gd Qm){fr x2}:wu fr (xu x2):=Na (λs:LR×Int=>FF x2 s.1 s.2) ([],0) λ_=>E8 G
def yu(x1:LR):Tr LR LR Empty Empty Empty:=.s (xu x1) nE (λq18=>.l (.n q18)) nE nE
def WP:=λx1=>(yu x1).val
def aQ:=λx1=>(yu x1).ob
def zu:=λx1=>da.mk (WP x1) (aQ x1) [0,1,1] [(0,.S .row x1),(3,.A .row [])] EF (λq=>[(3,.A .row q)]) nE nE nE
theorem H8(G:Gd Qm){fr x1}:wu fr (zu x1):=ga G [([0,1,0,1,1],λe=>⟨xu (gL .row e 0 0)⟩)] ⟨λ_=>⟨rfl,G8 G⟩,trivial⟩ [(2,[0,3,4])] (yu x1)
def Au(a0:LR):Tr LR Empty Empty Empty Empty:=.s (zu a0) (λq21=>.w [Gf q21,ai (Ee q21)] (.l (.r (Zh (Ee q21))))) nE nE nE
def GF:=λa0=>(Au a0).val
def HF:=λa0=>(Au a0).ob
def I8:=λa0=>da.mk (GF a0) (HF a0) [] [(0,.S .row a0)] EF nE nE nE nE
theorem J8(G:Gd Qm){fr a0}:wu fr (I8 a0):=ga G [([0,1,1],λe=>⟨zu (gL .row e 0 0)⟩)] ⟨λ_=>⟨rfl,H8 G⟩,trivial⟩ [(0,[0]),(1,[0,3]),(8,[2])] (Au a0)
def Bu(a0:LR):LR:=ocR (GF a0)
def Cu(a0:LR):Prop:=HF a0
def IF:Spec:=⟨[(.lst .row)],.one .sh (.lst .row),false,λx=>(Bu x.1,0),λx=>Cu x.1⟩
theorem L8(G:Gd Qm):Con Tryz.prog 69 IF:=Ba (pts:=[(.lst .row)]) (F:=F69) G λ_ _=>J8 G
def bQ:SP:=[]
abbrev F95:Fnn:=⟨[.tmp 4],.one .fr (.int .i64),none,[]⟩
abbrev M8:Int->RV:=rvF F95
abbrev O8:=@OkF Tryz.prog tt Tryz.f95 F95 Int
def JF(a0 a1:Int):Tr Int Empty Empty Empty Empty:=.w [(100:Int)≠0] (.l (.r (ar .rem .i64 (ar .add .i64 (ar .mul .i64 a0 10) a1) 100)))
def cQ:=λa0 a1=>(JF a0 a1).val
def dQ:=λa0 a1=>(JF a0 a1).ob
def P8:=λa0 a1=>da.mk (cQ a0 a1) (dQ a0 a1) [] [(0,.I a0),(1,.I a1)] M8 nE nE nE nE
theorem Q8(G:Gd bQ){fr a0 a1}:O8 fr (P8 a0 a1):=oa G [(0,[0,1]),(1,[4])] (JF a0 a1)
def LF(a0:Int)(a1:Int):Int:=ocR (cQ a0 a1)
def MF(a0:Int)(a1:Int):Prop:=dQ a0 a1
def QF:Spec:=⟨[(.int .i64),(.int .i64)],.one .fr (.int .i64),false,λx=>(LF x.1 x.2.1,0),λx=>MF x.1 x.2.1⟩
theorem R8(G:Gd bQ):Con Tryz.prog 95 QF:=Ba (pts:=[(.int .i64),(.int .i64)]) (F:=F95) G λ_ _=>Q8 G
def eQ:SP:=[(24,Yi)]
abbrev F96:Fnn:=⟨[.cell 4 38],.one .fr (.st .time),none,[]⟩
abbrev S8:Time->RV:=rvF F96
abbrev U8:=@OkF Tryz.prog tt Tryz.f96 F96 Time
def Du(a0 a1:Time):Tr Time Empty Empty Empty Empty:=.w [Qg a0,((!(!(qe a0)))&&true)=true->(Qg a1)] (.c (cond (!(qe a0)) true (!(qe a1))) (.l (.r (Time.mk 0 0)))
 (.l (.r (Time.mk (mx a0.A a1.A) (mx a0.B a1.B)))))
def RF:=λa0 a1=>(Du a0 a1).val
def SF:=λa0 a1=>(Du a0 a1).ob
def V8:=λa0 a1=>da.mk (RF a0 a1) (SF a0 a1) [] [(0,.agg true [.i a0.A,.i a0.B]),(1,.agg true [.i a1.A,.i a1.B])] S8 nE nE nE nE
theorem X8(G:Gd eQ){fr a0 a1}:U8 fr (V8 a0 a1):=oa G [(0,[2,3,4]),(1,[2,3,4,12]),(2,[4]),(3,[4])] (Du a0 a1)
def Tm(a0:Time)(a1:Time):Time:=ocR (RF a0 a1)
def Um(a0:Time)(a1:Time):Prop:=SF a0 a1
def Eu:Spec:=⟨[(.st .time),(.st .time)],.one .fr (.st .time),false,λx=>(Tm x.1 x.2.1,0),λx=>Um x.1 x.2.1⟩
theorem Y8(G:Gd eQ):Con Tryz.prog 96 Eu:=Ba (pts:=[(.st .time),(.st .time)]) (F:=F96) G λ_ _=>X8 G
def ng:SP:=[(95,QF),(96,Eu),(68,mg)]
abbrev F70:Fnn:=⟨[.tmp 4],.one (.acc true) (.lst .row),none,[]⟩
abbrev xj:LR->RV:=rvF F70
abbrev Xg:=@OkF Tryz.prog tt Tryz.f70 F70 LR
def Fu(x83 x84 x85:LR)(x86 x87:Int):Tr LR LR Empty Empty Empty:=.w [inb x86 (aa .row x83),inb x87 (aa .row x84)] (.c (cmp .eql (rd .row x83 x86).Key (rd .row x84 x87).Key) (.k (LF (rd .row x83 x86).Val (rd .row x84 x87).Val) λu89=>.k (Tm (rd .row x83 x86).At (rd .row x84 x87).At) λu90=>.w [inb x86 (aa .row x83),inb x86 (aa .row x83),inb x87 (aa .row x84),MF (rd .row x83 x86).Val (rd .row x84 x87).Val,inb x86 (aa .row x83),inb x87 (aa .row x84),Um (rd .row x83 x86).At (rd .row x84 x87).At,inb x86 (aa .row x83),inb x87 (aa .row x84),lim (aa .row x85) (aa .row [(Row.mk (rd .row x83 x86).Key u89 u90 (ar .mul .i64 (rd .row x83 x86).Diff (rd .row x84 x87).Diff))])] (.l (.n (x85++[(Row.mk (rd .row x83 x86).Key u89 u90 (ar .mul .i64 (rd .row x83 x86).Diff (rd .row x84 x87).Diff))]))))
 (.l (.n x85)))
def fQ:=λx83 x84 x85 x86 x87=>(Fu x83 x84 x85 x86 x87).val
def gQ:=λx83 x84 x85 x86 x87=>(Fu x83 x84 x85 x86 x87).ob
def Gu:=λx83 x84 x85 x86 x87=>da.mk (fQ x83 x84 x85 x86 x87) (gQ x83 x84 x85 x86 x87) [0,1,0,0,1,0,0,1,0,0,1,0,1,1] [(0,.S .row x83),(1,.S .row x84),(5,.A .row x85),(6,.I x86),(7,.I x87)] xj (λq=>[(0,.S .row x83),(1,.S .row x84),(5,.A .row q),(6,.I x86),(7,.I x87)]) nE nE nE
theorem Z8(G:Gd ng){fr x83 x84 x85 x86 x87}:Xg fr (Gu x83 x84 x85 x86 x87):=oa G [(8,[0,1,5,6,7,31]),(9,[0,1,5,6,7])] (Fu x83 x84 x85 x86 x87)
def Vm(x61 x62 _x63:LR)(x64:Int)(s80:LR)(s81:Int):Tr LR (LR×Int) LR Empty Empty:=.c (cmp .lss s81 (aa .row x62)) (.s (Gu x61 x62 s80 x64 s81) (λq92=>.l (.n (q92,(ar .add .i64 s81 1)))) nE nE nE)
 (.l (.x s80))
def yj:=λx61 x62 x63 x64 s80 s81=>(Vm x61 x62 x63 x64 s80 s81).val
def Wm:=λx61 x62 x63 x64 s80 s81=>(Vm x61 x62 x63 x64 s80 s81).ob
def UF:=λx61 x62 x63 x64 s80 s81=>Ka (yj x61 x62 x63 x64 s80 s81) (Wm x61 x62 x63 x64 s80 s81) [0,0,1,0,0,1,0,0,1,0,1,1] (λq=>[(0,.S .row x61),(1,.S .row x62),(5,.A .row q.1),(6,.I x64),(7,.I q.2)]) (s80,s81) xj (λq=>(2,[(0,.S .row x61),(1,.S .row x62),(5,.A .row q),(6,.I x64)])) nE nE
theorem b9(G:Gd ng){fr x61 x62 x63 x64 s80 s81}:Xg fr (UF x61 x62 x63 x64 s80 s81):=ga G [([0,1,0,0,1,0,0,1,0,0,1,0,1,1],λe=>⟨Gu (gL .row e 0 0) (gL .row e 1 0) (gL .row e 5 0) (gI e 6 0) (gI e 7 0)⟩)] ⟨λ_=>⟨rfl,Z8 G⟩,trivial⟩ [(6,[0,1,5,6,7,18]),(7,[0,1,5,6,7])] (Vm x61 x62 x63 x64 s80 s81)
def iQ:=λx61 x62 x63 x64=>lpV (λs:LR×Int=>ca (yj x61 x62 x63 x64 s.1 s.2)) (x63,0)
def jQ:=λx61 x62 x63 x64=>LpT (λs:LR×Int=>ca (yj x61 x62 x63 x64 s.1 s.2)) (λs=>Wm x61 x62 x63 x64 s.1 s.2) (x63,0)
def Hu:=λx61 x62 x63 x64=>lpS (UF x61 x62 x63 x64 x63 0) (iQ x61 x62 x63 x64) (jQ x61 x62 x63 x64)
theorem c9(G:Gd ng){fr x61 x62 x63 x64}:Xg fr (Hu x61 x62 x63 x64):=Na (λs:LR×Int=>UF x61 x62 x63 x64 s.1 s.2) (x63,0) λ_=>b9 G
def Iu(x57 x58 x59:LR)(x60:Int):Tr LR LR Empty Empty Empty:=.s (Hu x57 x58 x59 x60) nE (λq103=>.l (.n q103)) nE nE
def kQ:=λx57 x58 x59 x60=>(Iu x57 x58 x59 x60).val
def lQ:=λx57 x58 x59 x60=>(Iu x57 x58 x59 x60).ob
def Ju:=λx57 x58 x59 x60=>da.mk (kQ x57 x58 x59 x60) (lQ x57 x58 x59 x60) [0,1,0,0,1,0,1,1] [(0,.S .row x57),(1,.S .row x58),(5,.A .row x59),(6,.I x60)] xj (λq=>[(0,.S .row x57),(1,.S .row x58),(5,.A .row q),(6,.I x60)]) nE nE nE
theorem d9(G:Gd ng){fr x57 x58 x59 x60}:Xg fr (Ju x57 x58 x59 x60):=ga G [([0,1,0,0,1,0,0,1,0,1,1],λe=>⟨Hu (gL .row e 0 0) (gL .row e 1 0) (gL .row e 5 0) (gI e 6 0)⟩)] ⟨λ_=>⟨rfl,c9 G⟩,trivial⟩ [(5,[0,1,5,6,7])] (Iu x57 x58 x59 x60)
def Xm(x3 x4 s54:LR)(s55:Int):Tr LR (LR×Int) LR Empty Empty:=.c (cmp .lss s55 (aa .row x3)) (.s (Ju x3 x4 s54 s55) (λq106=>.l (.n (q106,(ar .add .i64 s55 1)))) nE nE nE)
 (.l (.x s54))
def zj:=λx3 x4 s54 s55=>(Xm x3 x4 s54 s55).val
def Ym:=λx3 x4 s54 s55=>(Xm x3 x4 s54 s55).ob
def VF:=λx3 x4 s54 s55=>Ka (zj x3 x4 s54 s55) (Ym x3 x4 s54 s55) [0,0,1,0,1,1] (λq=>[(0,.S .row x3),(1,.S .row x4),(5,.A .row q.1),(6,.I q.2)]) (s54,s55) xj (λq=>(0,[(5,.A .row q)])) nE nE
theorem g9(G:Gd ng){fr x3 x4 s54 s55}:Xg fr (VF x3 x4 s54 s55):=ga G [([0,1,0,0,1,0,1,1],λe=>⟨Ju (gL .row e 0 0) (gL .row e 1 0) (gL .row e 5 0) (gI e 6 0)⟩)] ⟨λ_=>⟨rfl,d9 G⟩,trivial⟩ [(3,[0,1,5,6,12]),(4,[0,1,5,6])] (Xm x3 x4 s54 s55)
def mQ:=λx3 x4=>lpV (λs:LR×Int=>ca (zj x3 x4 s.1 s.2)) ([],0)
def nQ:=λx3 x4=>LpT (λs:LR×Int=>ca (zj x3 x4 s.1 s.2)) (λs=>Ym x3 x4 s.1 s.2) ([],0)
def Ku:=λx3 x4=>lpS (VF x3 x4 [] 0) (mQ x3 x4) (nQ x3 x4)
theorem j9(G:Gd ng){fr x3 x4}:Xg fr (Ku x3 x4):=Na (λs:LR×Int=>VF x3 x4 s.1 s.2) ([],0) λ_=>g9 G
def Lu(x1 x2:LR):Tr LR LR Empty Empty Empty:=.s (Ku x1 x2) nE (λq117=>.l (.n q117)) nE nE
def oQ:=λx1 x2=>(Lu x1 x2).val
def pQ:=λx1 x2=>(Lu x1 x2).ob
def Mu:=λx1 x2=>da.mk (oQ x1 x2) (pQ x1 x2) [0,1,1] [(0,.S .row x1),(1,.S .row x2),(5,.A .row [])] xj (λq=>[(5,.A .row q)]) nE nE nE
theorem k9(G:Gd ng){fr x1 x2}:Xg fr (Mu x1 x2):=ga G [([0,1,0,1,1],λe=>⟨Ku (gL .row e 0 0) (gL .row e 1 0)⟩)] ⟨λ_=>⟨rfl,j9 G⟩,trivial⟩ [(2,[0,1,5,6])] (Lu x1 x2)
def Nu(a0 a1:LR):Tr LR Empty Empty Empty Empty:=.s (Mu a0 a1) (λq120=>.w [Gf q120] (.l (.r (Ee q120)))) nE nE nE
def WF:=λa0 a1=>(Nu a0 a1).val
def XF:=λa0 a1=>(Nu a0 a1).ob
def l9:=λa0 a1=>da.mk (WF a0 a1) (XF a0 a1) [] [(0,.S .row a0),(1,.S .row a1)] xj nE nE nE nE
theorem m9(G:Gd ng){fr a0 a1}:Xg fr (l9 a0 a1):=ga G [([0,1,1],λe=>⟨Mu (gL .row e 0 0) (gL .row e 1 0)⟩)] ⟨λ_=>⟨rfl,k9 G⟩,trivial⟩ [(0,[0,1]),(1,[0,1,5]),(10,[4])] (Nu a0 a1)
def Ou(a0:LR)(a1:LR):LR:=ocR (WF a0 a1)
def Pu(a0:LR)(a1:LR):Prop:=XF a0 a1
def YF:Spec:=⟨[(.lst .row),(.lst .row)],.one (.acc true) (.lst .row),false,λx=>(Ou x.1 x.2.1,0),λx=>Pu x.1 x.2.1⟩
theorem n9(G:Gd ng):Con Tryz.prog 70 YF:=Ba (pts:=[(.lst .row),(.lst .row)]) (F:=F70) G λ_ _=>m9 G
def Zm:SP:=[]
abbrev ZF:Fnn:=⟨[.tmp 4],.one .fr .bool,none,[]⟩
abbrev aG:Bool->RV:=rvF ZF
abbrev Qu:=@OkF Tryz.prog tt Tryz.f123 ZF Bool
def bn(x3:List Time)(x4:Time)(s8:Int):Tr Bool Int Unit Empty Empty:=.c (cmp .lss s8 (aa .time x3)) (.w [inb s8 (aa .time x3)] (.c (cmp .eql (rd .time x3 s8).A x4.A&&(cmp .eql (rd .time x3 s8).B x4.B&&true)) (.l (.r true))
 (.l (.n (ar .add .i64 s8 1)))))
 (.l (.x ()))
def Aj:=λx3 x4 s8=>(bn x3 x4 s8).val
def cn:=λx3 x4 s8=>(bn x3 x4 s8).ob
def bG:=λx3 x4 s8=>Ka (Aj x3 x4 s8) (cn x3 x4 s8) [0,0,1,0,1] (λq=>[(0,.S .time x3),(3,.B [x4.A,x4.B]),(5,.I q)]) s8 aG (λ_=>(0,[])) nE nE
theorem r9(G:Gd Zm){fr x3 x4 s8}:Qu fr (bG x3 x4 s8):=oa G [(2,[0,3,5,9]),(3,[0,3,5]),(4,[0,3,5,17]),(5,[4])] (bn x3 x4 s8)
def qQ:=λx3 x4=>lpV (λs:Int=>ca (Aj x3 x4 s)) 0
def rQ:=λx3 x4=>LpT (λs:Int=>ca (Aj x3 x4 s)) (λs=>cn x3 x4 s) 0
def Ru:=λx3 x4=>lpS (bG x3 x4 0) (qQ x3 x4) (rQ x3 x4)
theorem w9(G:Gd Zm){fr x3 x4}:Qu fr (Ru x3 x4):=Na (λs:Int=>bG x3 x4 s) 0 λ_=>r9 G
def Su(x1:List Time)(x2:Time):Tr Bool Unit Empty Empty Empty:=.s (Ru x1 x2) nE (λ_=>.l (.n ())) nE nE
def sQ:=λx1 x2=>(Su x1 x2).val
def tQ:=λx1 x2=>(Su x1 x2).ob
def Tu:=λx1 x2=>da.mk (sQ x1 x2) (tQ x1 x2) [0,1] [(0,.S .time x1),(3,.B [x2.A,x2.B])] aG (λ_=>[]) nE nE nE
theorem A9(G:Gd Zm){fr x1 x2}:Qu fr (Tu x1 x2):=ga G [([0,1,0,1],λe=>⟨Ru (gL .time e 0 0) (Kd e 3)⟩)] ⟨λ_=>⟨rfl,w9 G⟩,trivial⟩ [(1,[0,3,5])] (Su x1 x2)
def Uu(a0:List Time)(a1:Time):Tr Bool Empty Empty Empty Empty:=.s (Tu a0 a1) (λ_=>.l (.r false)) nE nE nE
def cG:=λa0 a1=>(Uu a0 a1).val
def dG:=λa0 a1=>(Uu a0 a1).ob
def B9:=λa0 a1=>da.mk (cG a0 a1) (dG a0 a1) [] [(0,.S .time a0),(1,.agg true [.i a1.A,.i a1.B])] aG nE nE nE nE
theorem C9(G:Gd Zm){fr a0 a1}:Qu fr (B9 a0 a1):=ga G [([0,1],λe=>⟨Tu (gL .time e 0 0) (Kd e 3)⟩)] ⟨λ_=>⟨rfl,A9 G⟩,trivial⟩ [(0,[0,3]),(6,[4])] (Uu a0 a1)
def Bj(a0:List Time)(a1:Time):Bool:=ocR (cG a0 a1)
def Cj(a0:List Time)(a1:Time):Prop:=dG a0 a1
def eG:Spec:=⟨[(.lst .time),(.st .time)],.one .fr .bool,false,λx=>(Bj x.1 x.2.1,0),λx=>Cj x.1 x.2.1⟩
theorem E9(G:Gd Zm):Con Tryz.prog 123 eG:=Ba (pts:=[(.lst .time),(.st .time)]) (F:=ZF) G λ_ _=>C9 G
def Qc:SP:=[(23,Th),(123,eG),(96,Eu)]
abbrev fG:Fnn:=⟨[.tmp 4],.one (.acc true) (.lst .time),none,[]⟩
abbrev ee:List Time->RV:=rvF fG
abbrev Tc:=@OkF Tryz.prog tt Tryz.f111 fG (List Time)
def Vu(x22:LR)(x23:Int)(x24:List Time)(x25:Int):Tr (List Time) ((List Time)) Empty Empty Empty:=.w [inb x25 (aa .row x22),((cmp .eql (rd .row x22 x25).Key x23)&&true)=true->inb x25 (aa .row x22),((cmp .eql (rd .row x22 x25).Key x23)&&true)=true->(Cj x24 (rd .row x22 x25).At)] (.c (cond (cmp .eql (rd .row x22 x25).Key x23) (!(Bj x24 (rd .row x22 x25).At)) false) (.w [inb x25 (aa .row x22),lim (aa .time x24) (aa .time [(rd .row x22 x25).At])] (.l (.n (x24++[(rd .row x22 x25).At]))))
 (.l (.n x24)))
def uQ:=λx22 x23 x24 x25=>(Vu x22 x23 x24 x25).val
def vQ:=λx22 x23 x24 x25=>(Vu x22 x23 x24 x25).ob
def Wu:=λx22 x23 x24 x25=>da.mk (uQ x22 x23 x24 x25) (vQ x22 x23 x24 x25) [0,1,0,0,1,0,1,1] [(0,.S .row x22),(1,.I x23),(5,.A .time x24),(6,.I x25)] ee (λq=>[(0,.S .row x22),(1,.I x23),(5,.A .time q),(6,.I x25)]) nE nE nE
theorem H9(G:Gd Qc){fr x22 x23 x24 x25}:Tc fr (Wu x22 x23 x24 x25):=oa G [(5,[0,1,5,6,40]),(6,[0,1,5,6])] (Vu x22 x23 x24 x25)
def jn(x3:LR)(x4:Int)(s18:List Time)(s19:Int):Tr (List Time) ((List Time)×Int) ((List Time)) Empty Empty:=.w [((cmp .lss s19 (aa .row x3))&&true)=true->(Rg x3)] (.c (cond (cmp .lss s19 (aa .row x3)) (jg x3) false) (.s (Wu x3 x4 s18 s19) (λq29=>.l (.n (q29,(ar .add .i64 s19 1)))) nE nE nE)
 (.l (.x s18)))
def Dj:=λx3 x4 s18 s19=>(jn x3 x4 s18 s19).val
def ln:=λx3 x4 s18 s19=>(jn x3 x4 s18 s19).ob
def gG:=λx3 x4 s18 s19=>Ka (Dj x3 x4 s18 s19) (ln x3 x4 s18 s19) [0,0,1,0,1,1] (λq=>[(0,.S .row x3),(1,.I x4),(5,.A .time q.1),(6,.I q.2)]) (s18,s19) ee (λq=>(0,[(5,.A .time q)])) nE nE
theorem I9(G:Gd Qc){fr x3 x4 s18 s19}:Tc fr (gG x3 x4 s18 s19):=ga G [([0,1,0,0,1,0,1,1],λe=>⟨Wu (gL .row e 0 0) (gI e 1 0) (gL .time e 5 0) (gI e 6 0)⟩)] ⟨λ_=>⟨rfl,H9 G⟩,trivial⟩ [(3,[0,1,5,6,21]),(4,[0,1,5,6])] (jn x3 x4 s18 s19)
def wQ:=λx3 x4=>lpV (λs:(List Time)×Int=>ca (Dj x3 x4 s.1 s.2)) ([],0)
def xQ:=λx3 x4=>LpT (λs:(List Time)×Int=>ca (Dj x3 x4 s.1 s.2)) (λs=>ln x3 x4 s.1 s.2) ([],0)
def Xu:=λx3 x4=>lpS (gG x3 x4 [] 0) (wQ x3 x4) (xQ x3 x4)
theorem J9(G:Gd Qc){fr x3 x4}:Tc fr (Xu x3 x4):=Na (λs:(List Time)×Int=>gG x3 x4 s.1 s.2) ([],0) λ_=>I9 G
def Yu(x1:LR)(x2:Int):Tr (List Time) ((List Time)) Empty Empty Empty:=.s (Xu x1 x2) nE (λq40=>.l (.n q40)) nE nE
def yQ:=λx1 x2=>(Yu x1 x2).val
def zQ:=λx1 x2=>(Yu x1 x2).ob
def Zu:=λx1 x2=>da.mk (yQ x1 x2) (zQ x1 x2) [0,1,1] [(0,.S .row x1),(1,.I x2),(5,.A .time [])] ee (λq=>[(5,.A .time q)]) nE nE nE
theorem L9(G:Gd Qc){fr x1 x2}:Tc fr (Zu x1 x2):=ga G [([0,1,0,1,1],λe=>⟨Xu (gL .row e 0 0) (gI e 1 0)⟩)] ⟨λ_=>⟨rfl,J9 G⟩,trivial⟩ [(2,[0,1,5,6])] (Yu x1 x2)
def bv(x114:List Time)(x115 x116:Int):Tr (List Time) ((List Time)) Empty Empty Empty:=.k (Tm (rd .time x114 x115) (rd .time x114 x116)) λu117=>.w [inb x115 (aa .time x114),inb x116 (aa .time x114),Um (rd .time x114 x115) (rd .time x114 x116)] (.w [Cj x114 u117] (.c (!(Bj x114 u117)) (.w [lim (aa .time x114) (aa .time [u117])] (.l (.n (x114++[u117]))))
 (.l (.n x114))))
def AQ:=λx114 x115 x116=>(bv x114 x115 x116).val
def BQ:=λx114 x115 x116=>(bv x114 x115 x116).ob
def cv:=λx114 x115 x116=>da.mk (AQ x114 x115 x116) (BQ x114 x115 x116) [0,1,0,0,1,0,0,1,0,0,1,0,1,1,1] [(5,.A .time x114),(7,.I x115),(8,.I x116)] ee (λq=>[(5,.A .time q),(7,.I x115),(8,.I x116)]) nE nE nE
theorem M9(G:Gd Qc){fr x114 x115 x116}:Tc fr (cv x114 x115 x116):=oa G [(13,[5,7,8,9]),(14,[5,7,8,9,72]),(15,[5,7,8])] (bv x114 x115 x116)
def nn(_x96:List Time)(x97:Int)(s111:List Time)(s112:Int):Tr (List Time) ((List Time)×Int) ((List Time)) Empty Empty:=.c (cmp .lss s112 x97) (.s (cv s111 x97 s112) (λq121=>.l (.n (q121,(ar .add .i64 s112 1)))) nE nE nE)
 (.l (.x s111))
def Ej:=λx96 x97 s111 s112=>(nn x96 x97 s111 s112).val
def qn:=λx96 x97 s111 s112=>(nn x96 x97 s111 s112).ob
def iG:=λx96 x97 s111 s112=>Ka (Ej x96 x97 s111 s112) (qn x96 x97 s111 s112) [0,0,1,0,0,1,0,0,1,0,1,1,1] (λq=>[(5,.A .time q.1),(7,.I x97),(8,.I q.2)]) (s111,s112) ee (λq=>(4,[(5,.A .time q),(7,.I x97)])) nE nE
theorem O9(G:Gd Qc){fr x96 x97 s111 s112}:Tc fr (iG x96 x97 s111 s112):=ga G [([0,1,0,0,1,0,0,1,0,0,1,0,1,1,1],λe=>⟨cv (gL .time e 5 0) (gI e 7 0) (gI e 8 0)⟩)] ⟨λ_=>⟨rfl,M9 G⟩,trivial⟩ [(11,[5,7,8,57]),(12,[5,7,8])] (nn x96 x97 s111 s112)
def CQ:=λx96 x97=>lpV (λs:(List Time)×Int=>ca (Ej x96 x97 s.1 s.2)) (x96,0)
def DQ:=λx96 x97=>LpT (λs:(List Time)×Int=>ca (Ej x96 x97 s.1 s.2)) (λs=>qn x96 x97 s.1 s.2) (x96,0)
def dv:=λx96 x97=>lpS (iG x96 x97 x96 0) (CQ x96 x97) (DQ x96 x97)
theorem P9(G:Gd Qc){fr x96 x97}:Tc fr (dv x96 x97):=Na (λs:(List Time)×Int=>iG x96 x97 s.1 s.2) (x96,0) λ_=>O9 G
def ev(x94:List Time)(x95:Int):Tr (List Time) ((List Time)) Empty Empty Empty:=.s (dv x94 x95) nE (λq132=>.l (.n q132)) nE nE
def EQ:=λx94 x95=>(ev x94 x95).val
def FQ:=λx94 x95=>(ev x94 x95).ob
def fv:=λx94 x95=>da.mk (EQ x94 x95) (FQ x94 x95) [0,1,0,0,1,0,1,1,1] [(5,.A .time x94),(7,.I x95)] ee (λq=>[(5,.A .time q),(7,.I x95)]) nE nE nE
theorem Q9(G:Gd Qc){fr x94 x95}:Tc fr (fv x94 x95):=ga G [([0,1,0,0,1,0,0,1,0,1,1,1],λe=>⟨dv (gL .time e 5 0) (gI e 7 0)⟩)] ⟨λ_=>⟨rfl,P9 G⟩,trivial⟩ [(10,[5,7,8])] (ev x94 x95)
def rn(_x46 s91:List Time)(s92:Int):Tr (List Time) ((List Time)×Int) ((List Time)) Empty Empty:=.c (cmp .lss s92 (aa .time s91)) (.s (fv s91 s92) (λq135=>.l (.n (q135,(ar .add .i64 s92 1)))) nE nE nE)
 (.l (.x s91))
def Fj:=λx46 s91 s92=>(rn x46 s91 s92).val
def sn:=λx46 s91 s92=>(rn x46 s91 s92).ob
def jG:=λx46 s91 s92=>Ka (Fj x46 s91 s92) (sn x46 s91 s92) [0,0,1,0,1,1,1] (λq=>[(5,.A .time q.1),(7,.I q.2)]) (s91,s92) ee (λq=>(2,[(5,.A .time q)])) nE nE
theorem R9(G:Gd Qc){fr x46 s91 s92}:Tc fr (jG x46 s91 s92):=ga G [([0,1,0,0,1,0,1,1,1],λe=>⟨fv (gL .time e 5 0) (gI e 7 0)⟩)] ⟨λ_=>⟨rfl,Q9 G⟩,trivial⟩ [(8,[5,7,52]),(9,[5,7])] (rn x46 s91 s92)
def GQ:=λx46=>lpV (λs:(List Time)×Int=>ca (Fj x46 s.1 s.2)) (x46,0)
def HQ:=λx46=>LpT (λs:(List Time)×Int=>ca (Fj x46 s.1 s.2)) (λs=>sn x46 s.1 s.2) (x46,0)
def gv:=λx46=>lpS (jG x46 x46 0) (GQ x46) (HQ x46)
theorem S9(G:Gd Qc){fr x46}:Tc fr (gv x46):=Na (λs:(List Time)×Int=>jG x46 s.1 s.2) (x46,0) λ_=>R9 G
def iv(x45:List Time):Tr (List Time) ((List Time)) Empty Empty Empty:=.s (gv x45) nE (λq146=>.l (.n q146)) nE nE
def IQ:=λx45=>(iv x45).val
def JQ:=λx45=>(iv x45).ob
def jv:=λx45=>da.mk (IQ x45) (JQ x45) [0,1,1,1] [(5,.A .time x45)] ee (λq=>[(5,.A .time q)]) nE nE nE
theorem T9(G:Gd Qc){fr x45}:Tc fr (jv x45):=ga G [([0,1,0,1,1,1],λe=>⟨gv (gL .time e 5 0)⟩)] ⟨λ_=>⟨rfl,S9 G⟩,trivial⟩ [(7,[5,7])] (iv x45)
def lv(x221 x222:List Time)(x223 x224:Int):Tr (List Time) ((List Time)) Empty Empty Empty:=.w [Cj x221 (Time.mk x223 x224)] (.c (Bj x221 (Time.mk x223 x224)) (.w [lim (aa .time x222) (aa .time [(Time.mk x223 x224)])] (.l (.n (x222++[(Time.mk x223 x224)]))))
 (.l (.n x222)))
def LQ:=λx221 x222 x223 x224=>(lv x221 x222 x223 x224).val
def MQ:=λx221 x222 x223 x224=>(lv x221 x222 x223 x224).ob
def nv:=λx221 x222 x223 x224=>da.mk (LQ x221 x222 x223 x224) (MQ x221 x222 x223 x224) [0,1,0,0,1,0,0,1,0,0,1,0,1,1,1,1,1] [(5,.A .time x221),(10,.A .time x222),(11,.I x223),(12,.I x224)] ee (λq=>[(5,.A .time x221),(10,.A .time q),(11,.I x223),(12,.I x224)]) nE nE nE
theorem U9(G:Gd Qc){fr x221 x222 x223 x224}:Tc fr (nv x221 x222 x223 x224):=oa G [(23,[5,10,11,12,90]),(24,[5,10,11,12])] (lv x221 x222 x223 x224)
def tn(x202 _x203:List Time)(x204:Int)(s218:List Time)(s219:Int):Tr (List Time) ((List Time)×Int) ((List Time)) Empty Empty:=.c (cmp .leq s219 7) (.s (nv x202 s218 x204 s219) (λq228=>.l (.n (q228,(ar .add .i64 s219 1)))) nE nE nE)
 (.l (.x s218))
def ei:=λx202 x203 x204 s218 s219=>(tn x202 x203 x204 s218 s219).val
def Gj:=λx202 x203 x204 s218 s219=>(tn x202 x203 x204 s218 s219).ob
def kG:=λx202 x203 x204 s218 s219=>Ka (ei x202 x203 x204 s218 s219) (Gj x202 x203 x204 s218 s219) [0,0,1,0,0,1,0,0,1,0,1,1,1,1,1] (λq=>[(5,.A .time x202),(10,.A .time q.1),(11,.I x204),(12,.I q.2)]) (s218,s219) ee (λq=>(8,[(5,.A .time x202),(10,.A .time q),(11,.I x204)])) nE nE
theorem V9(G:Gd Qc){fr x202 x203 x204 s218 s219}:Tc fr (kG x202 x203 x204 s218 s219):=ga G [([0,1,0,0,1,0,0,1,0,0,1,0,1,1,1,1,1],λe=>⟨nv (gL .time e 5 0) (gL .time e 10 0) (gI e 11 0) (gI e 12 0)⟩)] ⟨λ_=>⟨rfl,U9 G⟩,trivial⟩ [(21,[5,10,11,12,83]),(22,[5,10,11,12])] (tn x202 x203 x204 s218 s219)
def NQ:=λx202 x203 x204=>lpV (λs:(List Time)×Int=>ca (ei x202 x203 x204 s.1 s.2)) (x203,0)
def PQ:=λx202 x203 x204=>LpT (λs:(List Time)×Int=>ca (ei x202 x203 x204 s.1 s.2)) (λs=>Gj x202 x203 x204 s.1 s.2) (x203,0)
def ov:=λx202 x203 x204=>lpS (kG x202 x203 x204 x203 0) (NQ x202 x203 x204) (PQ x202 x203 x204)
theorem W9(G:Gd Qc){fr x202 x203 x204}:Tc fr (ov x202 x203 x204):=Na (λs:(List Time)×Int=>kG x202 x203 x204 s.1 s.2) (x203,0) λ_=>V9 G
def qv(x199 x200:List Time)(x201:Int):Tr (List Time) ((List Time)) Empty Empty Empty:=.s (ov x199 x200 x201) nE (λq239=>.l (.n q239)) nE nE
def RQ:=λx199 x200 x201=>(qv x199 x200 x201).val
def SQ:=λx199 x200 x201=>(qv x199 x200 x201).ob
def sv:=λx199 x200 x201=>da.mk (RQ x199 x200 x201) (SQ x199 x200 x201) [0,1,0,0,1,0,1,1,1,1,1] [(5,.A .time x199),(10,.A .time x200),(11,.I x201)] ee (λq=>[(5,.A .time x199),(10,.A .time q),(11,.I x201)]) nE nE nE
theorem X9(G:Gd Qc){fr x199 x200 x201}:Tc fr (sv x199 x200 x201):=ga G [([0,1,0,0,1,0,0,1,0,1,1,1,1,1],λe=>⟨ov (gL .time e 5 0) (gL .time e 10 0) (gI e 11 0)⟩)] ⟨λ_=>⟨rfl,W9 G⟩,trivial⟩ [(20,[5,10,11,12])] (qv x199 x200 x201)
def un(x152 s196:List Time)(s197:Int):Tr (List Time) ((List Time)×Int) ((List Time)) Empty Empty:=.c (cmp .leq s197 7) (.s (sv x152 s196 s197) (λq242=>.l (.n (q242,(ar .add .i64 s197 1)))) nE nE nE)
 (.l (.x s196))
def Ij:=λx152 s196 s197=>(un x152 s196 s197).val
def vn:=λx152 s196 s197=>(un x152 s196 s197).ob
def lG:=λx152 s196 s197=>Ka (Ij x152 s196 s197) (vn x152 s196 s197) [0,0,1,0,1,1,1,1,1] (λq=>[(5,.A .time x152),(10,.A .time q.1),(11,.I q.2)]) (s196,s197) ee (λq=>(6,[(10,.A .time q)])) nE nE
theorem Y9(G:Gd Qc){fr x152 s196 s197}:Tc fr (lG x152 s196 s197):=ga G [([0,1,0,0,1,0,1,1,1,1,1],λe=>⟨sv (gL .time e 5 0) (gL .time e 10 0) (gI e 11 0)⟩)] ⟨λ_=>⟨rfl,X9 G⟩,trivial⟩ [(18,[5,10,11,79]),(19,[5,10,11])] (un x152 s196 s197)
def TQ:=λx152=>lpV (λs:(List Time)×Int=>ca (Ij x152 s.1 s.2)) ([],0)
def UQ:=λx152=>LpT (λs:(List Time)×Int=>ca (Ij x152 s.1 s.2)) (λs=>vn x152 s.1 s.2) ([],0)
def tv:=λx152=>lpS (lG x152 [] 0) (TQ x152) (UQ x152)
theorem Z9(G:Gd Qc){fr x152}:Tc fr (tv x152):=Na (λs:(List Time)×Int=>lG x152 s.1 s.2) ([],0) λ_=>Y9 G
def uv(x151:List Time):Tr (List Time) ((List Time)) Empty Empty Empty:=.s (tv x151) nE (λq253=>.l (.n q253)) nE nE
def VQ:=λx151=>(uv x151).val
def WQ:=λx151=>(uv x151).ob
def wv:=λx151=>da.mk (VQ x151) (WQ x151) [0,1,1,1,1,1] [(5,.A .time x151),(10,.A .time [])] ee (λq=>[(10,.A .time q)]) nE nE nE
theorem aaa(G:Gd Qc){fr x151}:Tc fr (wv x151):=ga G [([0,1,0,1,1,1,1,1],λe=>⟨tv (gL .time e 5 0)⟩)] ⟨λ_=>⟨rfl,Z9 G⟩,trivial⟩ [(17,[5,10,11])] (uv x151)
def xv(a0:LR)(a1:Int):Tr (List Time) Empty Empty Empty Empty:=.s (Zu a0 a1) (λq43=>.s (jv q43) (λq149=>.s (wv q149) (λq256=>.l (.r q256)) nE nE nE) nE nE nE) nE nE nE
def mG:=λa0 a1=>(xv a0 a1).val
def nG:=λa0 a1=>(xv a0 a1).ob
def baa:=λa0 a1=>da.mk (mG a0 a1) (nG a0 a1) [] [(0,.S .row a0),(1,.I a1)] ee nE nE nE nE
theorem caa(G:Gd Qc){fr a0 a1}:Tc fr (baa a0 a1):=ga G [([0,1,1],λe=>⟨Zu (gL .row e 0 0) (gI e 1 0)⟩),([0,1,1,1],λe=>⟨jv (gL .time e 5 0)⟩),([0,1,1,1,1,1],λe=>⟨wv (gL .time e 5 0)⟩)] ⟨λ_=>⟨rfl,L9 G⟩,λ_=>⟨rfl,T9 G⟩,λ_=>⟨rfl,aaa G⟩,trivial⟩ [(0,[0,1]),(1,[0,1,5]),(16,[5,10]),(25,[4])] (xv a0 a1)
def yv(a0:LR)(a1:Int):List Time:=ocR (mG a0 a1)
def Av(a0:LR)(a1:Int):Prop:=nG a0 a1
def oG:Spec:=⟨[(.lst .row),(.int .i64)],.one (.acc true) (.lst .time),false,λx=>(yv x.1 x.2.1,0),λx=>Av x.1 x.2.1⟩
theorem daa(G:Gd Qc):Con Tryz.prog 111 oG:=Ba (pts:=[(.lst .row),(.int .i64)]) (F:=fG) G λ_ _=>caa G
def XQ:SP:=[(24,Yi)]
abbrev F89:Fnn:=⟨[.tmp 4],.one .fr .bool,none,[]⟩
abbrev eaa:Bool->RV:=rvF F89
abbrev faa:=@OkF Tryz.prog tt Tryz.f89 F89 Bool
def pG(a0 a1:Time):Tr Bool Empty Empty Empty Empty:=.w [Qg a0,((qe a0)&&true)=true->(Qg a1)] (.l (.r (cond (cond (cond (qe a0) (qe a1) false) (cmp .leq a0.A a1.A) false) (cmp .leq a0.B a1.B) false)))
def YQ:=λa0 a1=>(pG a0 a1).val
def ZQ:=λa0 a1=>(pG a0 a1).ob
def gaa:=λa0 a1=>da.mk (YQ a0 a1) (ZQ a0 a1) [] [(0,.agg true [.i a0.A,.i a0.B]),(1,.agg true [.i a1.A,.i a1.B])] eaa nE nE nE nE
theorem haa(G:Gd XQ){fr a0 a1}:faa fr (gaa a0 a1):=oa G [(0,[2,3]),(1,[4])] (pG a0 a1)
def Bv(a0:Time)(a1:Time):Bool:=ocR (YQ a0 a1)
def Cv(a0:Time)(a1:Time):Prop:=ZQ a0 a1
def Dv:Spec:=⟨[(.st .time),(.st .time)],.one .fr .bool,false,λx=>(Bv x.1 x.2.1,0),λx=>Cv x.1 x.2.1⟩
theorem iaa(G:Gd XQ):Con Tryz.prog 89 Dv:=Ba (pts:=[(.st .time),(.st .time)]) (F:=F89) G λ_ _=>haa G
def Yg:SP:=[(68,mg)]
abbrev qG:Fnn:=⟨[.tmp 2],.one (.acc true) (.lst .item),none,[]⟩
abbrev wn:LI->RV:=rvF qG
abbrev fi:=@OkF Tryz.prog tt Tryz.f114 qG LI
def xn(x2:LI)(s6:LR)(s7:Int):Tr LI (LR×Int) LR Empty Empty:=.c (cmp .lss s7 (aa .item x2)) (.w [inb s7 (aa .item x2),inb s7 (aa .item x2),inb s7 (aa .item x2),lim (aa .row s6) (aa .row [(Row.mk (rd .item x2 s7).Key (rd .item x2 s7).Val (Time.mk 0 0) (rd .item x2 s7).Count)])] (.l (.n ((s6++[(Row.mk (rd .item x2 s7).Key (rd .item x2 s7).Val (Time.mk 0 0) (rd .item x2 s7).Count)]),(ar .add .i64 s7 1)))))
 (.l (.x s6))
def Jj:=λx2 s6 s7=>(xn x2 s6 s7).val
def yn:=λx2 s6 s7=>(xn x2 s6 s7).ob
def rG:=λx2 s6 s7=>Ka (Jj x2 s6 s7) (yn x2 s6 s7) [0,0,1,0,1,1] (λq=>[(0,.S .item x2),(3,.A .row q.1),(4,.I q.2)]) (s6,s7) wn (λq=>(0,[(3,.A .row q)])) nE nE
theorem jaa(G:Gd Yg){fr x2 s6 s7}:fi fr (rG x2 s6 s7):=oa G [(3,[0,3,4,12]),(4,[0,3,4]),(5,[0,3,4])] (xn x2 s6 s7)
def aR:=λx2=>lpV (λs:LR×Int=>ca (Jj x2 s.1 s.2)) ([],0)
def bR:=λx2=>LpT (λs:LR×Int=>ca (Jj x2 s.1 s.2)) (λs=>yn x2 s.1 s.2) ([],0)
def Ev:=λx2=>lpS (rG x2 [] 0) (aR x2) (bR x2)
theorem kaa(G:Gd Yg){fr x2}:fi fr (Ev x2):=Na (λs:LR×Int=>rG x2 s.1 s.2) ([],0) λ_=>jaa G
def Fv(x1:LI):Tr LI LR Empty Empty Empty:=.s (Ev x1) nE (λq16=>.l (.n q16)) nE nE
def cR:=λx1=>(Fv x1).val
def eR:=λx1=>(Fv x1).ob
def Gv:=λx1=>da.mk (cR x1) (eR x1) [0,1,1] [(0,.S .item x1),(3,.A .row [])] wn (λq=>[(3,.A .row q)]) nE nE nE
theorem laa(G:Gd Yg){fr x1}:fi fr (Gv x1):=ga G [([0,1,0,1,1],λe=>⟨Ev (gL .item e 0 0)⟩)] ⟨λ_=>⟨rfl,kaa G⟩,trivial⟩ [(2,[0,3,4])] (Fv x1)
def zn(x23:LR)(s27:LI)(s28:Int):Tr LI (LI×Int) LI Empty Empty:=.c (cmp .lss s28 (aa .row x23)) (.w [inb s28 (aa .row x23),inb s28 (aa .row x23),inb s28 (aa .row x23),lim (aa .item s27) (aa .item [(Item.mk (rd .row x23 s28).Key (rd .row x23 s28).Val (rd .row x23 s28).Diff)])] (.l (.n ((s27++[(Item.mk (rd .row x23 s28).Key (rd .row x23 s28).Val (rd .row x23 s28).Diff)]),(ar .add .i64 s28 1)))))
 (.l (.x s27))
def Kj:=λx23 s27 s28=>(zn x23 s27 s28).val
def Bn:=λx23 s27 s28=>(zn x23 s27 s28).ob
def sG:=λx23 s27 s28=>Ka (Kj x23 s27 s28) (Bn x23 s27 s28) [0,0,1,0,1,1,1,1,1] (λq=>[(5,.A .row x23),(6,.A .item q.1),(7,.I q.2)]) (s27,s28) wn (λq=>(2,[(6,.A .item q)])) nE nE
theorem maa(G:Gd Yg){fr x23 s27 s28}:fi fr (sG x23 s27 s28):=oa G [(9,[5,6,7,40]),(10,[5,6,7]),(11,[5,6,7])] (zn x23 s27 s28)
def fR:=λx23=>lpV (λs:LI×Int=>ca (Kj x23 s.1 s.2)) ([],0)
def gR:=λx23=>LpT (λs:LI×Int=>ca (Kj x23 s.1 s.2)) (λs=>Bn x23 s.1 s.2) ([],0)
def Hv:=λx23=>lpS (sG x23 [] 0) (fR x23) (gR x23)
theorem naa(G:Gd Yg){fr x23}:fi fr (Hv x23):=Na (λs:LI×Int=>sG x23 s.1 s.2) ([],0) λ_=>maa G
def Iv(x22:LR):Tr LI LI Empty Empty Empty:=.s (Hv x22) nE (λq37=>.l (.n q37)) nE nE
def iR:=λx22=>(Iv x22).val
def jR:=λx22=>(Iv x22).ob
def Jv:=λx22=>da.mk (iR x22) (jR x22) [0,1,1,1,1,1] [(5,.A .row x22),(6,.A .item [])] wn (λq=>[(6,.A .item q)]) nE nE nE
theorem oaa(G:Gd Yg){fr x22}:fi fr (Jv x22):=ga G [([0,1,0,1,1,1,1,1],λe=>⟨Hv (gL .row e 5 0)⟩)] ⟨λ_=>⟨rfl,naa G⟩,trivial⟩ [(8,[5,6,7])] (Iv x22)
def Kv(a0:LI):Tr LI Empty Empty Empty Empty:=.s (Gv a0) (λq19=>.w [Gf q19] (.s (Jv (Ee q19)) (λq40=>.l (.r q40)) nE nE nE)) nE nE nE
def tG:=λa0=>(Kv a0).val
def uG:=λa0=>(Kv a0).ob
def paa:=λa0=>da.mk (tG a0) (uG a0) [] [(0,.S .item a0)] wn nE nE nE nE
theorem qaa(G:Gd Yg){fr a0}:fi fr (paa a0):=ga G [([0,1,1],λe=>⟨Gv (gL .item e 0 0)⟩),([0,1,1,1,1,1],λe=>⟨Jv (gL .row e 5 0)⟩)] ⟨λ_=>⟨rfl,laa G⟩,λ_=>⟨rfl,oaa G⟩,trivial⟩ [(0,[0]),(1,[0,3]),(6,[5]),(7,[5,6]),(12,[2])] (Kv a0)
def Cn(a0:LI):LI:=ocR (tG a0)
def Dn(a0:LI):Prop:=uG a0
def Lv:Spec:=⟨[(.lst .item)],.one (.acc true) (.lst .item),false,λx=>(Cn x.1,0),λx=>Dn x.1⟩
theorem raa(G:Gd Yg):Con Tryz.prog 114 Lv:=Ba (pts:=[(.lst .item)]) (F:=qG) G λ_ _=>qaa G
def Lj:SP:=[(23,Th),(24,Yi),(89,Dv),(114,Lv)]
abbrev vG:Fnn:=⟨[.tmp 4],.one (.acc true) (.lst .item),none,[]⟩
abbrev Mv:LI->RV:=rvF vG
abbrev En:=@OkF Tryz.prog tt Tryz.f113 vG LI
def Nv(x23:LR)(x24:Time)(x25:LI)(x26:Int):Tr LI LI Empty Empty Empty:=.w [inb x26 (aa .row x23),Cv (rd .row x23 x26).At x24] (.c (Bv (rd .row x23 x26).At x24) (.w [inb x26 (aa .row x23),inb x26 (aa .row x23),inb x26 (aa .row x23),lim (aa .item x25) (aa .item [(Item.mk (rd .row x23 x26).Key (rd .row x23 x26).Val (rd .row x23 x26).Diff)])] (.l (.n (x25++[(Item.mk (rd .row x23 x26).Key (rd .row x23 x26).Val (rd .row x23 x26).Diff)]))))
 (.l (.n x25)))
def kR:=λx23 x24 x25 x26=>(Nv x23 x24 x25 x26).val
def lR:=λx23 x24 x25 x26=>(Nv x23 x24 x25 x26).ob
def Ov:=λx23 x24 x25 x26=>da.mk (kR x23 x24 x25 x26) (lR x23 x24 x25 x26) [0,1,0,0,1,0,1,1,1] [(0,.S .row x23),(3,.B [x24.A,x24.B]),(5,.A .item x25),(6,.I x26)] Mv (λq=>[(0,.S .row x23),(3,.B [x24.A,x24.B]),(5,.A .item q),(6,.I x26)]) nE nE nE
theorem saa(G:Gd Lj){fr x23 x24 x25 x26}:En fr (Ov x23 x24 x25 x26):=oa G [(7,[0,3,5,6,29]),(8,[0,3,5,6])] (Nv x23 x24 x25 x26)
def Gn(x6:LR)(x7:Time)(s20:LI)(s21:Int):Tr LI (LI×Int) LI Empty Empty:=.c (cmp .lss s21 (aa .row x6)) (.s (Ov x6 x7 s20 s21) (λq30=>.l (.n (q30,(ar .add .i64 s21 1)))) nE nE nE)
 (.l (.x s20))
def Mj:=λx6 x7 s20 s21=>(Gn x6 x7 s20 s21).val
def Hn:=λx6 x7 s20 s21=>(Gn x6 x7 s20 s21).ob
def wG:=λx6 x7 s20 s21=>Ka (Mj x6 x7 s20 s21) (Hn x6 x7 s20 s21) [0,0,1,0,1,1,1] (λq=>[(0,.S .row x6),(3,.B [x7.A,x7.B]),(5,.A .item q.1),(6,.I q.2)]) (s20,s21) Mv (λq=>(0,[(5,.A .item q)])) nE nE
theorem taa(G:Gd Lj){fr x6 x7 s20 s21}:En fr (wG x6 x7 s20 s21):=ga G [([0,1,0,0,1,0,1,1,1],λe=>⟨Ov (gL .row e 0 0) (Kd e 3) (gL .item e 5 0) (gI e 6 0)⟩)] ⟨λ_=>⟨rfl,saa G⟩,trivial⟩ [(5,[0,3,5,6,20]),(6,[0,3,5,6])] (Gn x6 x7 s20 s21)
def mR:=λx6 x7=>lpV (λs:LI×Int=>ca (Mj x6 x7 s.1 s.2)) ([],0)
def nR:=λx6 x7=>LpT (λs:LI×Int=>ca (Mj x6 x7 s.1 s.2)) (λs=>Hn x6 x7 s.1 s.2) ([],0)
def Pv:=λx6 x7=>lpS (wG x6 x7 [] 0) (mR x6 x7) (nR x6 x7)
theorem uaa(G:Gd Lj){fr x6 x7}:En fr (Pv x6 x7):=Na (λs:LI×Int=>wG x6 x7 s.1 s.2) ([],0) λ_=>taa G
def Qv(x4:LR)(x5:Time):Tr LI LI Empty Empty Empty:=.s (Pv x4 x5) nE (λq41=>.l (.n q41)) nE nE
def oR:=λx4 x5=>(Qv x4 x5).val
def pR:=λx4 x5=>(Qv x4 x5).ob
def Rv:=λx4 x5=>da.mk (oR x4 x5) (pR x4 x5) [0,1,1,1] [(0,.S .row x4),(3,.B [x5.A,x5.B]),(5,.A .item [])] Mv (λq=>[(5,.A .item q)]) nE nE nE
theorem vaa(G:Gd Lj){fr x4 x5}:En fr (Rv x4 x5):=ga G [([0,1,0,1,1,1],λe=>⟨Pv (gL .row e 0 0) (Kd e 3)⟩)] ⟨λ_=>⟨rfl,uaa G⟩,trivial⟩ [(4,[0,3,5,6])] (Qv x4 x5)
def Sv(a0:LR)(a1:Time):Tr LI Empty Empty Empty Empty:=.w [Rg a0,((!(!(jg a0)))&&true)=true->(Qg a1)] (.c (cond (!(jg a0)) true (!(qe a1))) (.l (.r []))
 (.s (Rv a0 a1) (λq44=>.w [Dn q44] (.l (.r (Cn q44)))) nE nE nE))
def xG:=λa0 a1=>(Sv a0 a1).val
def yG:=λa0 a1=>(Sv a0 a1).ob
def waa:=λa0 a1=>da.mk (xG a0 a1) (yG a0 a1) [] [(0,.S .row a0),(1,.agg true [.i a1.A,.i a1.B])] Mv nE nE nE nE
theorem xaa(G:Gd Lj){fr a0 a1}:En fr (waa a0 a1):=ga G [([0,1,1,1],λe=>⟨Rv (gL .row e 0 0) (Kd e 3)⟩)] ⟨λ_=>⟨rfl,vaa G⟩,trivial⟩ [(0,[0,3]),(1,[0,3,5]),(2,[0,3,5,15]),(3,[4]),(9,[4])] (Sv a0 a1)
def Tv(a0:LR)(a1:Time):LI:=ocR (xG a0 a1)
def Uv(a0:LR)(a1:Time):Prop:=yG a0 a1
def zG:Spec:=⟨[(.lst .row),(.st .time)],.one (.acc true) (.lst .item),false,λx=>(Tv x.1 x.2.1,0),λx=>Uv x.1 x.2.1⟩
theorem yaa(G:Gd Lj):Con Tryz.prog 113 zG:=Ba (pts:=[(.lst .row),(.st .time)]) (F:=vG) G λ_ _=>xaa G
def qR:SP:=[]
abbrev AG:Fnn:=⟨[.tmp 2],.one .fr (.int .i64),none,[]⟩
abbrev zaa:Int->RV:=rvF AG
abbrev Aaa:=@OkF Tryz.prog tt Tryz.f124 AG Int
def BG(a0:Int):Tr Int Empty Empty Empty Empty:=.w [(100:Int)≠0,(100:Int)≠0] (.l (.r (ar .rem .i64 (ar .add .i64 (ar .rem .i64 a0 100) 100) 100)))
def rR:=λa0=>(BG a0).val
def sR:=λa0=>(BG a0).ob
def Baa:=λa0=>da.mk (rR a0) (sR a0) [] [(0,.I a0)] zaa nE nE nE nE
theorem Caa(G:Gd qR){fr a0}:Aaa fr (Baa a0):=oa G [(0,[0]),(1,[2])] (BG a0)
def Vv(a0:Int):Int:=ocR (rR a0)
def CG(a0:Int):Prop:=sR a0
def DG:Spec:=⟨[(.int .i64)],.one .fr (.int .i64),false,λx=>(Vv x.1,0),λx=>CG x.1⟩
theorem Daa(G:Gd qR):Con Tryz.prog 124 DG:=Ba (pts:=[(.int .i64)]) (F:=AG) G λ_ _=>Caa G
def gi:SP:=[(124,DG)]
abbrev EG:Fnn:=⟨[.tmp 6],.one (.acc true) (.lst .item),none,[]⟩
abbrev In:LI->RV:=rvF EG
abbrev Nj:=@OkF Tryz.prog tt Tryz.f112 EG LI
def Wv(x26:LI)(x27 x28:Int)(x29:LI)(x30 x31:Int):Tr LI (LI×Int) Empty Empty Empty:=.w [inb x31 (aa .item x26)] (.c (cmp .neq (rd .item x26 x31).Key x27) (.l (.n (x29,x30)))
 (.w [inb x31 (aa .item x26)] (.w [inb x31 (aa .item x26)] (.c (cond (cmp .gtr (rd .item x26 x31).Count 0) (cond (cmp .eql x28 2) true (cond (cmp .eql x28 3) (cmp .eql (aa .item x29) 0) false)) false) (.w [inb x31 (aa .item x26),lim (aa .item x29) (aa .item [(Item.mk x27 (rd .item x26 x31).Val 1)])] (.l (.n ((x29++[(Item.mk x27 (rd .item x26 x31).Val 1)]),(ar .add .i64 x30 (rd .item x26 x31).Count)))))
 (.l (.n (x29,(ar .add .i64 x30 (rd .item x26 x31).Count))))))))
def tR:=λx26 x27 x28 x29 x30 x31=>(Wv x26 x27 x28 x29 x30 x31).val
def uR:=λx26 x27 x28 x29 x30 x31=>(Wv x26 x27 x28 x29 x30 x31).ob
def Xv:=λx26 x27 x28 x29 x30 x31=>da.mk (tR x26 x27 x28 x29 x30 x31) (uR x26 x27 x28 x29 x30 x31) [0,1,0,0,1,0,1,1,1] [(0,.S .item x26),(1,.I x27),(2,.I x28),(7,.A .item x29),(8,.I x30),(9,.I x31)] In (λq=>[(0,.S .item x26),(1,.I x27),(2,.I x28),(7,.A .item q.1),(8,.I q.2),(9,.I x31)]) nE nE nE
theorem Eaa(G:Gd gi){fr x26 x27 x28 x29 x30 x31}:Nj fr (Xv x26 x27 x28 x29 x30 x31):=oa G [(6,[0,1,2,7,8,9,23]),(7,[0,1,2,7,8,9]),(8,[0,1,2,7,8,9,49]),(9,[0,1,2,7,8,9])] (Wv x26 x27 x28 x29 x30 x31)
def Jn(x4:LI)(x5 x6:Int)(s22:LI)(s23 s24:Int):Tr LI (LI×Int×Int) (LI×Int) Empty Empty:=.c (cmp .lss s24 (aa .item x4)) (.s (Xv x4 x5 x6 s22 s23 s24) (λq36=>.l (.n (q36.1,q36.2,(ar .add .i64 s24 1)))) nE nE nE)
 (.l (.x (s22,s23)))
def Oj:=λx4 x5 x6 s22 s23 s24=>(Jn x4 x5 x6 s22 s23 s24).val
def Nn:=λx4 x5 x6 s22 s23 s24=>(Jn x4 x5 x6 s22 s23 s24).ob
def FG:=λx4 x5 x6 s22 s23 s24=>Ka (Oj x4 x5 x6 s22 s23 s24) (Nn x4 x5 x6 s22 s23 s24) [0,0,1,0,1,1,1] (λq=>[(0,.S .item x4),(1,.I x5),(2,.I x6),(7,.A .item q.1),(8,.I q.2.1),(9,.I q.2.2)]) (s22,s23,s24) In (λq=>(0,[(1,.I x5),(2,.I x6),(7,.A .item q.1),(8,.I q.2)])) nE nE
theorem Faa(G:Gd gi){fr x4 x5 x6 s22 s23 s24}:Nj fr (FG x4 x5 x6 s22 s23 s24):=ga G [([0,1,0,0,1,0,1,1,1],λe=>⟨Xv (gL .item e 0 0) (gI e 1 0) (gI e 2 0) (gL .item e 7 0) (gI e 8 0) (gI e 9 0)⟩)] ⟨λ_=>⟨rfl,Eaa G⟩,trivial⟩ [(4,[0,1,2,7,8,9,14]),(5,[0,1,2,7,8,9])] (Jn x4 x5 x6 s22 s23 s24)
def vR:=λx4 x5 x6=>lpV (λs:LI×Int×Int=>ca (Oj x4 x5 x6 s.1 s.2.1 s.2.2)) ([],0,0)
def wR:=λx4 x5 x6=>LpT (λs:LI×Int×Int=>ca (Oj x4 x5 x6 s.1 s.2.1 s.2.2)) (λs=>Nn x4 x5 x6 s.1 s.2.1 s.2.2) ([],0,0)
def Yv:=λx4 x5 x6=>lpS (FG x4 x5 x6 [] 0 0) (vR x4 x5 x6) (wR x4 x5 x6)
theorem Gaa(G:Gd gi){fr x4 x5 x6}:Nj fr (Yv x4 x5 x6):=Na (λs:LI×Int×Int=>FG x4 x5 x6 s.1 s.2.1 s.2.2) ([],0,0) λ_=>Faa G
def Zv(x1:LI)(x2 x3:Int):Tr LI (LI×Int) Empty Empty Empty:=.s (Yv x1 x2 x3) nE (λq50=>.l (.n (q50.1,q50.2))) nE nE
def xR:=λx1 x2 x3=>(Zv x1 x2 x3).val
def yR:=λx1 x2 x3=>(Zv x1 x2 x3).ob
def aw:=λx1 x2 x3=>da.mk (xR x1 x2 x3) (yR x1 x2 x3) [0,1,1,1] [(0,.S .item x1),(1,.I x2),(2,.I x3),(7,.A .item []),(8,.I 0)] In (λq=>[(1,.I x2),(2,.I x3),(7,.A .item q.1),(8,.I q.2)]) nE nE nE
theorem Haa(G:Gd gi){fr x1 x2 x3}:Nj fr (aw x1 x2 x3):=ga G [([0,1,0,1,1,1],λe=>⟨Yv (gL .item e 0 0) (gI e 1 0) (gI e 2 0)⟩)] ⟨λ_=>⟨rfl,Gaa G⟩,trivial⟩ [(3,[0,1,2,7,8,9])] (Zv x1 x2 x3)
def bw(x56 x57:Int)(x58:LI)(x59:Int):Tr LI LI Empty Empty Empty:=.c (cond (cmp .eql x57 1) (cmp .neq x59 0) false) (.w [CG x59,lim (aa .item x58) (aa .item [(Item.mk x56 (Vv x59) 1)])] (.l (.n (x58++[(Item.mk x56 (Vv x59) 1)]))))
 (.l (.n x58))
def zR:=λx56 x57 x58 x59=>(bw x56 x57 x58 x59).val
def AR:=λx56 x57 x58 x59=>(bw x56 x57 x58 x59).ob
def cw:=λx56 x57 x58 x59=>da.mk (zR x56 x57 x58 x59) (AR x56 x57 x58 x59) [0,1,1,1,1] [(1,.I x56),(2,.I x57),(7,.A .item x58),(8,.I x59)] In (λq=>[(7,.A .item q)]) nE nE nE
theorem Iaa(G:Gd gi){fr x56 x57 x58 x59}:Nj fr (cw x56 x57 x58 x59):=oa G [(10,[1,7,8,65]),(11,[7])] (bw x56 x57 x58 x59)
def dw(a0:LI)(a1 a2:Int):Tr LI Empty Empty Empty Empty:=.s (aw a0 a1 a2) (λq54=>.s (cw a1 a2 q54.1 q54.2) (λq63=>.l (.r q63)) nE nE nE) nE nE nE
def GG:=λa0 a1 a2=>(dw a0 a1 a2).val
def HG:=λa0 a1 a2=>(dw a0 a1 a2).ob
def Jaa:=λa0 a1 a2=>da.mk (GG a0 a1 a2) (HG a0 a1 a2) [] [(0,.S .item a0),(1,.I a1),(2,.I a2)] In nE nE nE nE
theorem Kaa(G:Gd gi){fr a0 a1 a2}:Nj fr (Jaa a0 a1 a2):=ga G [([0,1,1,1],λe=>⟨aw (gL .item e 0 0) (gI e 1 0) (gI e 2 0)⟩),([0,1,1,1,1],λe=>⟨cw (gI e 1 0) (gI e 2 0) (gL .item e 7 0) (gI e 8 0)⟩)] ⟨λ_=>⟨rfl,Haa G⟩,λ_=>⟨rfl,Iaa G⟩,trivial⟩ [(0,[0,1,2]),(1,[0,1,2,7]),(2,[0,1,2,7,8]),(12,[6])] (dw a0 a1 a2)
def ew(a0:LI)(a1:Int)(a2:Int):LI:=ocR (GG a0 a1 a2)
def fw(a0:LI)(a1:Int)(a2:Int):Prop:=HG a0 a1 a2
def IG:Spec:=⟨[(.lst .item),(.int .i64),(.int .i64)],.one (.acc true) (.lst .item),false,λx=>(ew x.1 x.2.1 x.2.2.1,0),λx=>fw x.1 x.2.1 x.2.2.1⟩
theorem Laa(G:Gd gi):Con Tryz.prog 112 IG:=Ba (pts:=[(.lst .item),(.int .i64),(.int .i64)]) (F:=EG) G λ_ _=>Kaa G
def Ed:SP:=[(111,oG),(113,zG),(112,IG),(89,Dv),(114,Lv)]
abbrev F97:Fnn:=⟨[.tmp 6],.one (.acc true) (.lst .row),none,[]⟩
abbrev Ze:LR->RV:=rvF F97
abbrev Od:=@OkF Tryz.prog tt Tryz.f97 F97 LR
def gw(x22:LR)(x23 _x24:Int)(x25:LR)(x26:Int):Tr LR LR Empty Empty Empty:=.w [inb x26 (aa .row x22)] (.c (cmp .eql (rd .row x22 x26).Key x23) (.w [inb x26 (aa .row x22),lim (aa .row x25) (aa .row [(rd .row x22 x26)])] (.l (.n (x25++[(rd .row x22 x26)]))))
 (.l (.n x25)))
def BR:=λx22 x23 x24 x25 x26=>(gw x22 x23 x24 x25 x26).val
def CR:=λx22 x23 x24 x25 x26=>(gw x22 x23 x24 x25 x26).ob
def iw:=λx22 x23 x24 x25 x26=>da.mk (BR x22 x23 x24 x25 x26) (CR x22 x23 x24 x25 x26) [0,1,0,0,1,0,1,1] [(0,.S .row x22),(1,.I x23),(2,.I x24),(7,.A .row x25),(8,.I x26)] Ze (λq=>[(0,.S .row x22),(1,.I x23),(2,.I x24),(7,.A .row q),(8,.I x26)]) nE nE nE
theorem Maa(G:Gd Ed){fr x22 x23 x24 x25 x26}:Od fr (iw x22 x23 x24 x25 x26):=oa G [(5,[0,1,2,7,8,29]),(6,[0,1,2,7,8])] (gw x22 x23 x24 x25 x26)
def On(x4:LR)(x5 x6:Int)(s19:LR)(s20:Int):Tr LR (LR×Int) LR Empty Empty:=.c (cmp .lss s20 (aa .row x4)) (.s (iw x4 x5 x6 s19 s20) (λq29=>.l (.n (q29,(ar .add .i64 s20 1)))) nE nE nE)
 (.l (.x s19))
def Pj:=λx4 x5 x6 s19 s20=>(On x4 x5 x6 s19 s20).val
def Pn:=λx4 x5 x6 s19 s20=>(On x4 x5 x6 s19 s20).ob
def JG:=λx4 x5 x6 s19 s20=>Ka (Pj x4 x5 x6 s19 s20) (Pn x4 x5 x6 s19 s20) [0,0,1,0,1,1] (λq=>[(0,.S .row x4),(1,.I x5),(2,.I x6),(7,.A .row q.1),(8,.I q.2)]) (s19,s20) Ze (λq=>(0,[(0,.S .row x4),(1,.I x5),(2,.I x6),(7,.A .row q)])) nE nE
theorem Naa(G:Gd Ed){fr x4 x5 x6 s19 s20}:Od fr (JG x4 x5 x6 s19 s20):=ga G [([0,1,0,0,1,0,1,1],λe=>⟨iw (gL .row e 0 0) (gI e 1 0) (gI e 2 0) (gL .row e 7 0) (gI e 8 0)⟩)] ⟨λ_=>⟨rfl,Maa G⟩,trivial⟩ [(3,[0,1,2,7,8,20]),(4,[0,1,2,7,8])] (On x4 x5 x6 s19 s20)
def DR:=λx4 x5 x6=>lpV (λs:LR×Int=>ca (Pj x4 x5 x6 s.1 s.2)) ([],0)
def ER:=λx4 x5 x6=>LpT (λs:LR×Int=>ca (Pj x4 x5 x6 s.1 s.2)) (λs=>Pn x4 x5 x6 s.1 s.2) ([],0)
def jw:=λx4 x5 x6=>lpS (JG x4 x5 x6 [] 0) (DR x4 x5 x6) (ER x4 x5 x6)
theorem Oaa(G:Gd Ed){fr x4 x5 x6}:Od fr (jw x4 x5 x6):=Na (λs:LR×Int=>JG x4 x5 x6 s.1 s.2) ([],0) λ_=>Naa G
def kw(x1:LR)(x2 x3:Int):Tr LR LR Empty Empty Empty:=.s (jw x1 x2 x3) nE (λq40=>.l (.n q40)) nE nE
def FR:=λx1 x2 x3=>(kw x1 x2 x3).val
def GR:=λx1 x2 x3=>(kw x1 x2 x3).ob
def lw:=λx1 x2 x3=>da.mk (FR x1 x2 x3) (GR x1 x2 x3) [0,1,1] [(0,.S .row x1),(1,.I x2),(2,.I x3),(7,.A .row [])] Ze (λq=>[(0,.S .row x1),(1,.I x2),(2,.I x3),(7,.A .row q)]) nE nE nE
theorem Paa(G:Gd Ed){fr x1 x2 x3}:Od fr (lw x1 x2 x3):=ga G [([0,1,0,1,1],λe=>⟨jw (gL .row e 0 0) (gI e 1 0) (gI e 2 0)⟩)] ⟨λ_=>⟨rfl,Oaa G⟩,trivial⟩ [(2,[0,1,2,7,8])] (kw x1 x2 x3)
def mw(x197 _x198:Int)(_x199 x200:LR)(_x201:List Time)(_x202:Int)(x203:Time)(x204:LI)(x205:Int):Tr LR LI Empty Empty Empty:=.w [inb x205 (aa .row x200),Cv (rd .row x200 x205).At x203] (.c (Bv (rd .row x200 x205).At x203) (.w [inb x205 (aa .row x200),inb x205 (aa .row x200),lim (aa .item x204) (aa .item [(Item.mk x197 (rd .row x200 x205).Val (IntKind.wrap .i64 (0 - (rd .row x200 x205).Diff)))])] (.l (.n (x204++[(Item.mk x197 (rd .row x200 x205).Val (IntKind.wrap .i64 (0 - (rd .row x200 x205).Diff)))]))))
 (.l (.n x204)))
def HR:=λx197 x198 x199 x200 x201 x202 x203 x204 x205=>(mw x197 x198 x199 x200 x201 x202 x203 x204 x205).val
def IR:=λx197 x198 x199 x200 x201 x202 x203 x204 x205=>(mw x197 x198 x199 x200 x201 x202 x203 x204 x205).ob
def nw:=λx197 x198 x199 x200 x201 x202 x203 x204 x205=>da.mk (HR x197 x198 x199 x200 x201 x202 x203 x204 x205) (IR x197 x198 x199 x200 x201 x202 x203 x204 x205) [0,1,0,0,1,0,1,1,0,0,1,0,0,1,0,1,1,1,1,1] [(1,.I x197),(2,.I x198),(7,.A .row x199),(9,.A .row x200),(10,.A .time x201),(11,.I x202),(12,.B [x203.A,x203.B]),(13,.A .item x204),(14,.I x205)] Ze (λq=>[(1,.I x197),(2,.I x198),(7,.A .row x199),(9,.A .row x200),(10,.A .time x201),(11,.I x202),(12,.B [x203.A,x203.B]),(13,.A .item q),(14,.I x205)]) nE nE nE
theorem Qaa(G:Gd Ed){fr x197 x198 x199 x200 x201 x202 x203 x204 x205}:Od fr (nw x197 x198 x199 x200 x201 x202 x203 x204 x205):=oa G [(17,[1,2,7,9,10,11,12,13,14,69]),(18,[1,2,7,9,10,11,12,13,14])] (mw x197 x198 x199 x200 x201 x202 x203 x204 x205)
def Qn(x168 x169:Int)(x170 x171:LR)(x172:List Time)(x173:Int)(x174:Time)(_x175 s194:LI)(s195:Int):Tr LR (LI×Int) LI Empty Empty:=.c (cmp .lss s195 (aa .row x171)) (.s (nw x168 x169 x170 x171 x172 x173 x174 s194 s195) (λq209=>.l (.n (q209,(ar .add .i64 s195 1)))) nE nE nE)
 (.l (.x s194))
def Qj:=λx168 x169 x170 x171 x172 x173 x174 x175 s194 s195=>(Qn x168 x169 x170 x171 x172 x173 x174 x175 s194 s195).val
def Rn:=λx168 x169 x170 x171 x172 x173 x174 x175 s194 s195=>(Qn x168 x169 x170 x171 x172 x173 x174 x175 s194 s195).ob
def LG:=λx168 x169 x170 x171 x172 x173 x174 x175 s194 s195=>Ka (Qj x168 x169 x170 x171 x172 x173 x174 x175 s194 s195) (Rn x168 x169 x170 x171 x172 x173 x174 x175 s194 s195) [0,0,1,0,1,1,0,0,1,0,0,1,0,1,1,1,1,1] (λq=>[(1,.I x168),(2,.I x169),(7,.A .row x170),(9,.A .row x171),(10,.A .time x172),(11,.I x173),(12,.B [x174.A,x174.B]),(13,.A .item q.1),(14,.I q.2)]) (s194,s195) Ze (λq=>(4,[(1,.I x168),(2,.I x169),(7,.A .row x170),(9,.A .row x171),(10,.A .time x172),(11,.I x173),(12,.B [x174.A,x174.B]),(13,.A .item q)])) nE nE
theorem Raa(G:Gd Ed){fr x168 x169 x170 x171 x172 x173 x174 x175 s194 s195}:Od fr (LG x168 x169 x170 x171 x172 x173 x174 x175 s194 s195):=ga G [([0,1,0,0,1,0,1,1,0,0,1,0,0,1,0,1,1,1,1,1],λe=>⟨nw (gI e 1 0) (gI e 2 0) (gL .row e 7 0) (gL .row e 9 0) (gL .time e 10 0) (gI e 11 0) (Kd e 12) (gL .item e 13 0) (gI e 14 0)⟩)] ⟨λ_=>⟨rfl,Qaa G⟩,trivial⟩ [(15,[1,2,7,9,10,11,12,13,14,60]),(16,[1,2,7,9,10,11,12,13,14])] (Qn x168 x169 x170 x171 x172 x173 x174 x175 s194 s195)
def JR:=λx168 x169 x170 x171 x172 x173 x174 x175=>lpV (λs:LI×Int=>ca (Qj x168 x169 x170 x171 x172 x173 x174 x175 s.1 s.2)) (x175,0)
def MR:=λx168 x169 x170 x171 x172 x173 x174 x175=>LpT (λs:LI×Int=>ca (Qj x168 x169 x170 x171 x172 x173 x174 x175 s.1 s.2)) (λs=>Rn x168 x169 x170 x171 x172 x173 x174 x175 s.1 s.2) (x175,0)
def pw:=λx168 x169 x170 x171 x172 x173 x174 x175=>lpS (LG x168 x169 x170 x171 x172 x173 x174 x175 x175 0) (JR x168 x169 x170 x171 x172 x173 x174 x175) (MR x168 x169 x170 x171 x172 x173 x174 x175)
theorem Saa(G:Gd Ed){fr x168 x169 x170 x171 x172 x173 x174 x175}:Od fr (pw x168 x169 x170 x171 x172 x173 x174 x175):=Na (λs:LI×Int=>LG x168 x169 x170 x171 x172 x173 x174 x175 s.1 s.2) (x175,0) λ_=>Raa G
def qw(x160 x161:Int)(x162 x163:LR)(x164:List Time)(x165:Int)(x166:Time)(x167:LI):Tr LR LI Empty Empty Empty:=.s (pw x160 x161 x162 x163 x164 x165 x166 x167) nE (λq220=>.l (.n q220)) nE nE
def NR:=λx160 x161 x162 x163 x164 x165 x166 x167=>(qw x160 x161 x162 x163 x164 x165 x166 x167).val
def PR:=λx160 x161 x162 x163 x164 x165 x166 x167=>(qw x160 x161 x162 x163 x164 x165 x166 x167).ob
def sw:=λx160 x161 x162 x163 x164 x165 x166 x167=>da.mk (NR x160 x161 x162 x163 x164 x165 x166 x167) (PR x160 x161 x162 x163 x164 x165 x166 x167) [0,1,1,0,0,1,0,0,1,0,1,1,1,1,1] [(1,.I x160),(2,.I x161),(7,.A .row x162),(9,.A .row x163),(10,.A .time x164),(11,.I x165),(12,.B [x166.A,x166.B]),(13,.A .item x167)] Ze (λq=>[(1,.I x160),(2,.I x161),(7,.A .row x162),(9,.A .row x163),(10,.A .time x164),(11,.I x165),(12,.B [x166.A,x166.B]),(13,.A .item q)]) nE nE nE
theorem Taa(G:Gd Ed){fr x160 x161 x162 x163 x164 x165 x166 x167}:Od fr (sw x160 x161 x162 x163 x164 x165 x166 x167):=ga G [([0,1,0,1,1,0,0,1,0,0,1,0,1,1,1,1,1],λe=>⟨pw (gI e 1 0) (gI e 2 0) (gL .row e 7 0) (gL .row e 9 0) (gL .time e 10 0) (gI e 11 0) (Kd e 12) (gL .item e 13 0)⟩)] ⟨λ_=>⟨rfl,Saa G⟩,trivial⟩ [(14,[1,2,7,9,10,11,12,13,14])] (qw x160 x161 x162 x163 x164 x165 x166 x167)
def Sn(x226 _x227:Int)(_x228 _x229:LR)(_x230:List Time)(_x231:Int)(x232:Time)(x233:LI)(s237:LR)(s238:Int):Tr LR (LR×Int) LR Empty Empty:=.c (cmp .lss s238 (aa .item x233)) (.w [inb s238 (aa .item x233),inb s238 (aa .item x233),lim (aa .row s237) (aa .row [(Row.mk x226 (rd .item x233 s238).Val x232 (rd .item x233 s238).Count)])] (.l (.n ((s237++[(Row.mk x226 (rd .item x233 s238).Val x232 (rd .item x233 s238).Count)]),(ar .add .i64 s238 1)))))
 (.l (.x s237))
def Rj:=λx226 x227 x228 x229 x230 x231 x232 x233 s237 s238=>(Sn x226 x227 x228 x229 x230 x231 x232 x233 s237 s238).val
def Tn:=λx226 x227 x228 x229 x230 x231 x232 x233 s237 s238=>(Sn x226 x227 x228 x229 x230 x231 x232 x233 s237 s238).ob
def MG:=λx226 x227 x228 x229 x230 x231 x232 x233 s237 s238=>Ka (Rj x226 x227 x228 x229 x230 x231 x232 x233 s237 s238) (Tn x226 x227 x228 x229 x230 x231 x232 x233 s237 s238) [0,0,1,1,1,1,1,0,0,1,0,0,1,0,1,1,1,1,1] (λq=>[(1,.I x226),(2,.I x227),(7,.A .row x228),(9,.A .row q.1),(10,.A .time x230),(11,.I x231),(12,.B [x232.A,x232.B]),(13,.A .item x233),(15,.I q.2)]) (s237,s238) Ze (λq=>(6,[(1,.I x226),(2,.I x227),(7,.A .row x228),(9,.A .row q),(10,.A .time x230),(11,.I x231)])) nE nE
theorem Uaa(G:Gd Ed){fr x226 x227 x228 x229 x230 x231 x232 x233 s237 s238}:Od fr (MG x226 x227 x228 x229 x230 x231 x232 x233 s237 s238):=oa G [(21,[1,2,7,9,10,11,12,13,15,91]),(22,[1,2,7,9,10,11,12,13,15]),(23,[1,2,7,9,10,11,12,13,15])] (Sn x226 x227 x228 x229 x230 x231 x232 x233 s237 s238)
def QR:=λx226 x227 x228 x229 x230 x231 x232 x233=>lpV (λs:LR×Int=>ca (Rj x226 x227 x228 x229 x230 x231 x232 x233 s.1 s.2)) (x229,0)
def RR:=λx226 x227 x228 x229 x230 x231 x232 x233=>LpT (λs:LR×Int=>ca (Rj x226 x227 x228 x229 x230 x231 x232 x233 s.1 s.2)) (λs=>Tn x226 x227 x228 x229 x230 x231 x232 x233 s.1 s.2) (x229,0)
def tw:=λx226 x227 x228 x229 x230 x231 x232 x233=>lpS (MG x226 x227 x228 x229 x230 x231 x232 x233 x229 0) (QR x226 x227 x228 x229 x230 x231 x232 x233) (RR x226 x227 x228 x229 x230 x231 x232 x233)
theorem Vaa(G:Gd Ed){fr x226 x227 x228 x229 x230 x231 x232 x233}:Od fr (tw x226 x227 x228 x229 x230 x231 x232 x233):=Na (λs:LR×Int=>MG x226 x227 x228 x229 x230 x231 x232 x233 s.1 s.2) (x229,0) λ_=>Uaa G
def uw(x152 x153:Int)(x154 x155:LR)(x156:List Time)(x157:Int):Tr LR LR Empty Empty Empty:=.w [inb x157 (aa .time x156)] (.k (Tv x154 (rd .time x156 x157)) λu158=>.w [Uv x154 (rd .time x156 x157),fw u158 x152 x153] (.s (sw x152 x153 x154 x155 x156 x157 (rd .time x156 x157) (ew u158 x152 x153)) (λq223=>.w [Dn q223] (.s (tw x152 x153 x154 x155 x156 x157 (rd .time x156 x157) (Cn q223)) nE (λq247=>.l (.n q247)) nE nE)) nE nE nE))
def QG:=λx152 x153 x154 x155 x156 x157=>(uw x152 x153 x154 x155 x156 x157).val
def RG:=λx152 x153 x154 x155 x156 x157=>(uw x152 x153 x154 x155 x156 x157).ob
def vw:=λx152 x153 x154 x155 x156 x157=>da.mk (QG x152 x153 x154 x155 x156 x157) (RG x152 x153 x154 x155 x156 x157) [0,1,0,0,1,0,1,1,1,1,1] [(1,.I x152),(2,.I x153),(7,.A .row x154),(9,.A .row x155),(10,.A .time x156),(11,.I x157)] Ze (λq=>[(1,.I x152),(2,.I x153),(7,.A .row x154),(9,.A .row q),(10,.A .time x156),(11,.I x157)]) nE nE nE
theorem Waa(G:Gd Ed){fr x152 x153 x154 x155 x156 x157}:Od fr (vw x152 x153 x154 x155 x156 x157):=ga G [([0,1,1,0,0,1,0,0,1,0,1,1,1,1,1],λe=>⟨sw (gI e 1 0) (gI e 2 0) (gL .row e 7 0) (gL .row e 9 0) (gL .time e 10 0) (gI e 11 0) (Kd e 12) (gL .item e 13 0)⟩),([0,1,1,1,1,1,0,0,1,0,0,1,0,1,1,1,1,1],λe=>⟨tw (gI e 1 0) (gI e 2 0) (gL .row e 7 0) (gL .row e 9 0) (gL .time e 10 0) (gI e 11 0) (Kd e 12) (gL .item e 13 0)⟩)] ⟨λ_=>⟨rfl,Taa G⟩,λ_=>⟨rfl,Vaa G⟩,trivial⟩ [(12,[1,2,7,9,10,11,12]),(13,[1,2,7,9,10,11,12,13]),(19,[1,2,7,9,10,11,12,13]),(20,[1,2,7,9,10,11,12,13,15])] (uw x152 x153 x154 x155 x156 x157)
def Un(x50 x51:Int)(x52:LR)(x53:List Time)(s149:LR)(s150:Int):Tr LR (LR×Int) LR Empty Empty:=.c (cmp .lss s150 (aa .time x53)) (.s (vw x50 x51 x52 s149 x53 s150) (λq252=>.l (.n (q252,(ar .add .i64 s150 1)))) nE nE nE)
 (.l (.x s149))
def Sj:=λx50 x51 x52 x53 s149 s150=>(Un x50 x51 x52 x53 s149 s150).val
def Vn:=λx50 x51 x52 x53 s149 s150=>(Un x50 x51 x52 x53 s149 s150).ob
def SG:=λx50 x51 x52 x53 s149 s150=>Ka (Sj x50 x51 x52 x53 s149 s150) (Vn x50 x51 x52 x53 s149 s150) [0,0,1,0,1,1,1,1,1] (λq=>[(1,.I x50),(2,.I x51),(7,.A .row x52),(9,.A .row q.1),(10,.A .time x53),(11,.I q.2)]) (s149,s150) Ze (λq=>(2,[(9,.A .row q)])) nE nE
theorem Xaa(G:Gd Ed){fr x50 x51 x52 x53 s149 s150}:Od fr (SG x50 x51 x52 x53 s149 s150):=ga G [([0,1,0,0,1,0,1,1,1,1,1],λe=>⟨vw (gI e 1 0) (gI e 2 0) (gL .row e 7 0) (gL .row e 9 0) (gL .time e 10 0) (gI e 11 0)⟩)] ⟨λ_=>⟨rfl,Waa G⟩,trivial⟩ [(10,[1,2,7,9,10,11,44]),(11,[1,2,7,9,10,11])] (Un x50 x51 x52 x53 s149 s150)
def TR:=λx50 x51 x52 x53=>lpV (λs:LR×Int=>ca (Sj x50 x51 x52 x53 s.1 s.2)) ([],0)
def UR:=λx50 x51 x52 x53=>LpT (λs:LR×Int=>ca (Sj x50 x51 x52 x53 s.1 s.2)) (λs=>Vn x50 x51 x52 x53 s.1 s.2) ([],0)
def ww:=λx50 x51 x52 x53=>lpS (SG x50 x51 x52 x53 [] 0) (TR x50 x51 x52 x53) (UR x50 x51 x52 x53)
theorem Yaa(G:Gd Ed){fr x50 x51 x52 x53}:Od fr (ww x50 x51 x52 x53):=Na (λs:LR×Int=>SG x50 x51 x52 x53 s.1 s.2) ([],0) λ_=>Xaa G
def xw(x46 x47:Int)(x48:LR)(x49:List Time):Tr LR LR Empty Empty Empty:=.s (ww x46 x47 x48 x49) nE (λq263=>.l (.n q263)) nE nE
def WR:=λx46 x47 x48 x49=>(xw x46 x47 x48 x49).val
def XR:=λx46 x47 x48 x49=>(xw x46 x47 x48 x49).ob
def yw:=λx46 x47 x48 x49=>da.mk (WR x46 x47 x48 x49) (XR x46 x47 x48 x49) [0,1,1,1,1,1] [(1,.I x46),(2,.I x47),(7,.A .row x48),(9,.A .row []),(10,.A .time x49)] Ze (λq=>[(9,.A .row q)]) nE nE nE
theorem Zaa(G:Gd Ed){fr x46 x47 x48 x49}:Od fr (yw x46 x47 x48 x49):=ga G [([0,1,0,1,1,1,1,1],λe=>⟨ww (gI e 1 0) (gI e 2 0) (gL .row e 7 0) (gL .time e 10 0)⟩)] ⟨λ_=>⟨rfl,Yaa G⟩,trivial⟩ [(9,[1,2,7,9,10,11])] (xw x46 x47 x48 x49)
def zw(a0:LR)(a1 a2:Int):Tr LR Empty Empty Empty Empty:=.s (lw a0 a1 a2) (λq43=>.w [Av a0 a1] (.s (yw a1 a2 q43 (yv a0 a1)) (λq266=>.l (.r q266)) nE nE nE)) nE nE nE
def UG:=λa0 a1 a2=>(zw a0 a1 a2).val
def VG:=λa0 a1 a2=>(zw a0 a1 a2).ob
def aab:=λa0 a1 a2=>da.mk (UG a0 a1 a2) (VG a0 a1 a2) [] [(0,.S .row a0),(1,.I a1),(2,.I a2)] Ze nE nE nE nE
theorem bab(G:Gd Ed){fr a0 a1 a2}:Od fr (aab a0 a1 a2):=ga G [([0,1,1],λe=>⟨lw (gL .row e 0 0) (gI e 1 0) (gI e 2 0)⟩),([0,1,1,1,1,1],λe=>⟨yw (gI e 1 0) (gI e 2 0) (gL .row e 7 0) (gL .time e 10 0)⟩)] ⟨λ_=>⟨rfl,Paa G⟩,λ_=>⟨rfl,Zaa G⟩,trivial⟩ [(0,[0,1,2]),(1,[0,1,2,7]),(7,[0,1,2,7,9]),(8,[1,2,7,9,10]),(24,[6])] (zw a0 a1 a2)
def Aw(a0:LR)(a1:Int)(a2:Int):LR:=ocR (UG a0 a1 a2)
def Bw(a0:LR)(a1:Int)(a2:Int):Prop:=VG a0 a1 a2
def WG:Spec:=⟨[(.lst .row),(.int .i64),(.int .i64)],.one (.acc true) (.lst .row),false,λx=>(Aw x.1 x.2.1 x.2.2.1,0),λx=>Bw x.1 x.2.1 x.2.2.1⟩
theorem cab(G:Gd Ed):Con Tryz.prog 97 WG:=Ba (pts:=[(.lst .row),(.int .i64),(.int .i64)]) (F:=F97) G λ_ _=>bab G
def Wn:SP:=[(97,WG),(68,mg)]
abbrev F71:Fnn:=⟨[.tmp 4],.one (.acc true) (.lst .row),none,[]⟩
abbrev XG:LR->RV:=rvF F71
abbrev Cw:=@OkF Tryz.prog tt Tryz.f71 F71 LR
def Xn(x3:LR)(x4:Int)(s9:LR)(s10:Int):Tr LR (LR×Int) LR Empty Empty:=.c (cmp .lss s10 4) (.k (Aw x3 s10 x4) λu12=>.w [Bw x3 s10 x4,lim (aa .row s9) (aa .row u12)] (.l (.n ((s9++u12),(ar .add .i64 s10 1)))))
 (.l (.x s9))
def Tj:=λx3 x4 s9 s10=>(Xn x3 x4 s9 s10).val
def Yn:=λx3 x4 s9 s10=>(Xn x3 x4 s9 s10).ob
def YG:=λx3 x4 s9 s10=>Ka (Tj x3 x4 s9 s10) (Yn x3 x4 s9 s10) [0,0,1,0,1,1] (λq=>[(0,.S .row x3),(1,.I x4),(5,.A .row q.1),(6,.I q.2)]) (s9,s10) XG (λq=>(0,[(5,.A .row q)])) nE nE
theorem dab(G:Gd Wn){fr x3 x4 s9 s10}:Cw fr (YG x3 x4 s9 s10):=oa G [(3,[0,1,5,6,9]),(4,[0,1,5,6]),(5,[0,1,5,6])] (Xn x3 x4 s9 s10)
def YR:=λx3 x4=>lpV (λs:LR×Int=>ca (Tj x3 x4 s.1 s.2)) ([],0)
def ZR:=λx3 x4=>LpT (λs:LR×Int=>ca (Tj x3 x4 s.1 s.2)) (λs=>Yn x3 x4 s.1 s.2) ([],0)
def Dw:=λx3 x4=>lpS (YG x3 x4 [] 0) (YR x3 x4) (ZR x3 x4)
theorem eab(G:Gd Wn){fr x3 x4}:Cw fr (Dw x3 x4):=Na (λs:LR×Int=>YG x3 x4 s.1 s.2) ([],0) λ_=>dab G
def Ew(x1:LR)(x2:Int):Tr LR LR Empty Empty Empty:=.s (Dw x1 x2) nE (λq20=>.l (.n q20)) nE nE
def aS:=λx1 x2=>(Ew x1 x2).val
def bS:=λx1 x2=>(Ew x1 x2).ob
def Fw:=λx1 x2=>da.mk (aS x1 x2) (bS x1 x2) [0,1,1] [(0,.S .row x1),(1,.I x2),(5,.A .row [])] XG (λq=>[(5,.A .row q)]) nE nE nE
theorem fab(G:Gd Wn){fr x1 x2}:Cw fr (Fw x1 x2):=ga G [([0,1,0,1,1],λe=>⟨Dw (gL .row e 0 0) (gI e 1 0)⟩)] ⟨λ_=>⟨rfl,eab G⟩,trivial⟩ [(2,[0,1,5,6])] (Ew x1 x2)
def Gw(a0:LR)(a1:Int):Tr LR Empty Empty Empty Empty:=.s (Fw a0 a1) (λq23=>.w [Gf q23] (.l (.r (Ee q23)))) nE nE nE
def ZG:=λa0 a1=>(Gw a0 a1).val
def aH:=λa0 a1=>(Gw a0 a1).ob
def gab:=λa0 a1=>da.mk (ZG a0 a1) (aH a0 a1) [] [(0,.S .row a0),(1,.I a1)] XG nE nE nE nE
theorem iab(G:Gd Wn){fr a0 a1}:Cw fr (gab a0 a1):=ga G [([0,1,1],λe=>⟨Fw (gL .row e 0 0) (gI e 1 0)⟩)] ⟨λ_=>⟨rfl,fab G⟩,trivial⟩ [(0,[0,1]),(1,[0,1,5]),(6,[4])] (Gw a0 a1)
def Hw(a0:LR)(a1:Int):LR:=ocR (ZG a0 a1)
def Iw(a0:LR)(a1:Int):Prop:=aH a0 a1
def bH:Spec:=⟨[(.lst .row),(.int .i64)],.one (.acc true) (.lst .row),false,λx=>(Hw x.1 x.2.1,0),λx=>Iw x.1 x.2.1⟩
theorem jab(G:Gd Wn):Con Tryz.prog 71 bH:=Ba (pts:=[(.lst .row),(.int .i64)]) (F:=F71) G λ_ _=>iab G
abbrev V42:=Plan->List LR->LR×Bool×Unit
abbrev Q42:=Plan->List LR->Prop
def Jw(v:V42)(p:Q42):Spec:=⟨[(.st .plan),(.lst .lrow)],.tup [(false,(.lst .row)),(true,.bool)],false,λx=>(v x.1 x.2.1,0),λx=>p x.1 x.2.1⟩
def ii(r42V:V42)(r42P:Q42):SP:=[(42,Jw r42V r42P),(67,DF),(68,mg),(69,IF),(70,YF),(71,bH),(41,Jm)]
abbrev F42:Fnn:=⟨[.tmp 4,.tmp 5],.tup [(false,(.lst .row)),(true,.bool)],none,[]⟩
abbrev Zn:LR×Bool×Unit->RV:=rvF F42
abbrev Uj:=@OkF Tryz.prog tt Tryz.f42 F42 (LR×Bool×Unit)
def ao(r42V:V42)(r42P:Q42)(x5:List LR)(_x6 _x7:Int)(x8:LP)(s14:List LR)(s15:Int):Tr (LR×Bool×Unit) ((List LR)×Int) ((List LR)) Empty Empty:=.c (cmp .lss s15 (aa .plan x8)) (.k (r42V (Plan.mk (rd .plan x8 s15).Kind (rd .plan x8 s15).Num (rd .plan x8 s15).Kids) x5) λu17=>.w [inb s15 (aa .plan x8),r42P (Plan.mk (rd .plan x8 s15).Kind (rd .plan x8 s15).Num (rd .plan x8 s15).Kids) x5] (.c (!u17.2.1) (.l (.r ([],(false,()))))
 (.w [lim (aa .lrow s14) (aa .lrow [u17.1])] (.l (.n ((s14++[u17.1]),(ar .add .i64 s15 1)))))))
 (.l (.x s14))
def Vj:=λr42V r42P x5 x6 x7 x8 s14 s15=>(ao r42V r42P x5 x6 x7 x8 s14 s15).val
def eo:=λr42V r42P x5 x6 x7 x8 s14 s15=>(ao r42V r42P x5 x6 x7 x8 s14 s15).ob
def cH:=λr42V r42P x5 x6 x7 x8 s14 s15=>Ka (Vj r42V r42P x5 x6 x7 x8 s14 s15) (eo r42V r42P x5 x6 x7 x8 s14 s15) [0,0,1,0,1,1] (λq=>[(1,.S .lrow x5),(2,.box [(.fr,.i x6),(.fr,.i x7),(.sh,.lst .plan x8)]),(6,.v (.acc false) (.lst .lrow q.1)),(7,.I q.2)]) (s14,s15) Zn (λq=>(0,[(1,.S .lrow x5),(2,.box [(.fr,.i x6),(.fr,.i x7),(.sh,.lst .plan x8)]),(6,.v (.acc false) (.lst .lrow q))])) nE nE
theorem kab{r42V:V42}{r42P:Q42}(G:Gd (ii r42V r42P)){fr x5 x6 x7 x8 s14 s15}:Uj fr (cH r42V r42P x5 x6 x7 x8 s14 s15):=oa G [(3,[1,2,6,7,16]),(4,[1,2,6,7]),(5,[1,2,6,7,8,9]),(6,[1,2,6,7,8,30]),(7,[4,5]),(8,[1,2,6,7])] (ao r42V r42P x5 x6 x7 x8 s14 s15)
def dS:=λr42V r42P x5 x6 x7 x8=>lpV (λs:(List LR)×Int=>ca (Vj r42V r42P x5 x6 x7 x8 s.1 s.2)) ([],0)
def eS:=λr42V r42P x5 x6 x7 x8=>LpT (λs:(List LR)×Int=>ca (Vj r42V r42P x5 x6 x7 x8 s.1 s.2)) (λs=>eo r42V r42P x5 x6 x7 x8 s.1 s.2) ([],0)
def Kw:=λr42V r42P x5 x6 x7 x8=>lpS (cH r42V r42P x5 x6 x7 x8 [] 0) (dS r42V r42P x5 x6 x7 x8) (eS r42V r42P x5 x6 x7 x8)
theorem lab{r42V:V42}{r42P:Q42}(G:Gd (ii r42V r42P)){fr x5 x6 x7 x8}:Uj fr (Kw r42V r42P x5 x6 x7 x8):=Na (λs:(List LR)×Int=>cH r42V r42P x5 x6 x7 x8 s.1 s.2) ([],0) λ_=>kab G
def Lw(r42V:V42)(r42P:Q42)(x1:List LR)(x2 x3:Int)(x4:LP):Tr (LR×Bool×Unit) ((List LR)) Empty Empty Empty:=.s (Kw r42V r42P x1 x2 x3 x4) nE (λq26=>.l (.n q26)) nE nE
def fS:=λr42V r42P x1 x2 x3 x4=>(Lw r42V r42P x1 x2 x3 x4).val
def iS:=λr42V r42P x1 x2 x3 x4=>(Lw r42V r42P x1 x2 x3 x4).ob
def Mw:=λr42V r42P x1 x2 x3 x4=>da.mk (fS r42V r42P x1 x2 x3 x4) (iS r42V r42P x1 x2 x3 x4) [0,1,1] [(1,.S .lrow x1),(2,.box [(.fr,.i x2),(.fr,.i x3),(.sh,.lst .plan x4)]),(6,.A .lrow [])] Zn (λq=>[(1,.S .lrow x1),(2,.box [(.fr,.i x2),(.fr,.i x3),(.sh,.lst .plan x4)]),(6,.v (.acc false) (.lst .lrow q))]) nE nE nE
theorem mab{r42V:V42}{r42P:Q42}(G:Gd (ii r42V r42P)){fr x1 x2 x3 x4}:Uj fr (Mw r42V r42P x1 x2 x3 x4):=ga G [([0,1,0,1,1],λe=>⟨Kw r42V r42P (gL .lrow e 1 0) (gI e 2 0) (gI e 2 1) (gL .plan e 2 2)⟩)] ⟨λ_=>⟨rfl,lab G⟩,trivial⟩ [(2,[1,2,6,7])] (Lw r42V r42P x1 x2 x3 x4)
def Nw(_r42V:V42)(_r42P:Q42)(x40:List LR):Tr (LR×Bool×Unit) LR Empty Empty Empty:=.w [inb 0 (aa .lrow x40),lim (aa .row []) (aa .row (rd .lrow x40 0)),inb 1 (aa .lrow x40),lim (aa .row ([]++(rd .lrow x40 0))) (aa .row (rd .lrow x40 1)),Gf (([]++(rd .lrow x40 0))++(rd .lrow x40 1))] (.l (.n (Ee (([]++(rd .lrow x40 0))++(rd .lrow x40 1)))))
def jS:=λr42V r42P x40=>(Nw r42V r42P x40).val
def kS:=λr42V r42P x40=>(Nw r42V r42P x40).ob
def Ow:=λr42V r42P x40=>da.mk (jS r42V r42P x40) (kS r42V r42P x40) [0,1,1,1,1,1,0,1,0,1,1,1,1] [(6,.v (.acc false) (.lst .lrow x40))] Zn (λq=>[(10,.A .row q)]) nE nE nE
theorem nab{r42V:V42}{r42P:Q42}(G:Gd (ii r42V r42P)){fr x40}:Uj fr (Ow r42V r42P x40):=any_ok G [10] 224 (Nw r42V r42P x40) rfl rfl rfl (by kernel_rfl) (by kernel_rfl) (by kernel_rfl)
def Pw(r42V:V42)(r42P:Q42)(x31:List LR)(x32 x33:Int)(_x34:LP)(x35:List LR):Tr (LR×Bool×Unit) LR Empty Empty Empty:=.c (cmp .eql x32 1) (.w [inb x33 (aa .lrow x31),lim (aa .row []) (aa .row (rd .lrow x31 x33))] (.l (.n ([]++(rd .lrow x31 x33)))))
 (.c (cmp .eql x32 2) (.w [inb 0 (aa .lrow x35),vu (rd .lrow x35 0) x33] (.l (.n (uu (rd .lrow x35 0) x33))))
 (.c (cmp .eql x32 3) (.s (Ow r42V r42P x35) (λq42=>.l (.n q42)) nE nE nE)
 (.c (cmp .eql x32 4) (.w [inb 0 (aa .lrow x35),Cu (rd .lrow x35 0)] (.l (.n (Bu (rd .lrow x35 0)))))
 (.c (cmp .eql x32 5) (.w [inb 0 (aa .lrow x35),inb 1 (aa .lrow x35),Pu (rd .lrow x35 0) (rd .lrow x35 1)] (.l (.n (Ou (rd .lrow x35 0) (rd .lrow x35 1)))))
 (.w [inb 0 (aa .lrow x35),Iw (rd .lrow x35 0) x33] (.l (.n (Hw (rd .lrow x35 0) x33))))))))
def dH:=λr42V r42P x31 x32 x33 x34 x35=>(Pw r42V r42P x31 x32 x33 x34 x35).val
def eH:=λr42V r42P x31 x32 x33 x34 x35=>(Pw r42V r42P x31 x32 x33 x34 x35).ob
def Qw:=λr42V r42P x31 x32 x33 x34 x35=>da.mk (dH r42V r42P x31 x32 x33 x34 x35) (eH r42V r42P x31 x32 x33 x34 x35) [0,1,1,1,1] [(1,.S .lrow x31),(2,.box [(.fr,.i x32),(.fr,.i x33),(.sh,.lst .plan x34)]),(6,.v (.acc false) (.lst .lrow x35)),(10,.A .row [])] Zn (λq=>[(10,.S .row q)]) nE nE nE
theorem oab{r42V:V42}{r42P:Q42}(G:Gd (ii r42V r42P)){fr x31 x32 x33 x34 x35}:Uj fr (Qw r42V r42P x31 x32 x33 x34 x35):=ga G [([0,1,1,1,1,1,0,1,0,1,1,1,1],λe=>⟨Ow r42V r42P (gL .lrow e 6 0)⟩)] ⟨λ_=>⟨rfl,nab G⟩,trivial⟩ [(10,[1,2,6,10,38]),(11,[10]),(12,[1,2,6,10,38,45]),(13,[10]),(14,[2,6,38,54]),(15,[10]),(16,[2,6,38,62]),(18,[2,6,38,74]),(19,[10]),(20,[2,6,80]),(21,[10])] (Pw r42V r42P x31 x32 x33 x34 x35)
def Sw(r42V:V42)(r42P:Q42)(a0:Plan)(a1:List LR):Tr (LR×Bool×Unit) Empty Empty Empty Empty:=.s (Mw r42V r42P a1 a0.Kind a0.Num a0.Kids) (λq29=>.s (Qw r42V r42P a1 a0.Kind a0.Num a0.Kids q29) (λq52=>.w [jj q52] (.l (.r (q52,((ij q52),()))))) nE nE nE) nE nE nE
def Tw:=λr42V r42P a0 a1=>(Sw r42V r42P a0 a1).val
def Uw:=λr42V r42P a0 a1=>(Sw r42V r42P a0 a1).ob
def pab:=λr42V r42P a0 a1=>da.mk (Tw r42V r42P a0 a1) (Uw r42V r42P a0 a1) [] [(0,.agg false [.i a0.Kind,.i a0.Num,.lst .plan a0.Kids]),(1,.S .lrow a1)] Zn nE nE nE nE
theorem qab{r42V:V42}{r42P:Q42}(G:Gd (ii r42V r42P)){fr a0 a1}:Uj fr (pab r42V r42P a0 a1):=ga G [([0,1,1],λe=>⟨Mw r42V r42P (gL .lrow e 1 0) (gI e 2 0) (gI e 2 1) (gL .plan e 2 2)⟩),([0,1,1,1,1],λe=>⟨Qw r42V r42P (gL .lrow e 1 0) (gI e 2 0) (gI e 2 1) (gL .plan e 2 2) (gL .lrow e 6 0)⟩)] ⟨λ_=>⟨rfl,mab G⟩,λ_=>⟨rfl,oab G⟩,trivial⟩ [(0,[1,2]),(1,[1,2,6]),(9,[1,2,6,10]),(22,[4,5])] (Sw r42V r42P a0 a1)
theorem rab{r42V:V42}{r42P:Q42}(G:Gd (ii r42V r42P)):Con Tryz.prog 42 (Jw (λa0 a1=>ocR (Tw r42V r42P a0 a1)) (λa0 a1=>Uw r42V r42P a0 a1)):=Ba (pts:=[(.st .plan),(.lst .lrow)]) (F:=F42) G λ_ _=>qab G
def oc:Nat->V42×Q42
 |0=>(λ_ _=>default,λ_ _=>False)
 |n+1=>(λa0 a1=>ocR (Tw (oc n).1 (oc n).2 a0 a1),λa0 a1=>Uw (oc n).1 (oc n).2 a0 a1)
def fH:V42:=(oc Pc).1
def gH:Q42:=(oc Pc).2
def lS:Spec:=Jw fH gH
def fo:SP:=[(40,wF),(41,Jm),(42,lS)]
abbrev F13:Fnn:=⟨[.tmp 4,.tmp 5],.tup [(false,(.lst .row)),(true,.bool)],none,[]⟩
abbrev iH:LR×Bool×Unit->RV:=rvF F13
abbrev Vw:=@OkF Tryz.prog tt Tryz.f13 F13 (LR×Bool×Unit)
def jo(x7:List LR)(_x8 _x9:Int)(_x10:LP)(s15:Int):Tr (LR×Bool×Unit) Int Unit Empty Empty:=.c (cmp .lss s15 (aa .lrow x7)) (.w [inb s15 (aa .lrow x7),jj (rd .lrow x7 s15)] (.c (!(ij (rd .lrow x7 s15))) (.l (.r ([],(false,()))))
 (.l (.n (ar .add .i64 s15 1)))))
 (.l (.x ()))
def Wj:=λx7 x8 x9 x10 s15=>(jo x7 x8 x9 x10 s15).val
def ko:=λx7 x8 x9 x10 s15=>(jo x7 x8 x9 x10 s15).ob
def jH:=λx7 x8 x9 x10 s15=>Ka (Wj x7 x8 x9 x10 s15) (ko x7 x8 x9 x10 s15) [0,0,1,0,1,1] (λq=>[(1,.S .lrow x7),(2,.box [(.fr,.i x8),(.fr,.i x9),(.sh,.lst .plan x10)]),(6,.I q)]) s15 iH (λ_=>(0,[(1,.S .lrow x7),(2,.box [(.fr,.i x8),(.fr,.i x9),(.sh,.lst .plan x10)])])) nE nE
theorem sab(G:Gd fo){fr x7 x8 x9 x10 s15}:Vw fr (jH x7 x8 x9 x10 s15):=oa G [(4,[1,2,6,21]),(5,[1,2,6]),(6,[1,2,6,29]),(7,[4,5])] (jo x7 x8 x9 x10 s15)
def mS:=λx7 x8 x9 x10=>lpV (λs:Int=>ca (Wj x7 x8 x9 x10 s)) 0
def nS:=λx7 x8 x9 x10=>LpT (λs:Int=>ca (Wj x7 x8 x9 x10 s)) (λs=>ko x7 x8 x9 x10 s) 0
def Ww:=λx7 x8 x9 x10=>lpS (jH x7 x8 x9 x10 0) (mS x7 x8 x9 x10) (nS x7 x8 x9 x10)
theorem tab(G:Gd fo){fr x7 x8 x9 x10}:Vw fr (Ww x7 x8 x9 x10):=Na (λs:Int=>jH x7 x8 x9 x10 s) 0 λ_=>sab G
def Xw(x3:List LR)(x4 x5:Int)(x6:LP):Tr (LR×Bool×Unit) Unit Empty Empty Empty:=.s (Ww x3 x4 x5 x6) nE (λ_=>.l (.n ())) nE nE
def oS:=λx3 x4 x5 x6=>(Xw x3 x4 x5 x6).val
def pS:=λx3 x4 x5 x6=>(Xw x3 x4 x5 x6).ob
def Yw:=λx3 x4 x5 x6=>da.mk (oS x3 x4 x5 x6) (pS x3 x4 x5 x6) [0,1,1] [(1,.S .lrow x3),(2,.box [(.fr,.i x4),(.fr,.i x5),(.sh,.lst .plan x6)])] iH (λ_=>[(1,.S .lrow x3),(2,.box [(.fr,.i x4),(.fr,.i x5),(.sh,.lst .plan x6)])]) nE nE nE
theorem uab(G:Gd fo){fr x3 x4 x5 x6}:Vw fr (Yw x3 x4 x5 x6):=ga G [([0,1,0,1,1],λe=>⟨Ww (gL .lrow e 1 0) (gI e 2 0) (gI e 2 1) (gL .plan e 2 2)⟩)] ⟨λ_=>⟨rfl,tab G⟩,trivial⟩ [(3,[1,2,6])] (Xw x3 x4 x5 x6)
def Zw(a0:Plan)(a1:List LR):Tr (LR×Bool×Unit) Empty Empty Empty Empty:=.w [fu (Plan.mk a0.Kind a0.Num a0.Kids)] (.c (cond (!(eu (Plan.mk a0.Kind a0.Num a0.Kids))) true (cmp .neq (aa .lrow a1) 2)) (.l (.r ([],(false,()))))
 (.s (Yw a1 a0.Kind a0.Num a0.Kids) (λ_=>.k (fH (Plan.mk a0.Kind a0.Num a0.Kids) a1) λu27=>.w [gH (Plan.mk a0.Kind a0.Num a0.Kids) a1] (.c (!u27.2.1) (.l (.r ([],(false,()))))
 (.l (.r (u27.1,(true,())))))) nE nE nE))
def kH:=λa0 a1=>(Zw a0 a1).val
def lH:=λa0 a1=>(Zw a0 a1).ob
def vab:=λa0 a1=>da.mk (kH a0 a1) (lH a0 a1) [] [(0,.agg false [.i a0.Kind,.i a0.Num,.lst .plan a0.Kids]),(1,.S .lrow a1)] iH nE nE nE nE
theorem wab(G:Gd fo){fr a0 a1}:Vw fr (vab a0 a1):=ga G [([0,1,1],λe=>⟨Yw (gL .lrow e 1 0) (gI e 2 0) (gI e 2 1) (gL .plan e 2 2)⟩)] ⟨λ_=>⟨rfl,uab G⟩,trivial⟩ [(0,[1,2]),(1,[1,2,16]),(2,[4,5]),(8,[7,8]),(9,[7,38]),(10,[4,5]),(11,[4,5])] (Zw a0 a1)
def mo(a0:Plan)(a1:List LR):LR×Bool×Unit:=ocR (kH a0 a1)
def po(a0:Plan)(a1:List LR):Prop:=lH a0 a1
def mH:Spec:=⟨[(.st .plan),(.lst .lrow)],.tup [(false,(.lst .row)),(true,.bool)],false,λx=>(mo x.1 x.2.1,0),λx=>po x.1 x.2.1⟩
theorem xab(G:Gd fo):Con Tryz.prog 13 mH:=Ba (pts:=[(.st .plan),(.lst .lrow)]) (F:=F13) G λ_ _=>wab G
def ax:SP:=[]
abbrev F77:Fnn:=⟨[.tmp 2,.tmp 3,.tmp 4],.tup [(true,(.int .i64)),(true,(.int .i64)),(true,(.int .i64))],none,[]⟩
abbrev nH:Int×Int×Int×Unit->RV:=rvF F77
abbrev oH:=@OkF Tryz.prog tt Tryz.f77 F77 (Int×Int×Int×Unit)
def cx(x4:Int):Tr (Int×Int×Int×Unit) Bool Empty Empty Empty:=.c (cmp .eql x4 3) (.l (.n (cmp .eql x4 3)))
 (.l (.n (cmp .eql x4 5)))
def qS:=λx4=>(cx x4).val
def rS:=λx4=>(cx x4).ob
def dx:=λx4=>da.mk (qS x4) (rS x4) [0,1,1,1,1,0,1,0,1] [(5,.I x4)] nH (λq=>[(5,.I x4),(10,.O q)]) nE nE nE
theorem yab(G:Gd ax){fr x4}:oH fr (dx x4):=oa G [(6,[5,10]),(7,[5,10])] (cx x4)
def fx(x1:Int):Tr (Int×Int×Int×Unit) Unit Empty Empty Empty:=.c (cmp .eql x1 1) (.l (.r (0,(0,(1,())))))
 (.c (cmp .eql x1 2) (.l (.r (1,(1,(7,())))))
 (.s (dx x1) (λq7=>.c q7 (.l (.r (2,(0,(0,())))))
 (.c (cmp .eql x1 4) (.l (.r (1,(0,(0,())))))
 (.c (cmp .eql x1 6) (.l (.r (1,(1,(3,())))))
 (.l (.n ()))))) nE nE nE))
def tS:=λx1=>(fx x1).val
def uS:=λx1=>(fx x1).ob
def jx:=λx1=>da.mk (tS x1) (uS x1) [0,1] [(0,.I x1)] nH (λ_=>[]) nE nE nE
theorem zab(G:Gd ax){fr x1}:oH fr (jx x1):=ga G [([0,1,1,1,1,0,1,0,1],λe=>⟨dx (gI e 5 0)⟩)] ⟨λ_=>⟨rfl,yab G⟩,trivial⟩ [(1,[5]),(2,[5,6]),(3,[2,3,4]),(4,[5,8]),(5,[2,3,4]),(8,[2,3,4]),(9,[5,13]),(10,[2,3,4]),(11,[15]),(12,[2,3,4])] (fx x1)
def lx(a0:Int):Tr (Int×Int×Int×Unit) Empty Empty Empty Empty:=.s (jx a0) (λ_=>.l (.r ((-1),(0,(0,()))))) nE nE nE
def pH:=λa0=>(lx a0).val
def qH:=λa0=>(lx a0).ob
def Aab:=λa0=>da.mk (pH a0) (qH a0) [] [(0,.I a0)] nH nE nE nE nE
theorem Bab(G:Gd ax){fr a0}:oH fr (Aab a0):=ga G [([0,1],λe=>⟨jx (gI e 0 0)⟩)] ⟨λ_=>⟨rfl,zab G⟩,trivial⟩ [(0,[0]),(13,[2,3,4])] (lx a0)
def Zg(a0:Int):Int×Int×Int×Unit:=ocR (pH a0)
def nx(a0:Int):Prop:=qH a0
def rH:Spec:=⟨[(.int .i64)],.tup [(true,(.int .i64)),(true,(.int .i64)),(true,(.int .i64))],false,λx=>(Zg x.1,0),λx=>nx x.1⟩
theorem Cab(G:Gd ax):Con Tryz.prog 77 rH:=Ba (pts:=[(.int .i64)]) (F:=F77) G λ_ _=>Bab G
abbrev V46:=Plan->Int->Bool
abbrev Q46:=Plan->Int->Prop
def qx(v:V46)(p:Q46):Spec:=⟨[(.st .plan),(.int .i64)],.one .fr .bool,false,λx=>(v x.1 x.2.1,0),λx=>p x.1 x.2.1⟩
def qo(r46V:V46)(r46P:Q46):SP:=[(77,rH),(46,qx r46V r46P)]
abbrev F46:Fnn:=⟨[.tmp 4],.one .fr .bool,none,[]⟩
abbrev sH:Bool->RV:=rvF F46
abbrev rx:=@OkF Tryz.prog tt Tryz.f46 F46 Bool
def ro(r46V:V46)(r46P:Q46)(x7:Int)(x8:LP)(x9 s14:Int):Tr Bool Int Unit Empty Empty:=.c (cmp .lss s14 x9) (.w [inb s14 (aa .plan x8)] (.w [r46P (Plan.mk (rd .plan x8 s14).Kind (rd .plan x8 s14).Num (rd .plan x8 s14).Kids) (ar .sub .i64 x7 1)] (.c (!(r46V (Plan.mk (rd .plan x8 s14).Kind (rd .plan x8 s14).Num (rd .plan x8 s14).Kids) (ar .sub .i64 x7 1))) (.l (.r false))
 (.l (.n (ar .add .i64 s14 1))))))
 (.l (.x ()))
def Xj:=λr46V r46P x7 x8 x9 s14=>(ro r46V r46P x7 x8 x9 s14).val
def uo:=λr46V r46P x7 x8 x9 s14=>(ro r46V r46P x7 x8 x9 s14).ob
def tH:=λr46V r46P x7 x8 x9 s14=>Ka (Xj r46V r46P x7 x8 x9 s14) (uo r46V r46P x7 x8 x9 s14) [0,0,1,0,1,1,1] (λq=>[(1,.I x7),(43,.S .plan x8),(44,.I x9),(45,.I q)]) s14 sH (λ_=>(0,[])) nE nE
theorem Dab{r46V:V46}{r46P:Q46}(G:Gd (qo r46V r46P)){fr x7 x8 x9 s14}:rx fr (tH r46V r46P x7 x8 x9 s14):=oa G [(5,[1,43,44,45,46]),(6,[1,9,43,44,45]),(7,[1,43,44,45,53]),(8,[4]),(9,[1,43,44,45])] (ro r46V r46P x7 x8 x9 s14)
def vS:=λr46V r46P x7 x8 x9=>lpV (λs:Int=>ca (Xj r46V r46P x7 x8 x9 s)) 0
def wS:=λr46V r46P x7 x8 x9=>LpT (λs:Int=>ca (Xj r46V r46P x7 x8 x9 s)) (λs=>uo r46V r46P x7 x8 x9 s) 0
def tx:=λr46V r46P x7 x8 x9=>lpS (tH r46V r46P x7 x8 x9 0) (vS r46V r46P x7 x8 x9) (wS r46V r46P x7 x8 x9)
theorem Eab{r46V:V46}{r46P:Q46}(G:Gd (qo r46V r46P)){fr x7 x8 x9}:rx fr (tx r46V r46P x7 x8 x9):=Na (λs:Int=>tH r46V r46P x7 x8 x9 s) 0 λ_=>Dab G
def ux(r46V:V46)(r46P:Q46)(x3 _x4 _x5:Int)(x6:LP):Tr Bool Unit Empty Empty Empty:=.s (tx r46V r46P x3 x6 (aa .plan x6)) nE (λ_=>.l (.n ())) nE nE
def xS:=λr46V r46P x3 x4 x5 x6=>(ux r46V r46P x3 x4 x5 x6).val
def yS:=λr46V r46P x3 x4 x5 x6=>(ux r46V r46P x3 x4 x5 x6).ob
def vx:=λr46V r46P x3 x4 x5 x6=>da.mk (xS r46V r46P x3 x4 x5 x6) (yS r46V r46P x3 x4 x5 x6) [0,1,1,1] [(1,.I x3),(2,.box [(.fr,.i x4),(.fr,.i x5),(.sh,.lst .plan x6)])] sH (λ_=>[]) nE nE nE
theorem Fab{r46V:V46}{r46P:Q46}(G:Gd (qo r46V r46P)){fr x3 x4 x5 x6}:rx fr (vx r46V r46P x3 x4 x5 x6):=ga G [([0,1,0,1,1,1],λe=>⟨tx r46V r46P (gI e 1 0) (gL .plan e 43 0) (gI e 44 0)⟩)] ⟨λ_=>⟨rfl,Eab G⟩,trivial⟩ [(4,[1,43,44,45])] (ux r46V r46P x3 x4 x5 x6)
def Yj(r46V:V46)(r46P:Q46)(a0:Plan)(a1:Int):Tr Bool Empty Empty Empty Empty:=.k (Zg a0.Kind) λu1=>.w [nx a0.Kind] (.c (cond (cond (cond (cond (cmp .lss a1 1) true (cmp .lss u1.1 0)) true (cmp .neq (aa .plan a0.Kids) u1.1)) true (cmp .lss a0.Num u1.2.1)) true (cmp .gtr a0.Num u1.2.2.1)) (.l (.r false))
 (.s (vx r46V r46P a1 a0.Kind a0.Num a0.Kids) (λ_=>.l (.r true)) nE nE nE))
def Zj:=λr46V r46P a0 a1=>(Yj r46V r46P a0 a1).val
def ak:=λr46V r46P a0 a1=>(Yj r46V r46P a0 a1).ob
def Gab:=λr46V r46P a0 a1=>da.mk (Zj r46V r46P a0 a1) (ak r46V r46P a0 a1) [] [(0,.agg false [.i a0.Kind,.i a0.Num,.lst .plan a0.Kids]),(1,.I a1)] sH nE nE nE nE
theorem Hab{r46V:V46}{r46P:Q46}(G:Gd (qo r46V r46P)){fr a0 a1}:rx fr (Gab r46V r46P a0 a1):=ga G [([0,1,1,1],λe=>⟨vx r46V r46P (gI e 1 0) (gI e 2 0) (gI e 2 1) (gL .plan e 2 2)⟩)] ⟨λ_=>⟨rfl,Fab G⟩,trivial⟩ [(0,[1,2]),(1,[1,2,5,6,7]),(2,[1,2,41]),(3,[4]),(10,[4])] (Yj r46V r46P a0 a1)
theorem Iab{r46V:V46}{r46P:Q46}(G:Gd (qo r46V r46P)):Con Tryz.prog 46 (qx (λa0 a1=>ocR (Zj r46V r46P a0 a1)) (λa0 a1=>ak r46V r46P a0 a1)):=Ba (pts:=[(.st .plan),(.int .i64)]) (F:=F46) G λ_ _=>Hab G
def Kc:Nat->V46×Q46
 |0=>(λ_ _=>default,λ_ _=>False)
 |n+1=>(λa0 a1=>ocR (Zj (Kc n).1 (Kc n).2 a0 a1),λa0 a1=>ak (Kc n).1 (Kc n).2 a0 a1)
def zS:V46:=(Kc Pc).1
def AS:Q46:=(Kc Pc).2
def BS:Spec:=qx zS AS
def CS:SP:=[(46,BS)]
abbrev F17:Fnn:=⟨[.tmp 2],.one .fr .bool,none,[]⟩
abbrev Jab:Bool->RV:=rvF F17
abbrev Kab:=@OkF Tryz.prog tt Tryz.f17 F17 Bool
def yx(a0:Plan):Tr Bool Empty Empty Empty Empty:=.w [AS (Plan.mk a0.Kind a0.Num a0.Kids) 4] (.l (.r (zS (Plan.mk a0.Kind a0.Num a0.Kids) 4)))
def uH:=λa0=>(yx a0).val
def vH:=λa0=>(yx a0).ob
def Lab:=λa0=>da.mk (uH a0) (vH a0) [] [(0,.agg false [.i a0.Kind,.i a0.Num,.lst .plan a0.Kids])] Jab nE nE nE nE
theorem Mab(G:Gd CS){fr a0}:Kab fr (Lab a0):=oa G [(0,[1]),(1,[2])] (yx a0)
def zx(a0:Plan):Bool:=ocR (uH a0)
def Ax(a0:Plan):Prop:=vH a0
def wH:Spec:=⟨[(.st .plan)],.one .fr .bool,false,λx=>(zx x.1,0),λx=>Ax x.1⟩
theorem Nab(G:Gd CS):Con Tryz.prog 17 wH:=Ba (pts:=[(.st .plan)]) (F:=F17) G λ_ _=>Mab G
def DS:SP:=[]
abbrev F76:Fnn:=⟨[.tmp 4],.one .fr .bool,none,[]⟩
abbrev Oab:Bool->RV:=rvF F76
abbrev Pab:=@OkF Tryz.prog tt Tryz.f76 F76 Bool
def xH(a0 a1:Time):Tr Bool Empty Empty Empty Empty:=.l (.r (cond (cmp .lss a0.A a1.A) true (cond (cmp .eql a0.A a1.A) (cmp .lss a0.B a1.B) false)))
def ES:=λa0 a1=>(xH a0 a1).val
def FS:=λa0 a1=>(xH a0 a1).ob
def Qab:=λa0 a1=>da.mk (ES a0 a1) (FS a0 a1) [] [(0,.agg true [.i a0.A,.i a0.B]),(1,.agg true [.i a1.A,.i a1.B])] Oab nE nE nE nE
theorem Rab(G:Gd DS){fr a0 a1}:Pab fr (Qab a0 a1):=oa G [(0,[2,3]),(1,[4])] (xH a0 a1)
def yH(a0:Time)(a1:Time):Bool:=ocR (ES a0 a1)
def zH(a0:Time)(a1:Time):Prop:=FS a0 a1
def BH:Spec:=⟨[(.st .time),(.st .time)],.one .fr .bool,false,λx=>(yH x.1 x.2.1,0),λx=>zH x.1 x.2.1⟩
theorem Sab(G:Gd DS):Con Tryz.prog 76 BH:=Ba (pts:=[(.st .time),(.st .time)]) (F:=F76) G λ_ _=>Rab G
def GS:SP:=[(76,BH)]
abbrev F44:Fnn:=⟨[.tmp 4],.one .fr .bool,none,[]⟩
abbrev Tab:Bool->RV:=rvF F44
abbrev Uab:=@OkF Tryz.prog tt Tryz.f44 F44 Bool
def Bx(a0 a1:Row):Tr Bool Empty Empty Empty Empty:=.c (cmp .neq a0.Key a1.Key) (.l (.r (cmp .lss a0.Key a1.Key)))
 (.c (cmp .neq a0.Val a1.Val) (.l (.r (cmp .lss a0.Val a1.Val)))
 (.w [zH a0.At a1.At] (.l (.r (yH a0.At a1.At)))))
def CH:=λa0 a1=>(Bx a0 a1).val
def DH:=λa0 a1=>(Bx a0 a1).ob
def Vab:=λa0 a1=>da.mk (CH a0 a1) (DH a0 a1) [] [(0,.agg true [.i a0.Key,.i a0.Val,.i a0.At.A,.i a0.At.B,.i a0.Diff]),(1,.agg true [.i a1.Key,.i a1.Val,.i a1.At.A,.i a1.At.B,.i a1.Diff])] Tab nE nE nE nE
theorem Wab(G:Gd GS){fr a0 a1}:Uab fr (Vab a0 a1):=oa G [(0,[2,3]),(1,[2,3,5]),(2,[4]),(3,[2,3,16]),(4,[4]),(5,[4])] (Bx a0 a1)
def Cx(a0:Row)(a1:Row):Bool:=ocR (CH a0 a1)
def Dx(a0:Row)(a1:Row):Prop:=DH a0 a1
def EH:Spec:=⟨[(.st .row),(.st .row)],.one .fr .bool,false,λx=>(Cx x.1 x.2.1,0),λx=>Dx x.1 x.2.1⟩
theorem Xab(G:Gd GS):Con Tryz.prog 44 EH:=Ba (pts:=[(.st .row),(.st .row)]) (F:=F44) G λ_ _=>Wab G
def JS:SP:=[]
abbrev F49:Fnn:=⟨[.tmp 2],.one .fr .bool,none,[]⟩
abbrev Yab:Bool->RV:=rvF F49
abbrev Zab:=@OkF Tryz.prog tt Tryz.f49 F49 Bool
def FH(a0:Time):Tr Bool Empty Empty Empty Empty:=.l (.r (cond (cond (cond (cmp .geq a0.A 0) (cmp .leq a0.A 7) false) (cmp .geq a0.B 0) false) (cmp .leq a0.B 7) false))
def LS:=λa0=>(FH a0).val
def NS:=λa0=>(FH a0).ob
def aac:=λa0=>da.mk (LS a0) (NS a0) [] [(0,.agg true [.i a0.A,.i a0.B])] Yab nE nE nE nE
theorem bac(G:Gd JS){fr a0}:Zab fr (aac a0):=oa G [(0,[1]),(1,[2])] (FH a0)
def Hf(a0:Time):Bool:=ocR (LS a0)
def ji(a0:Time):Prop:=NS a0
def vo:Spec:=⟨[(.st .time)],.one .fr .bool,false,λx=>(Hf x.1,0),λx=>ji x.1⟩
theorem QS(G:Gd JS):Con Tryz.prog 49 vo:=Ba (pts:=[(.st .time)]) (F:=F49) G λ_ _=>bac G
def wo:SP:=[(49,vo)]
abbrev F45:Fnn:=⟨[.tmp 2],.one .fr .bool,none,[]⟩
abbrev GH:Bool->RV:=rvF F45
abbrev Ex:=@OkF Tryz.prog tt Tryz.f45 F45 Bool
def xo(x2:LR)(x3 s8:Int):Tr Bool Int Unit Empty Empty:=.c (cmp .lss s8 x3) (.w [inb s8 (aa .row x2)] (.w [((!(cond (cond (cond (cmp .lss (rd .row x2 s8).Key 0) true (cmp .geq (rd .row x2 s8).Key 4)) true (cmp .lss (rd .row x2 s8).Val 0)) true (cmp .geq (rd .row x2 s8).Val 100)))&&true)=true->(ji (rd .row x2 s8).At)] (.c (cond (cond (cond (cond (cond (cond (cmp .lss (rd .row x2 s8).Key 0) true (cmp .geq (rd .row x2 s8).Key 4)) true (cmp .lss (rd .row x2 s8).Val 0)) true (cmp .geq (rd .row x2 s8).Val 100)) true (!(Hf (rd .row x2 s8).At))) true (cmp .lss (rd .row x2 s8).Diff (-99999))) true (cmp .gtr (rd .row x2 s8).Diff 99999)) (.l (.r false))
 (.l (.n (ar .add .i64 s8 1))))))
 (.l (.x ()))
def bk:=λx2 x3 s8=>(xo x2 x3 s8).val
def yo:=λx2 x3 s8=>(xo x2 x3 s8).ob
def HH:=λx2 x3 s8=>Ka (bk x2 x3 s8) (yo x2 x3 s8) [0,0,1,0,1] (λq=>[(0,.S .row x2),(5,.S .row x2),(6,.I x3),(7,.I q)]) s8 GH (λ_=>(0,[(0,.S .row x2)])) nE nE
theorem cac(G:Gd wo){fr x2 x3 s8}:Ex fr (HH x2 x3 s8):=oa G [(2,[0,5,6,7,8]),(3,[0,4,5,6,7]),(4,[0,5,6,7,44]),(5,[2]),(6,[0,5,6,7])] (xo x2 x3 s8)
def RS:=λx2 x3=>lpV (λs:Int=>ca (bk x2 x3 s)) 0
def SS:=λx2 x3=>LpT (λs:Int=>ca (bk x2 x3 s)) (λs=>yo x2 x3 s) 0
def Gx:=λx2 x3=>lpS (HH x2 x3 0) (RS x2 x3) (SS x2 x3)
theorem dac(G:Gd wo){fr x2 x3}:Ex fr (Gx x2 x3):=Na (λs:Int=>HH x2 x3 s) 0 λ_=>cac G
def Hx(x1:LR):Tr Bool Unit Empty Empty Empty:=.s (Gx x1 (aa .row x1)) nE (λ_=>.l (.n ())) nE nE
def TS:=λx1=>(Hx x1).val
def US:=λx1=>(Hx x1).ob
def Ix:=λx1=>da.mk (TS x1) (US x1) [0,1] [(0,.S .row x1)] GH (λ_=>[(0,.S .row x1)]) nE nE nE
theorem eac(G:Gd wo){fr x1}:Ex fr (Ix x1):=ga G [([0,1,0,1],λe=>⟨Gx (gL .row e 0 0) (gI e 6 0)⟩)] ⟨λ_=>⟨rfl,dac G⟩,trivial⟩ [(1,[0,5,6,7])] (Hx x1)
def Jx(a0:LR):Tr Bool Empty Empty Empty Empty:=.s (Ix a0) (λ_=>.l (.r (cmp .leq (aa .row a0) 400))) nE nE nE
def IH:=λa0=>(Jx a0).val
def JH:=λa0=>(Jx a0).ob
def fac:=λa0=>da.mk (IH a0) (JH a0) [] [(0,.S .row a0)] GH nE nE nE nE
theorem gac(G:Gd wo){fr a0}:Ex fr (fac a0):=ga G [([0,1],λe=>⟨Ix (gL .row e 0 0)⟩)] ⟨λ_=>⟨rfl,eac G⟩,trivial⟩ [(0,[0]),(7,[2])] (Jx a0)
def zo(a0:LR):Bool:=ocR (IH a0)
def Ao(a0:LR):Prop:=JH a0
def Bo:Spec:=⟨[(.lst .row)],.one .fr .bool,false,λx=>(zo x.1,0),λx=>Ao x.1⟩
theorem VS(G:Gd wo):Con Tryz.prog 45 Bo:=Ba (pts:=[(.lst .row)]) (F:=F45) G λ_ _=>gac G
def Co:SP:=[(44,EH),(45,Bo)]
abbrev F16:Fnn:=⟨[.tmp 2],.one .fr .bool,none,[]⟩
abbrev LH:Bool->RV:=rvF F16
abbrev Kx:=@OkF Tryz.prog tt Tryz.f16 F16 Bool
def fk(x2:LR)(x3 s8:Int):Tr Bool Int Unit Empty Empty:=.c (cmp .lss s8 x3) (.w [inb s8 (aa .row x2)] (.w [((cmp .gtr s8 0)&&((!(cmp .eql (rd .row x2 s8).Diff 0))&&true))=true->inb (ar .sub .i64 s8 1) (aa .row x2),((cmp .gtr s8 0)&&((!(cmp .eql (rd .row x2 s8).Diff 0))&&true))=true->(Dx (rd .row x2 (ar .sub .i64 s8 1)) (rd .row x2 s8))] (.c (cond (cmp .eql (rd .row x2 s8).Diff 0) true (cond (cmp .gtr s8 0) (!(Cx (rd .row x2 (ar .sub .i64 s8 1)) (rd .row x2 s8))) false)) (.l (.r false))
 (.l (.n (ar .add .i64 s8 1))))))
 (.l (.x ()))
def li:=λx2 x3 s8=>(fk x2 x3 s8).val
def ik:=λx2 x3 s8=>(fk x2 x3 s8).ob
def MH:=λx2 x3 s8=>Ka (li x2 x3 s8) (ik x2 x3 s8) [0,0,1,0,1] (λq=>[(0,.S .row x2),(5,.S .row x2),(6,.I x3),(7,.I q)]) s8 LH (λ_=>(0,[(0,.S .row x2)])) nE nE
theorem hac(G:Gd Co){fr x2 x3 s8}:Kx fr (MH x2 x3 s8):=oa G [(2,[0,5,6,7,8]),(3,[0,3,4,5,6,7]),(4,[0,5,6,7,28]),(5,[2]),(6,[0,5,6,7])] (fk x2 x3 s8)
def WS:=λx2 x3=>lpV (λs:Int=>ca (li x2 x3 s)) 0
def XS:=λx2 x3=>LpT (λs:Int=>ca (li x2 x3 s)) (λs=>ik x2 x3 s) 0
def Lx:=λx2 x3=>lpS (MH x2 x3 0) (WS x2 x3) (XS x2 x3)
theorem iac(G:Gd Co){fr x2 x3}:Kx fr (Lx x2 x3):=Na (λs:Int=>MH x2 x3 s) 0 λ_=>hac G
def Mx(x1:LR):Tr Bool Unit Empty Empty Empty:=.s (Lx x1 (aa .row x1)) nE (λ_=>.l (.n ())) nE nE
def YS:=λx1=>(Mx x1).val
def ZS:=λx1=>(Mx x1).ob
def Nx:=λx1=>da.mk (YS x1) (ZS x1) [0,1] [(0,.S .row x1)] LH (λ_=>[(0,.S .row x1)]) nE nE nE
theorem jac(G:Gd Co){fr x1}:Kx fr (Nx x1):=ga G [([0,1,0,1],λe=>⟨Lx (gL .row e 0 0) (gI e 6 0)⟩)] ⟨λ_=>⟨rfl,iac G⟩,trivial⟩ [(1,[0,5,6,7])] (Mx x1)
def Ox(a0:LR):Tr Bool Empty Empty Empty Empty:=.s (Nx a0) (λ_=>.w [Ao a0] (.l (.r (zo a0)))) nE nE nE
def PH:=λa0=>(Ox a0).val
def QH:=λa0=>(Ox a0).ob
def kac:=λa0=>da.mk (PH a0) (QH a0) [] [(0,.S .row a0)] LH nE nE nE nE
theorem lac(G:Gd Co){fr a0}:Kx fr (kac a0):=ga G [([0,1],λe=>⟨Nx (gL .row e 0 0)⟩)] ⟨λ_=>⟨rfl,jac G⟩,trivial⟩ [(0,[0]),(7,[2])] (Ox a0)
def jk(a0:LR):Bool:=ocR (PH a0)
def nk(a0:LR):Prop:=QH a0
def Do:Spec:=⟨[(.lst .row)],.one .fr .bool,false,λx=>(jk x.1,0),λx=>nk x.1⟩
theorem mac(G:Gd Co):Con Tryz.prog 16 Do:=Ba (pts:=[(.lst .row)]) (F:=F16) G λ_ _=>lac G
def aT:SP:=[]
abbrev F72:Fnn:=⟨[.tmp 2],.one (.acc false) (.lst .row),none,[2]⟩
abbrev nac:LR->RV:=rvF F72
abbrev oac:=@OkF Tryz.prog tt Tryz.f72 F72 LR
def Px(a0:LR):Tr LR Empty Empty Empty Empty:=.w [Xp (aa .row a0) (aa .row a0)] (.l (.r (List.take (List.length (List.replicate (Int.toNat (aa .row a0)) (Row.mk 0 0 (Time.mk 0 0) 0))) a0++List.drop (List.length a0) (List.replicate (Int.toNat (aa .row a0)) (Row.mk 0 0 (Time.mk 0 0) 0)))))
def RH:=λa0=>(Px a0).val
def SH:=λa0=>(Px a0).ob
def pac:=λa0=>da.mk (RH a0) (SH a0) [] [(0,.S .row a0)] nac nE nE nE nE
theorem qac(G:Gd aT){fr a0}:oac fr (pac a0):=oa G [(0,[0]),(1,[0,3]),(2,[3]),(3,[2])] (Px a0)
def Qx(a0:LR):LR:=ocR (RH a0)
def Rx(a0:LR):Prop:=SH a0
def UH:Spec:=⟨[(.lst .row)],.one (.acc false) (.lst .row),false,λx=>(Qx x.1,0),λx=>Rx x.1⟩
theorem rac(G:Gd aT):Con Tryz.prog 72 UH:=Ba (pts:=[(.lst .row)]) (F:=F72) G λ_ _=>qac G
def bT:SP:=[]
abbrev F98:Fnn:=⟨[.tmp 6,.tmp 7,.tmp 8],.tup [(true,(.int .i64)),(true,(.int .i64)),(true,.bool)],none,[]⟩
abbrev sac:Int×Int×Bool×Unit->RV:=rvF F98
abbrev tac:=@OkF Tryz.prog tt Tryz.f98 F98 (Int×Int×Bool×Unit)
def Sx(a0 a1 a2:Int):Tr (Int×Int×Bool×Unit) Empty Empty Empty Empty:=.c (cmp .eql a2 1) (.w [(4:Int)≠0,(4:Int)≠0] (.l (.r ((ar .rem .i64 a1 4),((ar .add .i64 (ar .sub .i64 a1 (ar .rem .i64 a1 4)) a0),(true,()))))))
 (.c (cmp .eql a2 2) (.w [(100:Int)≠0] (.l (.r (a0,((ar .rem .i64 (ar .add .i64 a1 1) 100),(true,()))))))
 (.c (cmp .eql a2 3) (.w [(4:Int)≠0] (.l (.r ((ar .rem .i64 a1 4),(a1,(true,()))))))
 (.c (cmp .eql a2 4) (.l (.r (0,(a1,(true,())))))
 (.c (cmp .eql a2 5) (.w [(2:Int)≠0] (.l (.r (a0,(a1,((cmp .eql (ar .rem .i64 a1 2) 0),()))))))
 (.c (cmp .eql a2 6) (.w [(2:Int)≠0] (.l (.r (a0,(a1,((cmp .eql (ar .rem .i64 a0 2) 0),()))))))
 (.c (cmp .eql a2 7) (.l (.r (a0,(a1,((cmp .lss a1 10),())))))
 (.l (.r (0,(0,(false,())))))))))))
def VH:=λa0 a1 a2=>(Sx a0 a1 a2).val
def WH:=λa0 a1 a2=>(Sx a0 a1 a2).ob
def uac:=λa0 a1 a2=>da.mk (VH a0 a1 a2) (WH a0 a1 a2) [] [(0,.I a0),(1,.I a1),(2,.I a2)] sac nE nE nE nE
theorem vac(G:Gd bT){fr a0 a1 a2}:tac fr (uac a0 a1 a2):=oa G [(0,[0,1,2]),(1,[0,1,9]),(2,[0,1,9,10]),(3,[6,7,8]),(4,[0,1,9,20]),(5,[6,7,8]),(6,[0,1,9,26]),(7,[6,7,8]),(8,[0,1,9,31]),(9,[6,7,8]),(10,[0,1,9,34]),(11,[6,7,8]),(12,[0,1,9,41]),(13,[6,7,8]),(14,[0,1,48]),(15,[6,7,8]),(16,[6,7,8])] (Sx a0 a1 a2)
def Tx(a0:Int)(a1:Int)(a2:Int):Int×Int×Bool×Unit:=ocR (VH a0 a1 a2)
def Ux(a0:Int)(a1:Int)(a2:Int):Prop:=WH a0 a1 a2
def XH:Spec:=⟨[(.int .i64),(.int .i64),(.int .i64)],.tup [(true,(.int .i64)),(true,(.int .i64)),(true,.bool)],false,λx=>(Tx x.1 x.2.1 x.2.2.1,0),λx=>Ux x.1 x.2.1 x.2.2.1⟩
theorem wac(G:Gd bT):Con Tryz.prog 98 XH:=Ba (pts:=[(.int .i64),(.int .i64),(.int .i64)]) (F:=F98) G λ_ _=>vac G
def cT:SP:=[(78,nK),(16,Do)]
abbrev F47:Fnn:=⟨[.tmp 2,.tmp 3],.tup [(false,(.lst .row)),(true,.bool)],none,[]⟩
abbrev xac:LR×Bool×Unit->RV:=rvF F47
abbrev yac:=@OkF Tryz.prog tt Tryz.f47 F47 (LR×Bool×Unit)
def Vx(a0:LR):Tr (LR×Bool×Unit) Empty Empty Empty Empty:=.k (lK a0) λu1=>.w [mK a0] (.w [nk u1] (.c (!(jk u1)) (.l (.r ([],(false,()))))
 (.l (.r (u1,(true,()))))))
def YH:=λa0=>(Vx a0).val
def ZH:=λa0=>(Vx a0).ob
def zac:=λa0=>da.mk (YH a0) (ZH a0) [] [(0,.S .row a0)] xac nE nE nE nE
theorem Aac(G:Gd cT){fr a0}:yac fr (zac a0):=oa G [(0,[0]),(1,[4]),(2,[4,9]),(3,[2,3]),(4,[2,3])] (Vx a0)
def re(a0:LR):LR×Bool×Unit:=ocR (YH a0)
def ah(a0:LR):Prop:=ZH a0
def qk:Spec:=⟨[(.lst .row)],.tup [(false,(.lst .row)),(true,.bool)],false,λx=>(re x.1,0),λx=>ah x.1⟩
theorem Bac(G:Gd cT):Con Tryz.prog 47 qk:=Ba (pts:=[(.lst .row)]) (F:=F47) G λ_ _=>Aac G
def rk:SP:=[(98,XH),(47,qk)]
abbrev F73:Fnn:=⟨[.tmp 4,.tmp 5],.tup [(false,(.lst .row)),(true,.bool)],none,[]⟩
abbrev Wx:LR×Bool×Unit->RV:=rvF F73
abbrev Eo:=@OkF Tryz.prog tt Tryz.f73 F73 (LR×Bool×Unit)
def Xx(x22:Int)(x23 x24:LR)(_x25 x26:Int):Tr (LR×Bool×Unit) LR Empty Empty Empty:=.w [inb x26 (aa .row x24)] (.k (Tx (rd .row x24 x26).Key (rd .row x24 x26).Val x22) λu27=>.w [Ux (rd .row x24 x26).Key (rd .row x24 x26).Val x22] (.c u27.2.2.1 (.w [lim (aa .row x23) (aa .row [(Row.mk u27.1 u27.2.1 (rd .row x24 x26).At (rd .row x24 x26).Diff)])] (.l (.n (x23++[(Row.mk u27.1 u27.2.1 (rd .row x24 x26).At (rd .row x24 x26).Diff)]))))
 (.l (.n x23))))
def dT:=λx22 x23 x24 x25 x26=>(Xx x22 x23 x24 x25 x26).val
def eT:=λx22 x23 x24 x25 x26=>(Xx x22 x23 x24 x25 x26).ob
def Yx:=λx22 x23 x24 x25 x26=>da.mk (dT x22 x23 x24 x25 x26) (eT x22 x23 x24 x25 x26) [0,1,1,0,0,1,0,1,1] [(1,.I x22),(6,.A .row x23),(13,.S .row x24),(14,.I x25),(15,.I x26)] Wx (λq=>[(1,.I x22),(6,.A .row q),(13,.S .row x24),(14,.I x25),(15,.I x26)]) nE nE nE
theorem Cac(G:Gd rk){fr x22 x23 x24 x25 x26}:Eo fr (Yx x22 x23 x24 x25 x26):=oa G [(4,[1,6,8,13,14,15]),(5,[1,6,8,9,10,11,13,14,15]),(6,[1,6,8,9,10,13,14,15,29]),(7,[1,6,13,14,15])] (Xx x22 x23 x24 x25 x26)
def Fo(x3:Int)(x4:LR)(x5:Int)(s19:LR)(s20:Int):Tr (LR×Bool×Unit) (LR×Int) LR Empty Empty:=.c (cmp .lss s20 x5) (.s (Yx x3 s19 x4 x5 s20) (λq30=>.l (.n (q30,(ar .add .i64 s20 1)))) nE nE nE)
 (.l (.x s19))
def sk:=λx3 x4 x5 s19 s20=>(Fo x3 x4 x5 s19 s20).val
def Ho:=λx3 x4 x5 s19 s20=>(Fo x3 x4 x5 s19 s20).ob
def aI:=λx3 x4 x5 s19 s20=>Ka (sk x3 x4 x5 s19 s20) (Ho x3 x4 x5 s19 s20) [0,0,1,0,1,1] (λq=>[(1,.I x3),(6,.A .row q.1),(13,.S .row x4),(14,.I x5),(15,.I q.2)]) (s19,s20) Wx (λq=>(0,[(6,.A .row q)])) nE nE
theorem Dac(G:Gd rk){fr x3 x4 x5 s19 s20}:Eo fr (aI x3 x4 x5 s19 s20):=ga G [([0,1,1,0,0,1,0,1,1],λe=>⟨Yx (gI e 1 0) (gL .row e 6 0) (gL .row e 13 0) (gI e 14 0) (gI e 15 0)⟩)] ⟨λ_=>⟨rfl,Cac G⟩,trivial⟩ [(3,[1,6,13,14,15,16]),(8,[1,6,13,14,15])] (Fo x3 x4 x5 s19 s20)
def fT:=λx3 x4 x5=>lpV (λs:LR×Int=>ca (sk x3 x4 x5 s.1 s.2)) ([],0)
def gT:=λx3 x4 x5=>LpT (λs:LR×Int=>ca (sk x3 x4 x5 s.1 s.2)) (λs=>Ho x3 x4 x5 s.1 s.2) ([],0)
def Zx:=λx3 x4 x5=>lpS (aI x3 x4 x5 [] 0) (fT x3 x4 x5) (gT x3 x4 x5)
theorem Eac(G:Gd rk){fr x3 x4 x5}:Eo fr (Zx x3 x4 x5):=Na (λs:LR×Int=>aI x3 x4 x5 s.1 s.2) ([],0) λ_=>Dac G
def ay(x1:LR)(x2:Int):Tr (LR×Bool×Unit) LR Empty Empty Empty:=.s (Zx x2 x1 (aa .row x1)) nE (λq41=>.l (.n q41)) nE nE
def iT:=λx1 x2=>(ay x1 x2).val
def kT:=λx1 x2=>(ay x1 x2).ob
def cy:=λx1 x2=>da.mk (iT x1 x2) (kT x1 x2) [0,1,1] [(0,.S .row x1),(1,.I x2),(6,.A .row [])] Wx (λq=>[(6,.A .row q)]) nE nE nE
theorem Fac(G:Gd rk){fr x1 x2}:Eo fr (cy x1 x2):=ga G [([0,1,0,1,1],λe=>⟨Zx (gI e 1 0) (gL .row e 13 0) (gI e 14 0)⟩)] ⟨λ_=>⟨rfl,Eac G⟩,trivial⟩ [(2,[1,6,13,14,15])] (ay x1 x2)
def dy(a0:LR)(a1:Int):Tr (LR×Bool×Unit) Empty Empty Empty Empty:=.s (cy a0 a1) (λq44=>.w [ah q44] (.l (.r ((re q44).1,((re q44).2.1,()))))) nE nE nE
def bI:=λa0 a1=>(dy a0 a1).val
def cI:=λa0 a1=>(dy a0 a1).ob
def Gac:=λa0 a1=>da.mk (bI a0 a1) (cI a0 a1) [] [(0,.S .row a0),(1,.I a1)] Wx nE nE nE nE
theorem Hac(G:Gd rk){fr a0 a1}:Eo fr (Gac a0 a1):=ga G [([0,1,1],λe=>⟨cy (gL .row e 0 0) (gI e 1 0)⟩)] ⟨λ_=>⟨rfl,Fac G⟩,trivial⟩ [(0,[0,1]),(1,[0,1,6]),(9,[4,5])] (dy a0 a1)
def ey(a0:LR)(a1:Int):LR×Bool×Unit:=ocR (bI a0 a1)
def fy(a0:LR)(a1:Int):Prop:=cI a0 a1
def fI:Spec:=⟨[(.lst .row),(.int .i64)],.tup [(false,(.lst .row)),(true,.bool)],false,λx=>(ey x.1 x.2.1,0),λx=>fy x.1 x.2.1⟩
theorem Iac(G:Gd rk):Con Tryz.prog 73 fI:=Ba (pts:=[(.lst .row),(.int .i64)]) (F:=F73) G λ_ _=>Hac G
def lT:SP:=[]
abbrev F54:Fnn:=⟨[.tmp 4],.one (.acc false) (.lst .row),none,[]⟩
abbrev Jac:LR->RV:=rvF F54
abbrev Kac:=@OkF Tryz.prog tt Tryz.f54 F54 LR
def iy(a0 a1:LR):Tr LR Empty Empty Empty Empty:=.w [lim (aa .row []) (aa .row a0),lim (aa .row ([]++a0)) (aa .row a1)] (.l (.r (([]++a0)++a1)))
def iI:=λa0 a1=>(iy a0 a1).val
def jI:=λa0 a1=>(iy a0 a1).ob
def Lac:=λa0 a1=>da.mk (iI a0 a1) (jI a0 a1) [] [(0,.S .row a0),(1,.S .row a1)] Jac nE nE nE nE
theorem Mac(G:Gd lT){fr a0 a1}:Kac fr (Lac a0 a1):=oa G [(0,[0,1]),(1,[4])] (iy a0 a1)
def jy(a0:LR)(a1:LR):LR:=ocR (iI a0 a1)
def ly(a0:LR)(a1:LR):Prop:=jI a0 a1
def lI:Spec:=⟨[(.lst .row),(.lst .row)],.one (.acc false) (.lst .row),false,λx=>(jy x.1 x.2.1,0),λx=>ly x.1 x.2.1⟩
theorem Nac(G:Gd lT):Con Tryz.prog 54 lI:=Ba (pts:=[(.lst .row),(.lst .row)]) (F:=F54) G λ_ _=>Mac G
def Io:SP:=[]
abbrev F48:Fnn:=⟨[.tmp 2],.one (.acc false) (.lst .row),none,[2]⟩
abbrev mI:LR->RV:=rvF F48
abbrev my:=@OkF Tryz.prog tt Tryz.f48 F48 LR
def Jo(_x2:LR)(x3:Int)(s7:LR)(s8:Int):Tr LR (LR×Int) LR Empty Empty:=.c (cmp .lss s8 x3) (.w [inb s8 (aa .row s7),inb s8 (aa .row s7),inb s8 (aa .row s7)] (.l (.n ((List.set s7 (Int.toNat s8) (Row.mk (rd .row s7 s8).Key (rd .row s7 s8).Val (rd .row s7 s8).At (IntKind.wrap .i64 (0 - (rd .row s7 s8).Diff)))),(ar .add .i64 s8 1)))))
 (.l (.x s7))
def tk:=λx2 x3 s7 s8=>(Jo x2 x3 s7 s8).val
def Ko:=λx2 x3 s7 s8=>(Jo x2 x3 s7 s8).ob
def nI:=λx2 x3 s7 s8=>Ka (tk x2 x3 s7 s8) (Ko x2 x3 s7 s8) [0,0,1,0,1,1] (λq=>[(3,.v (.own false) (.lst .row q.1)),(9,.I x3),(10,.I q.2)]) (s7,s8) mI (λq=>(0,[(3,.v (.own false) (.lst .row q))])) nE nE
theorem Oac(G:Gd Io){fr x2 x3 s7 s8}:my fr (nI x2 x3 s7 s8):=oa G [(3,[3,9,10,11]),(4,[3,4,9,10]),(5,[3,9,10]),(6,[3,9,10])] (Jo x2 x3 s7 s8)
def mT:=λx2 x3=>lpV (λs:LR×Int=>ca (tk x2 x3 s.1 s.2)) (x2,0)
def nT:=λx2 x3=>LpT (λs:LR×Int=>ca (tk x2 x3 s.1 s.2)) (λs=>Ko x2 x3 s.1 s.2) (x2,0)
def ny:=λx2 x3=>lpS (nI x2 x3 x2 0) (mT x2 x3) (nT x2 x3)
theorem Pac(G:Gd Io){fr x2 x3}:my fr (ny x2 x3):=Na (λs:LR×Int=>nI x2 x3 s.1 s.2) (x2,0) λ_=>Oac G
def qy(x1:LR):Tr LR LR Empty Empty Empty:=.s (ny x1 (aa .row x1)) nE (λq17=>.l (.n q17)) nE nE
def oT:=λx1=>(qy x1).val
def pT:=λx1=>(qy x1).ob
def ry:=λx1=>da.mk (oT x1) (pT x1) [0,1,1] [(3,.v (.acc false) (.lst .row x1))] mI (λq=>[(3,.v (.own false) (.lst .row q))]) nE nE nE
theorem Qac(G:Gd Io){fr x1}:my fr (ry x1):=FC G [([0,1,0,1,1],λe=>⟨ny (gL .row e 3 0) (gI e 9 0)⟩)] ⟨λ_=>⟨rfl,Pac G⟩,trivial⟩ [(2,[3,9,10])] [(2,3)] [] (qy x1) rfl rfl (by kernel_rfl)
def sy(a0:LR):Tr LR Empty Empty Empty Empty:=.w [lim (aa .row []) (aa .row a0)] (.s (ry ([]++a0)) (λq20=>.l (.r q20)) nE nE nE)
def oI:=λa0=>(sy a0).val
def pI:=λa0=>(sy a0).ob
def Rac:=λa0=>da.mk (oI a0) (pI a0) [] [(0,.S .row a0)] mI nE nE nE nE
theorem Sac(G:Gd Io){fr a0}:my fr (Rac a0):=ga G [([0,1,1],λe=>⟨ry (gL .row e 3 0)⟩)] ⟨λ_=>⟨rfl,Qac G⟩,trivial⟩ [(0,[0]),(1,[3]),(7,[2])] (sy a0)
def uy(a0:LR):LR:=ocR (oI a0)
def wy(a0:LR):Prop:=pI a0
def qI:Spec:=⟨[(.lst .row)],.one (.acc false) (.lst .row),false,λx=>(uy x.1,0),λx=>wy x.1⟩
theorem Tac(G:Gd Io):Con Tryz.prog 48 qI:=Ba (pts:=[(.lst .row)]) (F:=F48) G λ_ _=>Sac G
def qT:SP:=[]
abbrev F99:Fnn:=⟨[.tmp 4],.one .fr (.int .i64),none,[]⟩
abbrev Uac:Int->RV:=rvF F99
abbrev Vac:=@OkF Tryz.prog tt Tryz.f99 F99 Int
def rI(a0 a1:Int):Tr Int Empty Empty Empty Empty:=.w [(100:Int)≠0] (.l (.r (ar .rem .i64 (ar .add .i64 (ar .mul .i64 10 a0) a1) 100)))
def rT:=λa0 a1=>(rI a0 a1).val
def sT:=λa0 a1=>(rI a0 a1).ob
def Wac:=λa0 a1=>da.mk (rT a0 a1) (sT a0 a1) [] [(0,.I a0),(1,.I a1)] Uac nE nE nE nE
theorem Xac(G:Gd qT){fr a0 a1}:Vac fr (Wac a0 a1):=oa G [(0,[0,1]),(1,[4])] (rI a0 a1)
def sI(a0:Int)(a1:Int):Int:=ocR (rT a0 a1)
def tI(a0:Int)(a1:Int):Prop:=sT a0 a1
def uI:Spec:=⟨[(.int .i64),(.int .i64)],.one .fr (.int .i64),false,λx=>(sI x.1 x.2.1,0),λx=>tI x.1 x.2.1⟩
theorem Yac(G:Gd qT):Con Tryz.prog 99 uI:=Ba (pts:=[(.int .i64),(.int .i64)]) (F:=F99) G λ_ _=>Xac G
def tT:SP:=[(49,vo)]
abbrev F25:Fnn:=⟨[.cell 4 38],.one .fr (.st .time),none,[]⟩
abbrev Zac:Time->RV:=rvF F25
abbrev aad:=@OkF Tryz.prog tt Tryz.f25 F25 Time
def xy(a0 a1:Time):Tr Time Empty Empty Empty Empty:=.w [ji a0,((!(!(Hf a0)))&&true)=true->(ji a1)] (.c (cond (!(Hf a0)) true (!(Hf a1))) (.l (.r (Time.mk 0 0)))
 (.l (.r (Time.mk (mx a0.A a1.A) (mx a0.B a1.B)))))
def vI:=λa0 a1=>(xy a0 a1).val
def wI:=λa0 a1=>(xy a0 a1).ob
def cad:=λa0 a1=>da.mk (vI a0 a1) (wI a0 a1) [] [(0,.agg true [.i a0.A,.i a0.B]),(1,.agg true [.i a1.A,.i a1.B])] Zac nE nE nE nE
theorem dad(G:Gd tT){fr a0 a1}:aad fr (cad a0 a1):=oa G [(0,[2,3,4]),(1,[2,3,4,12]),(2,[4]),(3,[4])] (xy a0 a1)
def mi(a0:Time)(a1:Time):Time:=ocR (vI a0 a1)
def ni(a0:Time)(a1:Time):Prop:=wI a0 a1
def Lo:Spec:=⟨[(.st .time),(.st .time)],.one .fr (.st .time),false,λx=>(mi x.1 x.2.1,0),λx=>ni x.1 x.2.1⟩
theorem uT(G:Gd tT):Con Tryz.prog 25 Lo:=Ba (pts:=[(.st .time),(.st .time)]) (F:=F25) G λ_ _=>dad G
def og:SP:=[(99,uI),(25,Lo),(47,qk)]
abbrev F74:Fnn:=⟨[.tmp 4,.tmp 5],.tup [(false,(.lst .row)),(true,.bool)],none,[]⟩
abbrev uk:LR×Bool×Unit->RV:=rvF F74
abbrev bh:=@OkF Tryz.prog tt Tryz.f74 F74 (LR×Bool×Unit)
def zy(x101 x102:LR)(x103:Row)(_x104:LR)(_x105 _x106 _x107 x108:Int):Tr (LR×Bool×Unit) LR Empty Empty Empty:=.w [inb x108 (aa .row x101)] (.c (cmp .eql x103.Key (rd .row x101 x108).Key) (.k (sI x103.Val (rd .row x101 x108).Val) λu110=>.k (mi x103.At (rd .row x101 x108).At) λu111=>.w [tI x103.Val (rd .row x101 x108).Val,ni x103.At (rd .row x101 x108).At,lim (aa .row x102) (aa .row [(Row.mk x103.Key u110 u111 (ar .mul .i64 x103.Diff (rd .row x101 x108).Diff))])] (.l (.n (x102++[(Row.mk x103.Key u110 u111 (ar .mul .i64 x103.Diff (rd .row x101 x108).Diff))]))))
 (.l (.n x102)))
def vT:=λx101 x102 x103 x104 x105 x106 x107 x108=>(zy x101 x102 x103 x104 x105 x106 x107 x108).val
def wT:=λx101 x102 x103 x104 x105 x106 x107 x108=>(zy x101 x102 x103 x104 x105 x106 x107 x108).ob
def Ay:=λx101 x102 x103 x104 x105 x106 x107 x108=>da.mk (vT x101 x102 x103 x104 x105 x106 x107 x108) (wT x101 x102 x103 x104 x105 x106 x107 x108) [0,1,1,0,0,1,1,0,0,1,1,0,0,1,0,1,1] [(1,.S .row x101),(6,.A .row x102),(8,.B [x103.Key,x103.Val,x103.At.A,x103.At.B,x103.Diff]),(12,.S .row x104),(13,.I x105),(14,.I x106),(18,.S .row x101),(19,.I x107),(20,.I x108)] uk (λq=>[(1,.S .row x101),(6,.A .row q),(8,.B [x103.Key,x103.Val,x103.At.A,x103.At.B,x103.Diff]),(12,.S .row x104),(13,.I x105),(14,.I x106),(18,.S .row x101),(19,.I x107),(20,.I x108)]) nE nE nE
theorem ead(G:Gd og){fr x101 x102 x103 x104 x105 x106 x107 x108}:bh fr (Ay x101 x102 x103 x104 x105 x106 x107 x108):=oa G [(7,[1,6,8,10,12,13,14,18,19,20]),(8,[1,6,8,10,12,13,14,18,19,20,28]),(9,[1,6,8,12,13,14,18,19,20])] (zy x101 x102 x103 x104 x105 x106 x107 x108)
def Mo(x73 _x74:LR)(x75:Row)(x76:LR)(x77 x78 x79:Int)(s98:LR)(s99:Int):Tr (LR×Bool×Unit) (LR×Int) LR Empty Empty:=.c (cmp .lss s99 x79) (.s (Ay x73 s98 x75 x76 x77 x78 x79 s99) (λq113=>.l (.n (q113,(ar .add .i64 s99 1)))) nE nE nE)
 (.l (.x s98))
def vk:=λx73 x74 x75 x76 x77 x78 x79 s98 s99=>(Mo x73 x74 x75 x76 x77 x78 x79 s98 s99).val
def Oo:=λx73 x74 x75 x76 x77 x78 x79 s98 s99=>(Mo x73 x74 x75 x76 x77 x78 x79 s98 s99).ob
def xI:=λx73 x74 x75 x76 x77 x78 x79 s98 s99=>Ka (vk x73 x74 x75 x76 x77 x78 x79 s98 s99) (Oo x73 x74 x75 x76 x77 x78 x79 s98 s99) [0,0,1,1,0,0,1,1,0,0,1,0,1,1] (λq=>[(1,.S .row x73),(6,.A .row q.1),(8,.B [x75.Key,x75.Val,x75.At.A,x75.At.B,x75.Diff]),(12,.S .row x76),(13,.I x77),(14,.I x78),(18,.S .row x73),(19,.I x79),(20,.I q.2)]) (s98,s99) uk (λq=>(2,[(1,.S .row x73),(6,.A .row q),(12,.S .row x76),(13,.I x77),(14,.I x78)])) nE nE
theorem fad(G:Gd og){fr x73 x74 x75 x76 x77 x78 x79 s98 s99}:bh fr (xI x73 x74 x75 x76 x77 x78 x79 s98 s99):=ga G [([0,1,1,0,0,1,1,0,0,1,1,0,0,1,0,1,1],λe=>⟨Ay (gL .row e 1 0) (gL .row e 6 0) (gRow e 8) (gL .row e 12 0) (gI e 13 0) (gI e 14 0) (gI e 19 0) (gI e 20 0)⟩)] ⟨λ_=>⟨rfl,ead G⟩,trivial⟩ [(6,[1,6,8,12,13,14,18,19,20,21]),(10,[1,6,8,12,13,14,18,19,20])] (Mo x73 x74 x75 x76 x77 x78 x79 s98 s99)
def xT:=λx73 x74 x75 x76 x77 x78 x79=>lpV (λs:LR×Int=>ca (vk x73 x74 x75 x76 x77 x78 x79 s.1 s.2)) (x74,0)
def yT:=λx73 x74 x75 x76 x77 x78 x79=>LpT (λs:LR×Int=>ca (vk x73 x74 x75 x76 x77 x78 x79 s.1 s.2)) (λs=>Oo x73 x74 x75 x76 x77 x78 x79 s.1 s.2) (x74,0)
def By:=λx73 x74 x75 x76 x77 x78 x79=>lpS (xI x73 x74 x75 x76 x77 x78 x79 x74 0) (xT x73 x74 x75 x76 x77 x78 x79) (yT x73 x74 x75 x76 x77 x78 x79)
theorem gad(G:Gd og){fr x73 x74 x75 x76 x77 x78 x79}:bh fr (By x73 x74 x75 x76 x77 x78 x79):=Na (λs:LR×Int=>xI x73 x74 x75 x76 x77 x78 x79 s.1 s.2) (x74,0) λ_=>fad G
def Cy(x68 x69 x70:LR)(x71 x72:Int):Tr (LR×Bool×Unit) LR Empty Empty Empty:=.w [inb x72 (aa .row x70)] (.s (By x68 x69 (rd .row x70 x72) x70 x71 x72 (aa .row x68)) nE (λq124=>.l (.n q124)) nE nE)
def zT:=λx68 x69 x70 x71 x72=>(Cy x68 x69 x70 x71 x72).val
def AT:=λx68 x69 x70 x71 x72=>(Cy x68 x69 x70 x71 x72).ob
def Dy:=λx68 x69 x70 x71 x72=>da.mk (zT x68 x69 x70 x71 x72) (AT x68 x69 x70 x71 x72) [0,1,1,0,0,1,0,1,1] [(1,.S .row x68),(6,.A .row x69),(12,.S .row x70),(13,.I x71),(14,.I x72)] uk (λq=>[(1,.S .row x68),(6,.A .row q),(12,.S .row x70),(13,.I x71),(14,.I x72)]) nE nE nE
theorem iad(G:Gd og){fr x68 x69 x70 x71 x72}:bh fr (Dy x68 x69 x70 x71 x72):=ga G [([0,1,1,0,0,1,1,0,0,1,0,1,1],λe=>⟨By (gL .row e 1 0) (gL .row e 6 0) (gRow e 8) (gL .row e 12 0) (gI e 13 0) (gI e 14 0) (gI e 19 0)⟩)] ⟨λ_=>⟨rfl,gad G⟩,trivial⟩ [(4,[1,6,8,12,13,14]),(5,[1,6,8,12,13,14,18,19,20])] (Cy x68 x69 x70 x71 x72)
def Po(x3 x4:LR)(x5:Int)(s65:LR)(s66:Int):Tr (LR×Bool×Unit) (LR×Int) LR Empty Empty:=.c (cmp .lss s66 x5) (.s (Dy x3 s65 x4 x5 s66) (λq127=>.l (.n (q127,(ar .add .i64 s66 1)))) nE nE nE)
 (.l (.x s65))
def wk:=λx3 x4 x5 s65 s66=>(Po x3 x4 x5 s65 s66).val
def Qo:=λx3 x4 x5 s65 s66=>(Po x3 x4 x5 s65 s66).ob
def yI:=λx3 x4 x5 s65 s66=>Ka (wk x3 x4 x5 s65 s66) (Qo x3 x4 x5 s65 s66) [0,0,1,0,1,1] (λq=>[(1,.S .row x3),(6,.A .row q.1),(12,.S .row x4),(13,.I x5),(14,.I q.2)]) (s65,s66) uk (λq=>(0,[(6,.A .row q)])) nE nE
theorem jad(G:Gd og){fr x3 x4 x5 s65 s66}:bh fr (yI x3 x4 x5 s65 s66):=ga G [([0,1,1,0,0,1,0,1,1],λe=>⟨Dy (gL .row e 1 0) (gL .row e 6 0) (gL .row e 12 0) (gI e 13 0) (gI e 14 0)⟩)] ⟨λ_=>⟨rfl,iad G⟩,trivial⟩ [(3,[1,6,12,13,14,15]),(11,[1,6,12,13,14])] (Po x3 x4 x5 s65 s66)
def BT:=λx3 x4 x5=>lpV (λs:LR×Int=>ca (wk x3 x4 x5 s.1 s.2)) ([],0)
def CT:=λx3 x4 x5=>LpT (λs:LR×Int=>ca (wk x3 x4 x5 s.1 s.2)) (λs=>Qo x3 x4 x5 s.1 s.2) ([],0)
def Ey:=λx3 x4 x5=>lpS (yI x3 x4 x5 [] 0) (BT x3 x4 x5) (CT x3 x4 x5)
theorem kad(G:Gd og){fr x3 x4 x5}:bh fr (Ey x3 x4 x5):=Na (λs:LR×Int=>yI x3 x4 x5 s.1 s.2) ([],0) λ_=>jad G
def Fy(x1 x2:LR):Tr (LR×Bool×Unit) LR Empty Empty Empty:=.s (Ey x2 x1 (aa .row x1)) nE (λq138=>.l (.n q138)) nE nE
def DT:=λx1 x2=>(Fy x1 x2).val
def ET:=λx1 x2=>(Fy x1 x2).ob
def Gy:=λx1 x2=>da.mk (DT x1 x2) (ET x1 x2) [0,1,1] [(0,.S .row x1),(1,.S .row x2),(6,.A .row [])] uk (λq=>[(6,.A .row q)]) nE nE nE
theorem lad(G:Gd og){fr x1 x2}:bh fr (Gy x1 x2):=ga G [([0,1,0,1,1],λe=>⟨Ey (gL .row e 1 0) (gL .row e 12 0) (gI e 13 0)⟩)] ⟨λ_=>⟨rfl,kad G⟩,trivial⟩ [(2,[1,6,12,13,14])] (Fy x1 x2)
def Hy(a0 a1:LR):Tr (LR×Bool×Unit) Empty Empty Empty Empty:=.s (Gy a0 a1) (λq141=>.w [ah q141] (.l (.r ((re q141).1,((re q141).2.1,()))))) nE nE nE
def zI:=λa0 a1=>(Hy a0 a1).val
def AI:=λa0 a1=>(Hy a0 a1).ob
def mad:=λa0 a1=>da.mk (zI a0 a1) (AI a0 a1) [] [(0,.S .row a0),(1,.S .row a1)] uk nE nE nE nE
theorem nad(G:Gd og){fr a0 a1}:bh fr (mad a0 a1):=ga G [([0,1,1],λe=>⟨Gy (gL .row e 0 0) (gL .row e 1 0)⟩)] ⟨λ_=>⟨rfl,lad G⟩,trivial⟩ [(0,[0,1]),(1,[0,1,6]),(12,[4,5])] (Hy a0 a1)
def Iy(a0:LR)(a1:LR):LR×Bool×Unit:=ocR (zI a0 a1)
def Jy(a0:LR)(a1:LR):Prop:=AI a0 a1
def BI:Spec:=⟨[(.lst .row),(.lst .row)],.tup [(false,(.lst .row)),(true,.bool)],false,λx=>(Iy x.1 x.2.1,0),λx=>Jy x.1 x.2.1⟩
theorem oad(G:Gd og):Con Tryz.prog 74 BI:=Ba (pts:=[(.lst .row),(.lst .row)]) (F:=F74) G λ_ _=>nad G
def GT:SP:=[]
abbrev F55:Fnn:=⟨[.tmp 4],.one .fr .bool,none,[]⟩
abbrev pad:Bool->RV:=rvF F55
abbrev qad:=@OkF Tryz.prog tt Tryz.f55 F55 Bool
def CI(a0 a1:Time):Tr Bool Empty Empty Empty Empty:=.l (.r (cond (cmp .leq a0.A a1.A) (cmp .leq a0.B a1.B) false))
def HT:=λa0 a1=>(CI a0 a1).val
def IT:=λa0 a1=>(CI a0 a1).ob
def rad:=λa0 a1=>da.mk (HT a0 a1) (IT a0 a1) [] [(0,.agg true [.i a0.A,.i a0.B]),(1,.agg true [.i a1.A,.i a1.B])] pad nE nE nE nE
theorem sad(G:Gd GT){fr a0 a1}:qad fr (rad a0 a1):=oa G [(0,[2,3]),(1,[4])] (CI a0 a1)
def DI(a0:Time)(a1:Time):Bool:=ocR (HT a0 a1)
def FI(a0:Time)(a1:Time):Prop:=IT a0 a1
def GI:Spec:=⟨[(.st .time),(.st .time)],.one .fr .bool,false,λx=>(DI x.1 x.2.1,0),λx=>FI x.1 x.2.1⟩
theorem tad(G:Gd GT):Con Tryz.prog 55 GI:=Ba (pts:=[(.st .time),(.st .time)]) (F:=F55) G λ_ _=>sad G
def xk:SP:=[(55,GI),(79,fD)]
abbrev F50:Fnn:=⟨[.tmp 4],.one .fr (.lst .item),none,[]⟩
abbrev Ky:LI->RV:=rvF F50
abbrev Ro:=@OkF Tryz.prog tt Tryz.f50 F50 LI
def Ly(x22:Time)(x23:LI)(x24:LR)(_x25 x26:Int):Tr LI LI Empty Empty Empty:=.w [inb x26 (aa .row x24)] (.w [FI (rd .row x24 x26).At x22] (.c (DI (rd .row x24 x26).At x22) (.w [lim (aa .item x23) (aa .item [(Item.mk (rd .row x24 x26).Key (rd .row x24 x26).Val (rd .row x24 x26).Diff)])] (.l (.n (x23++[(Item.mk (rd .row x24 x26).Key (rd .row x24 x26).Val (rd .row x24 x26).Diff)]))))
 (.l (.n x23))))
def JT:=λx22 x23 x24 x25 x26=>(Ly x22 x23 x24 x25 x26).val
def MT:=λx22 x23 x24 x25 x26=>(Ly x22 x23 x24 x25 x26).ob
def My:=λx22 x23 x24 x25 x26=>da.mk (JT x22 x23 x24 x25 x26) (MT x22 x23 x24 x25 x26) [0,1,1,0,0,1,0,1,1] [(3,.B [x22.A,x22.B]),(5,.A .item x23),(9,.S .row x24),(10,.I x25),(11,.I x26)] Ky (λq=>[(3,.B [x22.A,x22.B]),(5,.A .item q),(9,.S .row x24),(10,.I x25),(11,.I x26)]) nE nE nE
theorem uad(G:Gd xk){fr x22 x23 x24 x25 x26}:Ro fr (My x22 x23 x24 x25 x26):=oa G [(4,[3,5,7,9,10,11]),(5,[3,5,7,9,10,11,18]),(6,[3,5,9,10,11])] (Ly x22 x23 x24 x25 x26)
def So(x3:Time)(x4:LR)(x5:Int)(s19:LI)(s20:Int):Tr LI (LI×Int) LI Empty Empty:=.c (cmp .lss s20 x5) (.s (My x3 s19 x4 x5 s20) (λq30=>.l (.n (q30,(ar .add .i64 s20 1)))) nE nE nE)
 (.l (.x s19))
def yk:=λx3 x4 x5 s19 s20=>(So x3 x4 x5 s19 s20).val
def To:=λx3 x4 x5 s19 s20=>(So x3 x4 x5 s19 s20).ob
def II:=λx3 x4 x5 s19 s20=>Ka (yk x3 x4 x5 s19 s20) (To x3 x4 x5 s19 s20) [0,0,1,0,1,1] (λq=>[(3,.B [x3.A,x3.B]),(5,.A .item q.1),(9,.S .row x4),(10,.I x5),(11,.I q.2)]) (s19,s20) Ky (λq=>(0,[(5,.A .item q)])) nE nE
theorem vad(G:Gd xk){fr x3 x4 x5 s19 s20}:Ro fr (II x3 x4 x5 s19 s20):=ga G [([0,1,1,0,0,1,0,1,1],λe=>⟨My (Kd e 3) (gL .item e 5 0) (gL .row e 9 0) (gI e 10 0) (gI e 11 0)⟩)] ⟨λ_=>⟨rfl,uad G⟩,trivial⟩ [(3,[3,5,9,10,11,12]),(7,[3,5,9,10,11])] (So x3 x4 x5 s19 s20)
def NT:=λx3 x4 x5=>lpV (λs:LI×Int=>ca (yk x3 x4 x5 s.1 s.2)) ([],0)
def QT:=λx3 x4 x5=>LpT (λs:LI×Int=>ca (yk x3 x4 x5 s.1 s.2)) (λs=>To x3 x4 x5 s.1 s.2) ([],0)
def Ny:=λx3 x4 x5=>lpS (II x3 x4 x5 [] 0) (NT x3 x4 x5) (QT x3 x4 x5)
theorem wad(G:Gd xk){fr x3 x4 x5}:Ro fr (Ny x3 x4 x5):=Na (λs:LI×Int=>II x3 x4 x5 s.1 s.2) ([],0) λ_=>vad G
def Oy(x1:LR)(x2:Time):Tr LI LI Empty Empty Empty:=.s (Ny x2 x1 (aa .row x1)) nE (λq41=>.l (.n q41)) nE nE
def ST:=λx1 x2=>(Oy x1 x2).val
def UT:=λx1 x2=>(Oy x1 x2).ob
def Py:=λx1 x2=>da.mk (ST x1 x2) (UT x1 x2) [0,1,1] [(0,.S .row x1),(3,.B [x2.A,x2.B]),(5,.A .item [])] Ky (λq=>[(5,.A .item q)]) nE nE nE
theorem xad(G:Gd xk){fr x1 x2}:Ro fr (Py x1 x2):=ga G [([0,1,0,1,1],λe=>⟨Ny (Kd e 3) (gL .row e 9 0) (gI e 10 0)⟩)] ⟨λ_=>⟨rfl,wad G⟩,trivial⟩ [(2,[3,5,9,10,11])] (Oy x1 x2)
def Qy(a0:LR)(a1:Time):Tr LI Empty Empty Empty Empty:=.s (Py a0 a1) (λq44=>.w [Kl q44] (.l (.r (nr q44)))) nE nE nE
def JI:=λa0 a1=>(Qy a0 a1).val
def MI:=λa0 a1=>(Qy a0 a1).ob
def yad:=λa0 a1=>da.mk (JI a0 a1) (MI a0 a1) [] [(0,.S .row a0),(1,.agg true [.i a1.A,.i a1.B])] Ky nE nE nE nE
theorem zad(G:Gd xk){fr a0 a1}:Ro fr (yad a0 a1):=ga G [([0,1,1],λe=>⟨Py (gL .row e 0 0) (Kd e 3)⟩)] ⟨λ_=>⟨rfl,xad G⟩,trivial⟩ [(0,[0,3]),(1,[0,3,5]),(8,[4])] (Qy a0 a1)
def Uo(a0:LR)(a1:Time):LI:=ocR (JI a0 a1)
def Vo(a0:LR)(a1:Time):Prop:=MI a0 a1
def PI:Spec:=⟨[(.lst .row),(.st .time)],.one .fr (.lst .item),false,λx=>(Uo x.1 x.2.1,0),λx=>Vo x.1 x.2.1⟩
theorem Aad(G:Gd xk):Con Tryz.prog 50 PI:=Ba (pts:=[(.lst .row),(.st .time)]) (F:=F50) G λ_ _=>zad G
def If:SP:=[]
abbrev QI:Fnn:=⟨[.tmp 2],.one (.acc true) (.lst .item),none,[]⟩
abbrev oi:LI->RV:=rvF QI
abbrev pg:=@OkF Tryz.prog tt Tryz.f105 QI LI
def Ry(x83 _x84:LI)(x85 x86 _x87 x88:Int):Tr LI Int Empty Empty Empty:=.w [inb x88 (aa .item x83)] (.c (cmp .eql (rd .item x83 x88).Key x85) (.l (.n (ar .add .i64 x86 (rd .item x83 x88).Count)))
 (.l (.n x86)))
def VT:=λx83 x84 x85 x86 x87 x88=>(Ry x83 x84 x85 x86 x87 x88).val
def WT:=λx83 x84 x85 x86 x87 x88=>(Ry x83 x84 x85 x86 x87 x88).ob
def Sy:=λx83 x84 x85 x86 x87 x88=>da.mk (VT x83 x84 x85 x86 x87 x88) (WT x83 x84 x85 x86 x87 x88) [0,1,1,0,0,1,0,1,0,0,1,0,0,1,0,1,1] [(0,.S .item x83),(3,.A .item x84),(4,.I x85),(5,.I x86),(13,.S .item x83),(14,.I x87),(15,.I x88)] oi (λq=>[(0,.S .item x83),(3,.A .item x84),(4,.I x85),(5,.I q),(13,.S .item x83),(14,.I x87),(15,.I x88)]) nE nE nE
theorem Bad(G:Gd If){fr x83 x84 x85 x86 x87 x88}:pg fr (Sy x83 x84 x85 x86 x87 x88):=oa G [(8,[0,3,4,5,7,13,14,15]),(9,[0,3,4,5,7,13,14,15,22]),(10,[0,3,4,5,13,14,15])] (Ry x83 x84 x85 x86 x87 x88)
def Wo(x63 x64:LI)(x65 x66 s80 s81:Int):Tr LI (Int×Int) Int Empty Empty:=.c (cmp .lss s81 x66) (.s (Sy x63 x64 x65 s80 x66 s81) (λq91=>.l (.n (q91,(ar .add .i64 s81 1)))) nE nE nE)
 (.l (.x s80))
def zk:=λx63 x64 x65 x66 s80 s81=>(Wo x63 x64 x65 x66 s80 s81).val
def Xo:=λx63 x64 x65 x66 s80 s81=>(Wo x63 x64 x65 x66 s80 s81).ob
def RI:=λx63 x64 x65 x66 s80 s81=>Ka (zk x63 x64 x65 x66 s80 s81) (Xo x63 x64 x65 x66 s80 s81) [0,0,1,0,1,0,0,1,0,0,1,0,1,1] (λq=>[(0,.S .item x63),(3,.A .item x64),(4,.I x65),(5,.I q.1),(13,.S .item x63),(14,.I x66),(15,.I q.2)]) (s80,s81) oi (λq=>(2,[(0,.S .item x63),(3,.A .item x64),(4,.I x65),(5,.I q)])) nE nE
theorem Cad(G:Gd If){fr x63 x64 x65 x66 s80 s81}:pg fr (RI x63 x64 x65 x66 s80 s81):=ga G [([0,1,1,0,0,1,0,1,0,0,1,0,0,1,0,1,1],λe=>⟨Sy (gL .item e 0 0) (gL .item e 3 0) (gI e 4 0) (gI e 5 0) (gI e 14 0) (gI e 15 0)⟩)] ⟨λ_=>⟨rfl,Bad G⟩,trivial⟩ [(7,[0,3,4,5,13,14,15,16]),(11,[0,3,4,5,13,14,15])] (Wo x63 x64 x65 x66 s80 s81)
def XT:=λx63 x64 x65 x66=>lpV (λs:Int×Int=>ca (zk x63 x64 x65 x66 s.1 s.2)) (0,0)
def YT:=λx63 x64 x65 x66=>LpT (λs:Int×Int=>ca (zk x63 x64 x65 x66 s.1 s.2)) (λs=>Xo x63 x64 x65 x66 s.1 s.2) (0,0)
def Uy:=λx63 x64 x65 x66=>lpS (RI x63 x64 x65 x66 0 0) (XT x63 x64 x65 x66) (YT x63 x64 x65 x66)
theorem Dad(G:Gd If){fr x63 x64 x65 x66}:pg fr (Uy x63 x64 x65 x66):=Na (λs:Int×Int=>RI x63 x64 x65 x66 s.1 s.2) (0,0) λ_=>Cad G
def Vy(x60 x61:LI)(x62:Int):Tr LI Int Empty Empty Empty:=.s (Uy x60 x61 x62 (aa .item x60)) nE (λq102=>.l (.n q102)) nE nE
def ZT:=λx60 x61 x62=>(Vy x60 x61 x62).val
def aU:=λx60 x61 x62=>(Vy x60 x61 x62).ob
def Wy:=λx60 x61 x62=>da.mk (ZT x60 x61 x62) (aU x60 x61 x62) [0,1,0,0,1,0,0,1,0,1,1] [(0,.S .item x60),(3,.A .item x61),(4,.I x62),(5,.I 0)] oi (λq=>[(0,.S .item x60),(3,.A .item x61),(4,.I x62),(5,.I q)]) nE nE nE
theorem Ead(G:Gd If){fr x60 x61 x62}:pg fr (Wy x60 x61 x62):=ga G [([0,1,0,1,0,0,1,0,0,1,0,1,1],λe=>⟨Uy (gL .item e 0 0) (gL .item e 3 0) (gI e 4 0) (gI e 14 0)⟩)] ⟨λ_=>⟨rfl,Dad G⟩,trivial⟩ [(6,[0,3,4,5,13,14,15])] (Vy x60 x61 x62)
def Xy(x57 x58:LI)(x59:Int):Tr LI LI Empty Empty Empty:=.s (Wy x57 x58 x59) (λq105=>.c (cmp .neq q105 0) (.w [(100:Int)≠0,(100:Int)≠0,lim (aa .item x58) (aa .item [(Item.mk x59 (ar .rem .i64 (ar .add .i64 (ar .rem .i64 q105 100) 100) 100) 1)])] (.l (.n (x58++[(Item.mk x59 (ar .rem .i64 (ar .add .i64 (ar .rem .i64 q105 100) 100) 100) 1)]))))
 (.l (.n x58))) nE nE nE
def bU:=λx57 x58 x59=>(Xy x57 x58 x59).val
def cU:=λx57 x58 x59=>(Xy x57 x58 x59).ob
def Yy:=λx57 x58 x59=>da.mk (bU x57 x58 x59) (cU x57 x58 x59) [0,1,0,0,1,0,1,1] [(0,.S .item x57),(3,.A .item x58),(4,.I x59)] oi (λq=>[(0,.S .item x57),(3,.A .item q),(4,.I x59)]) nE nE nE
theorem Fad(G:Gd If){fr x57 x58 x59}:pg fr (Yy x57 x58 x59):=ga G [([0,1,0,0,1,0,0,1,0,1,1],λe=>⟨Wy (gL .item e 0 0) (gL .item e 3 0) (gI e 4 0)⟩)] ⟨λ_=>⟨rfl,Ead G⟩,trivial⟩ [(5,[0,3,4,5]),(12,[0,3,4,5,29]),(13,[0,3,4])] (Xy x57 x58 x59)
def Yo(x2 s54:LI)(s55:Int):Tr LI (LI×Int) LI Empty Empty:=.c (cmp .lss s55 4) (.s (Yy x2 s54 s55) (λq111=>.l (.n (q111,(ar .add .i64 s55 1)))) nE nE nE)
 (.l (.x s54))
def Ak:=λx2 s54 s55=>(Yo x2 s54 s55).val
def Zo:=λx2 s54 s55=>(Yo x2 s54 s55).ob
def SI:=λx2 s54 s55=>Ka (Ak x2 s54 s55) (Zo x2 s54 s55) [0,0,1,0,1,1] (λq=>[(0,.S .item x2),(3,.A .item q.1),(4,.I q.2)]) (s54,s55) oi (λq=>(0,[(3,.A .item q)])) nE nE
theorem Gad(G:Gd If){fr x2 s54 s55}:pg fr (SI x2 s54 s55):=ga G [([0,1,0,0,1,0,1,1],λe=>⟨Yy (gL .item e 0 0) (gL .item e 3 0) (gI e 4 0)⟩)] ⟨λ_=>⟨rfl,Fad G⟩,trivial⟩ [(3,[0,3,4,10]),(4,[0,3,4])] (Yo x2 s54 s55)
def dU:=λx2=>lpV (λs:LI×Int=>ca (Ak x2 s.1 s.2)) ([],0)
def eU:=λx2=>LpT (λs:LI×Int=>ca (Ak x2 s.1 s.2)) (λs=>Zo x2 s.1 s.2) ([],0)
def Zy:=λx2=>lpS (SI x2 [] 0) (dU x2) (eU x2)
theorem Had(G:Gd If){fr x2}:pg fr (Zy x2):=Na (λs:LI×Int=>SI x2 s.1 s.2) ([],0) λ_=>Gad G
def az(x1:LI):Tr LI LI Empty Empty Empty:=.s (Zy x1) nE (λq122=>.l (.n q122)) nE nE
def fU:=λx1=>(az x1).val
def gU:=λx1=>(az x1).ob
def bz:=λx1=>da.mk (fU x1) (gU x1) [0,1,1] [(0,.S .item x1),(3,.A .item [])] oi (λq=>[(3,.A .item q)]) nE nE nE
theorem Iad(G:Gd If){fr x1}:pg fr (bz x1):=ga G [([0,1,0,1,1],λe=>⟨Zy (gL .item e 0 0)⟩)] ⟨λ_=>⟨rfl,Had G⟩,trivial⟩ [(2,[0,3,4])] (az x1)
def cz(a0:LI):Tr LI Empty Empty Empty Empty:=.s (bz a0) (λq125=>.l (.r q125)) nE nE nE
def UI:=λa0=>(cz a0).val
def VI:=λa0=>(cz a0).ob
def Jad:=λa0=>da.mk (UI a0) (VI a0) [] [(0,.S .item a0)] oi nE nE nE nE
theorem Kad(G:Gd If){fr a0}:pg fr (Jad a0):=ga G [([0,1,1],λe=>⟨bz (gL .item e 0 0)⟩)] ⟨λ_=>⟨rfl,Iad G⟩,trivial⟩ [(0,[0]),(1,[0,3]),(14,[2])] (cz a0)
def dz(a0:LI):LI:=ocR (UI a0)
def ez(a0:LI):Prop:=VI a0
def WI:Spec:=⟨[(.lst .item)],.one (.acc true) (.lst .item),false,λx=>(dz x.1,0),λx=>ez x.1⟩
theorem Lad(G:Gd If):Con Tryz.prog 105 WI:=Ba (pts:=[(.lst .item)]) (F:=QI) G λ_ _=>Kad G
def Bk:SP:=[]
abbrev XI:Fnn:=⟨[.tmp 2],.one (.acc true) (.lst .item),none,[]⟩
abbrev gz:LI->RV:=rvF XI
abbrev cp:=@OkF Tryz.prog tt Tryz.f106 XI LI
def iz(x18 x19:LI)(_x20 x21:Int):Tr LI LI Empty Empty Empty:=.w [inb x21 (aa .item x19)] (.c (cmp .gtr (rd .item x19 x21).Count 0) (.w [lim (aa .item x18) (aa .item [(Item.mk (rd .item x19 x21).Key (rd .item x19 x21).Val 1)])] (.l (.n (x18++[(Item.mk (rd .item x19 x21).Key (rd .item x19 x21).Val 1)]))))
 (.l (.n x18)))
def iU:=λx18 x19 x20 x21=>(iz x18 x19 x20 x21).val
def jU:=λx18 x19 x20 x21=>(iz x18 x19 x20 x21).ob
def dp:=λx18 x19 x20 x21=>da.mk (iU x18 x19 x20 x21) (jU x18 x19 x20 x21) [0,1,1,0,0,1,0,1,1] [(3,.A .item x18),(7,.S .item x19),(8,.I x20),(9,.I x21)] gz (λq=>[(3,.A .item q),(7,.S .item x19),(8,.I x20),(9,.I x21)]) nE nE nE
theorem Mad(G:Gd Bk){fr x18 x19 x20 x21}:cp fr (dp x18 x19 x20 x21):=oa G [(4,[3,5,7,8,9]),(5,[3,5,7,8,9,15]),(6,[3,7,8,9])] (iz x18 x19 x20 x21)
def ep(x2:LI)(x3:Int)(s15:LI)(s16:Int):Tr LI (LI×Int) LI Empty Empty:=.c (cmp .lss s16 x3) (.s (dp s15 x2 x3 s16) (λq24=>.l (.n (q24,(ar .add .i64 s16 1)))) nE nE nE)
 (.l (.x s15))
def Ck:=λx2 x3 s15 s16=>(ep x2 x3 s15 s16).val
def fp:=λx2 x3 s15 s16=>(ep x2 x3 s15 s16).ob
def YI:=λx2 x3 s15 s16=>Ka (Ck x2 x3 s15 s16) (fp x2 x3 s15 s16) [0,0,1,0,1,1] (λq=>[(3,.A .item q.1),(7,.S .item x2),(8,.I x3),(9,.I q.2)]) (s15,s16) gz (λq=>(0,[(3,.A .item q)])) nE nE
theorem Nad(G:Gd Bk){fr x2 x3 s15 s16}:cp fr (YI x2 x3 s15 s16):=ga G [([0,1,1,0,0,1,0,1,1],λe=>⟨dp (gL .item e 3 0) (gL .item e 7 0) (gI e 8 0) (gI e 9 0)⟩)] ⟨λ_=>⟨rfl,Mad G⟩,trivial⟩ [(3,[3,7,8,9,10]),(7,[3,7,8,9])] (ep x2 x3 s15 s16)
def kU:=λx2 x3=>lpV (λs:LI×Int=>ca (Ck x2 x3 s.1 s.2)) ([],0)
def lU:=λx2 x3=>LpT (λs:LI×Int=>ca (Ck x2 x3 s.1 s.2)) (λs=>fp x2 x3 s.1 s.2) ([],0)
def jz:=λx2 x3=>lpS (YI x2 x3 [] 0) (kU x2 x3) (lU x2 x3)
theorem Oad(G:Gd Bk){fr x2 x3}:cp fr (jz x2 x3):=Na (λs:LI×Int=>YI x2 x3 s.1 s.2) ([],0) λ_=>Nad G
def lz(x1:LI):Tr LI LI Empty Empty Empty:=.s (jz x1 (aa .item x1)) nE (λq35=>.l (.n q35)) nE nE
def mU:=λx1=>(lz x1).val
def nU:=λx1=>(lz x1).ob
def mz:=λx1=>da.mk (mU x1) (nU x1) [0,1,1] [(0,.S .item x1),(3,.A .item [])] gz (λq=>[(3,.A .item q)]) nE nE nE
theorem Pad(G:Gd Bk){fr x1}:cp fr (mz x1):=ga G [([0,1,0,1,1],λe=>⟨jz (gL .item e 7 0) (gI e 8 0)⟩)] ⟨λ_=>⟨rfl,Oad G⟩,trivial⟩ [(2,[3,7,8,9])] (lz x1)
def nz(a0:LI):Tr LI Empty Empty Empty Empty:=.s (mz a0) (λq38=>.l (.r q38)) nE nE nE
def ZI:=λa0=>(nz a0).val
def aJ:=λa0=>(nz a0).ob
def Qad:=λa0=>da.mk (ZI a0) (aJ a0) [] [(0,.S .item a0)] gz nE nE nE nE
theorem Rad(G:Gd Bk){fr a0}:cp fr (Qad a0):=ga G [([0,1,1],λe=>⟨mz (gL .item e 0 0)⟩)] ⟨λ_=>⟨rfl,Pad G⟩,trivial⟩ [(0,[0]),(1,[0,3]),(8,[2])] (nz a0)
def Dk(a0:LI):LI:=ocR (ZI a0)
def gp(a0:LI):Prop:=aJ a0
def oz:Spec:=⟨[(.lst .item)],.one (.acc true) (.lst .item),false,λx=>(Dk x.1,0),λx=>gp x.1⟩
theorem Sad(G:Gd Bk):Con Tryz.prog 106 oz:=Ba (pts:=[(.lst .item)]) (F:=XI) G λ_ _=>Rad G
def Fk:SP:=[(106,oz)]
abbrev bJ:Fnn:=⟨[.tmp 2],.one (.acc true) (.lst .item),none,[]⟩
abbrev qz:LI->RV:=rvF bJ
abbrev ip:=@OkF Tryz.prog tt Tryz.f107 bJ LI
def rz(x19 x20:LI)(_x21 x22:Int):Tr LI LI Empty Empty Empty:=.w [inb x22 (aa .item x20)] (.w [((!(cmp .eql (aa .item x19) 0))&&true)=true->inb (ar .sub .i64 (aa .item x19) 1) (aa .item x19)] (.c (cond (cmp .eql (aa .item x19) 0) true (cmp .neq (rd .item x19 (ar .sub .i64 (aa .item x19) 1)).Key (rd .item x20 x22).Key)) (.w [lim (aa .item x19) (aa .item [(rd .item x20 x22)])] (.l (.n (x19++[(rd .item x20 x22)]))))
 (.l (.n x19))))
def oU:=λx19 x20 x21 x22=>(rz x19 x20 x21 x22).val
def pU:=λx19 x20 x21 x22=>(rz x19 x20 x21 x22).ob
def tz:=λx19 x20 x21 x22=>da.mk (oU x19 x20 x21 x22) (pU x19 x20 x21 x22) [0,1,1,0,0,1,0,1,1] [(3,.A .item x19),(8,.A .item x20),(9,.I x21),(10,.I x22)] qz (λq=>[(3,.A .item q),(8,.A .item x20),(9,.I x21),(10,.I x22)]) nE nE nE
theorem Tad(G:Gd Fk){fr x19 x20 x21 x22}:ip fr (tz x19 x20 x21 x22):=oa G [(4,[3,5,8,9,10]),(5,[3,5,8,9,10,28]),(6,[3,8,9,10])] (rz x19 x20 x21 x22)
def jp(x3:LI)(x4:Int)(s16:LI)(s17:Int):Tr LI (LI×Int) LI Empty Empty:=.c (cmp .lss s17 x4) (.s (tz s16 x3 x4 s17) (λq25=>.l (.n (q25,(ar .add .i64 s17 1)))) nE nE nE)
 (.l (.x s16))
def Gk:=λx3 x4 s16 s17=>(jp x3 x4 s16 s17).val
def lp:=λx3 x4 s16 s17=>(jp x3 x4 s16 s17).ob
def cJ:=λx3 x4 s16 s17=>Ka (Gk x3 x4 s16 s17) (lp x3 x4 s16 s17) [0,0,1,0,1,1] (λq=>[(3,.A .item q.1),(8,.A .item x3),(9,.I x4),(10,.I q.2)]) (s16,s17) qz (λq=>(0,[(3,.A .item q)])) nE nE
theorem Uad(G:Gd Fk){fr x3 x4 s16 s17}:ip fr (cJ x3 x4 s16 s17):=ga G [([0,1,1,0,0,1,0,1,1],λe=>⟨tz (gL .item e 3 0) (gL .item e 8 0) (gI e 9 0) (gI e 10 0)⟩)] ⟨λ_=>⟨rfl,Tad G⟩,trivial⟩ [(3,[3,8,9,10,11]),(7,[3,8,9,10])] (jp x3 x4 s16 s17)
def qU:=λx3 x4=>lpV (λs:LI×Int=>ca (Gk x3 x4 s.1 s.2)) ([],0)
def rU:=λx3 x4=>LpT (λs:LI×Int=>ca (Gk x3 x4 s.1 s.2)) (λs=>lp x3 x4 s.1 s.2) ([],0)
def uz:=λx3 x4=>lpS (cJ x3 x4 [] 0) (qU x3 x4) (rU x3 x4)
theorem Vad(G:Gd Fk){fr x3 x4}:ip fr (uz x3 x4):=Na (λs:LI×Int=>cJ x3 x4 s.1 s.2) ([],0) λ_=>Uad G
def vz(x1:LI):Tr LI LI Empty Empty Empty:=.w [gp x1] (.s (uz (Dk x1) (aa .item (Dk x1))) nE (λq36=>.l (.n q36)) nE nE)
def sU:=λx1=>(vz x1).val
def tU:=λx1=>(vz x1).ob
def wz:=λx1=>da.mk (sU x1) (tU x1) [0,1,1] [(0,.S .item x1),(3,.A .item [])] qz (λq=>[(3,.A .item q)]) nE nE nE
theorem Wad(G:Gd Fk){fr x1}:ip fr (wz x1):=ga G [([0,1,0,1,1],λe=>⟨uz (gL .item e 8 0) (gI e 9 0)⟩)] ⟨λ_=>⟨rfl,Vad G⟩,trivial⟩ [(2,[3,8,9,10])] (vz x1)
def xz(a0:LI):Tr LI Empty Empty Empty Empty:=.s (wz a0) (λq39=>.l (.r q39)) nE nE nE
def dJ:=λa0=>(xz a0).val
def fJ:=λa0=>(xz a0).ob
def Xad:=λa0=>da.mk (dJ a0) (fJ a0) [] [(0,.S .item a0)] qz nE nE nE nE
theorem Yad(G:Gd Fk){fr a0}:ip fr (Xad a0):=ga G [([0,1,1],λe=>⟨wz (gL .item e 0 0)⟩)] ⟨λ_=>⟨rfl,Wad G⟩,trivial⟩ [(0,[0]),(1,[0,3]),(8,[2])] (xz a0)
def yz(a0:LI):LI:=ocR (dJ a0)
def Az(a0:LI):Prop:=fJ a0
def gJ:Spec:=⟨[(.lst .item)],.one (.acc true) (.lst .item),false,λx=>(yz x.1,0),λx=>Az x.1⟩
theorem Zad(G:Gd Fk):Con Tryz.prog 107 gJ:=Ba (pts:=[(.lst .item)]) (F:=bJ) G λ_ _=>Yad G
def uU:SP:=[(105,WI),(106,oz),(107,gJ)]
abbrev F85:Fnn:=⟨[.tmp 4],.one (.acc true) (.lst .item),none,[]⟩
abbrev aae:LI->RV:=rvF F85
abbrev bae:=@OkF Tryz.prog tt Tryz.f85 F85 LI
def Bz(a0:LI)(a1:Int):Tr LI Empty Empty Empty Empty:=.c (cmp .eql a1 1) (.w [ez a0] (.l (.r (dz a0))))
 (.c (cmp .eql a1 2) (.w [gp a0] (.l (.r (Dk a0))))
 (.w [Az a0] (.l (.r (yz a0)))))
def iJ:=λa0 a1=>(Bz a0 a1).val
def jJ:=λa0 a1=>(Bz a0 a1).ob
def cae:=λa0 a1=>da.mk (iJ a0 a1) (jJ a0 a1) [] [(0,.S .item a0),(1,.I a1)] aae nE nE nE nE
theorem dae(G:Gd uU){fr a0 a1}:bae fr (cae a0 a1):=oa G [(0,[0,1]),(1,[0,5]),(2,[0,5,6]),(3,[4]),(4,[0,10]),(5,[4]),(6,[4])] (Bz a0 a1)
def Cz(a0:LI)(a1:Int):LI:=ocR (iJ a0 a1)
def Dz(a0:LI)(a1:Int):Prop:=jJ a0 a1
def kJ:Spec:=⟨[(.lst .item),(.int .i64)],.one (.acc true) (.lst .item),false,λx=>(Cz x.1 x.2.1,0),λx=>Dz x.1 x.2.1⟩
theorem eae(G:Gd uU):Con Tryz.prog 85 kJ:=Ba (pts:=[(.lst .item),(.int .i64)]) (F:=F85) G λ_ _=>dae G
end
end Go.Proofs.YthfkpijcajdnhaaGreat

namespace Go.Proofs.YthfkpijcajdnhaaGreat
open Go
noncomputable section
set_option maxRecDepth 100000
def Uc:SP:=[(100,IV),(50,PI),(85,kJ),(79,fD),(47,qk)]
abbrev F75:Fnn:=⟨[.tmp 4,.tmp 5],.tup [(false,(.lst .row)),(true,.bool)],none,[]⟩
abbrev se:LR×Bool×Unit->RV:=rvF F75
abbrev Zc:=@OkF Tryz.prog tt Tryz.f75 F75 (LR×Bool×Unit)
def Ez(x276:LR)(_x277:Int)(_x278:LR)(x279:Int)(x280:LR)(_x281 x282:Int):Tr (LR×Bool×Unit) LR Empty Empty Empty:=.w [inb x282 (aa .row x276)] (.c (cmp .eql (rd .row x276 x282).Key x279) (.w [lim (aa .row x280) (aa .row [(rd .row x276 x282)])] (.l (.n (x280++[(rd .row x276 x282)]))))
 (.l (.n x280)))
def vU:=λx276 x277 x278 x279 x280 x281 x282=>(Ez x276 x277 x278 x279 x280 x281 x282).val
def wU:=λx276 x277 x278 x279 x280 x281 x282=>(Ez x276 x277 x278 x279 x280 x281 x282).ob
def Gz:=λx276 x277 x278 x279 x280 x281 x282=>da.mk (vU x276 x277 x278 x279 x280 x281 x282) (wU x276 x277 x278 x279 x280 x281 x282) [0,1,1,0,0,1,0,1,0,0,1,0,0,1,0,1,1] [(0,.S .row x276),(1,.I x277),(6,.A .row x278),(7,.I x279),(8,.A .row x280),(25,.S .row x276),(26,.I x281),(27,.I x282)] se (λq=>[(0,.S .row x276),(1,.I x277),(6,.A .row x278),(7,.I x279),(8,.A .row q),(25,.S .row x276),(26,.I x281),(27,.I x282)]) nE nE nE
theorem fae(G:Gd Uc){fr x276 x277 x278 x279 x280 x281 x282}:Zc fr (Gz x276 x277 x278 x279 x280 x281 x282):=oa G [(8,[0,1,6,7,8,10,25,26,27]),(9,[0,1,6,7,8,10,25,26,27,34]),(10,[0,1,6,7,8,25,26,27])] (Ez x276 x277 x278 x279 x280 x281 x282)
def np(x254:LR)(x255:Int)(x256:LR)(x257 x258:Int)(s273:LR)(s274:Int):Tr (LR×Bool×Unit) (LR×Int) LR Empty Empty:=.c (cmp .lss s274 x258) (.s (Gz x254 x255 x256 x257 s273 x258 s274) (λq285=>.l (.n (q285,(ar .add .i64 s274 1)))) nE nE nE)
 (.l (.x s273))
def Hk:=λx254 x255 x256 x257 x258 s273 s274=>(np x254 x255 x256 x257 x258 s273 s274).val
def qp:=λx254 x255 x256 x257 x258 s273 s274=>(np x254 x255 x256 x257 x258 s273 s274).ob
def lJ:=λx254 x255 x256 x257 x258 s273 s274=>Ka (Hk x254 x255 x256 x257 x258 s273 s274) (qp x254 x255 x256 x257 x258 s273 s274) [0,0,1,0,1,0,0,1,0,0,1,0,1,1] (λq=>[(0,.S .row x254),(1,.I x255),(6,.A .row x256),(7,.I x257),(8,.A .row q.1),(25,.S .row x254),(26,.I x258),(27,.I q.2)]) (s273,s274) se (λq=>(2,[(0,.S .row x254),(1,.I x255),(6,.A .row x256),(7,.I x257),(8,.A .row q)])) nE nE
theorem gae(G:Gd Uc){fr x254 x255 x256 x257 x258 s273 s274}:Zc fr (lJ x254 x255 x256 x257 x258 s273 s274):=ga G [([0,1,1,0,0,1,0,1,0,0,1,0,0,1,0,1,1],λe=>⟨Gz (gL .row e 0 0) (gI e 1 0) (gL .row e 6 0) (gI e 7 0) (gL .row e 8 0) (gI e 26 0) (gI e 27 0)⟩)] ⟨λ_=>⟨rfl,fae G⟩,trivial⟩ [(7,[0,1,6,7,8,25,26,27,28]),(11,[0,1,6,7,8,25,26,27])] (np x254 x255 x256 x257 x258 s273 s274)
def xU:=λx254 x255 x256 x257 x258=>lpV (λs:LR×Int=>ca (Hk x254 x255 x256 x257 x258 s.1 s.2)) ([],0)
def yU:=λx254 x255 x256 x257 x258=>LpT (λs:LR×Int=>ca (Hk x254 x255 x256 x257 x258 s.1 s.2)) (λs=>qp x254 x255 x256 x257 x258 s.1 s.2) ([],0)
def Hz:=λx254 x255 x256 x257 x258=>lpS (lJ x254 x255 x256 x257 x258 [] 0) (xU x254 x255 x256 x257 x258) (yU x254 x255 x256 x257 x258)
theorem iae(G:Gd Uc){fr x254 x255 x256 x257 x258}:Zc fr (Hz x254 x255 x256 x257 x258):=Na (λs:LR×Int=>lJ x254 x255 x256 x257 x258 s.1 s.2) ([],0) λ_=>gae G
def Iz(x250:LR)(x251:Int)(x252:LR)(x253:Int):Tr (LR×Bool×Unit) LR Empty Empty Empty:=.s (Hz x250 x251 x252 x253 (aa .row x250)) nE (λq296=>.l (.n q296)) nE nE
def zU:=λx250 x251 x252 x253=>(Iz x250 x251 x252 x253).val
def AU:=λx250 x251 x252 x253=>(Iz x250 x251 x252 x253).ob
def Jz:=λx250 x251 x252 x253=>da.mk (zU x250 x251 x252 x253) (AU x250 x251 x252 x253) [0,1,0,0,1,0,0,1,0,1,1] [(0,.S .row x250),(1,.I x251),(6,.A .row x252),(7,.I x253),(8,.A .row [])] se (λq=>[(0,.S .row x250),(1,.I x251),(6,.A .row x252),(7,.I x253),(8,.A .row q)]) nE nE nE
theorem jae(G:Gd Uc){fr x250 x251 x252 x253}:Zc fr (Jz x250 x251 x252 x253):=ga G [([0,1,0,1,0,0,1,0,0,1,0,1,1],λe=>⟨Hz (gL .row e 0 0) (gI e 1 0) (gL .row e 6 0) (gI e 7 0) (gI e 26 0)⟩)] ⟨λ_=>⟨rfl,iae G⟩,trivial⟩ [(6,[0,1,6,7,8,25,26,27])] (Iz x250 x251 x252 x253)
def rp(_x424:LR)(_x425:Int)(_x426:LR)(_x427:Int)(_x428 _x429:LR)(_x430:Time)(_x431:LI)(_x432:List Time)(_x433 _x434:Int)(x435:LI)(x436:Int)(s440:LI)(s441:Int):Tr (LR×Bool×Unit) (LI×Int) LI Empty Empty:=.c (cmp .lss s441 x436) (.w [inb s441 (aa .item x435)] (.w [lim (aa .item s440) (aa .item [(Item.mk (rd .item x435 s441).Key (rd .item x435 s441).Val (IntKind.wrap .i64 (0 - (rd .item x435 s441).Count)))])] (.l (.n ((s440++[(Item.mk (rd .item x435 s441).Key (rd .item x435 s441).Val (IntKind.wrap .i64 (0 - (rd .item x435 s441).Count)))]),(ar .add .i64 s441 1))))))
 (.l (.x s440))
def Ik:=λx424 x425 x426 x427 x428 x429 x430 x431 x432 x433 x434 x435 x436 s440 s441=>(rp x424 x425 x426 x427 x428 x429 x430 x431 x432 x433 x434 x435 x436 s440 s441).val
def tp:=λx424 x425 x426 x427 x428 x429 x430 x431 x432 x433 x434 x435 x436 s440 s441=>(rp x424 x425 x426 x427 x428 x429 x430 x431 x432 x433 x434 x435 x436 s440 s441).ob
def mJ:=λx424 x425 x426 x427 x428 x429 x430 x431 x432 x433 x434 x435 x436 s440 s441=>Ka (Ik x424 x425 x426 x427 x428 x429 x430 x431 x432 x433 x434 x435 x436 s440 s441) (tp x424 x425 x426 x427 x428 x429 x430 x431 x432 x433 x434 x435 x436 s440 s441) [0,0,1,0,1,1,0,0,1,1,0,0,1,0,1,1,1,0,0,1,0,0,1,0,1,1] (λq=>[(0,.S .row x424),(1,.I x425),(6,.A .row x426),(7,.I x427),(8,.A .row x428),(11,.A .row x429),(13,.B [x430.A,x430.B]),(14,.A .item q.1),(43,.v .fr (.lst .time x432)),(44,.I x433),(45,.I x434),(56,.v .fr (.lst .item x435)),(57,.I x436),(58,.I q.2)]) (s440,s441) se (λq=>(6,[(0,.S .row x424),(1,.I x425),(6,.A .row x426),(7,.I x427),(8,.A .row x428),(11,.A .row x429),(13,.B [x430.A,x430.B]),(14,.A .item q),(43,.v .fr (.lst .time x432)),(44,.I x433),(45,.I x434)])) nE nE
theorem kae(G:Gd Uc){fr x424 x425 x426 x427 x428 x429 x430 x431 x432 x433 x434 x435 x436 s440 s441}:Zc fr (mJ x424 x425 x426 x427 x428 x429 x430 x431 x432 x433 x434 x435 x436 s440 s441):=oa G [(18,[0,1,6,7,8,11,13,14,43,44,45,56,57,58,59]),(19,[0,1,6,7,8,11,13,14,16,43,44,45,56,57,58]),(20,[0,1,6,7,8,11,13,14,43,44,45,56,57,58]),(21,[0,1,6,7,8,11,13,14,43,44,45,56,57,58])] (rp x424 x425 x426 x427 x428 x429 x430 x431 x432 x433 x434 x435 x436 s440 s441)
def BU:=λx424 x425 x426 x427 x428 x429 x430 x431 x432 x433 x434 x435 x436=>lpV (λs:LI×Int=>ca (Ik x424 x425 x426 x427 x428 x429 x430 x431 x432 x433 x434 x435 x436 s.1 s.2)) (x431,0)
def CU:=λx424 x425 x426 x427 x428 x429 x430 x431 x432 x433 x434 x435 x436=>LpT (λs:LI×Int=>ca (Ik x424 x425 x426 x427 x428 x429 x430 x431 x432 x433 x434 x435 x436 s.1 s.2)) (λs=>tp x424 x425 x426 x427 x428 x429 x430 x431 x432 x433 x434 x435 x436 s.1 s.2) (x431,0)
def Kz:=λx424 x425 x426 x427 x428 x429 x430 x431 x432 x433 x434 x435 x436=>lpS (mJ x424 x425 x426 x427 x428 x429 x430 x431 x432 x433 x434 x435 x436 x431 0) (BU x424 x425 x426 x427 x428 x429 x430 x431 x432 x433 x434 x435 x436) (CU x424 x425 x426 x427 x428 x429 x430 x431 x432 x433 x434 x435 x436)
theorem lae(G:Gd Uc){fr x424 x425 x426 x427 x428 x429 x430 x431 x432 x433 x434 x435 x436}:Zc fr (Kz x424 x425 x426 x427 x428 x429 x430 x431 x432 x433 x434 x435 x436):=Na (λs:LI×Int=>mJ x424 x425 x426 x427 x428 x429 x430 x431 x432 x433 x434 x435 x436 s.1 s.2) (x431,0) λ_=>kae G
def Lz(x412:LR)(x413:Int)(x414:LR)(x415:Int)(x416 x417:LR)(x418:Time)(x419:LI)(x420:List Time)(x421 x422:Int):Tr (LR×Bool×Unit) LI Empty Empty Empty:=.k (Uo x417 x418) λu423=>.w [Vo x417 x418] (.s (Kz x412 x413 x414 x415 x416 x417 x418 x419 x420 x421 x422 u423 (aa .item u423)) nE (λq450=>.l (.n q450)) nE nE)
def DU:=λx412 x413 x414 x415 x416 x417 x418 x419 x420 x421 x422=>(Lz x412 x413 x414 x415 x416 x417 x418 x419 x420 x421 x422).val
def EU:=λx412 x413 x414 x415 x416 x417 x418 x419 x420 x421 x422=>(Lz x412 x413 x414 x415 x416 x417 x418 x419 x420 x421 x422).ob
def Mz:=λx412 x413 x414 x415 x416 x417 x418 x419 x420 x421 x422=>da.mk (DU x412 x413 x414 x415 x416 x417 x418 x419 x420 x421 x422) (EU x412 x413 x414 x415 x416 x417 x418 x419 x420 x421 x422) [0,1,1,0,0,1,1,0,0,1,0,1,1,1,0,0,1,0,0,1,0,1,1] [(0,.S .row x412),(1,.I x413),(6,.A .row x414),(7,.I x415),(8,.A .row x416),(11,.A .row x417),(13,.B [x418.A,x418.B]),(14,.A .item x419),(43,.v .fr (.lst .time x420)),(44,.I x421),(45,.I x422)] se (λq=>[(0,.S .row x412),(1,.I x413),(6,.A .row x414),(7,.I x415),(8,.A .row x416),(11,.A .row x417),(13,.B [x418.A,x418.B]),(14,.A .item q),(43,.v .fr (.lst .time x420)),(44,.I x421),(45,.I x422)]) nE nE nE
theorem mae(G:Gd Uc){fr x412 x413 x414 x415 x416 x417 x418 x419 x420 x421 x422}:Zc fr (Mz x412 x413 x414 x415 x416 x417 x418 x419 x420 x421 x422):=ga G [([0,1,0,1,1,0,0,1,1,0,0,1,0,1,1,1,0,0,1,0,0,1,0,1,1],λe=>⟨Kz (gL .row e 0 0) (gI e 1 0) (gL .row e 6 0) (gI e 7 0) (gL .row e 8 0) (gL .row e 11 0) (Kd e 13) (gL .item e 14 0) (gL .time e 43 0) (gI e 44 0) (gI e 45 0) (gL .item e 56 0) (gI e 57 0)⟩)] ⟨λ_=>⟨rfl,lae G⟩,trivial⟩ [(17,[0,1,6,7,8,11,13,14,43,44,45,56,57,58])] (Lz x412 x413 x414 x415 x416 x417 x418 x419 x420 x421 x422)
def vp(_x456:LR)(_x457:Int)(_x458:LR)(_x459:Int)(_x460 _x461:LR)(x462:Time)(_x463:List Time)(_x464 _x465:Int)(x466:LI)(x467:Int)(s471:LR)(s472:Int):Tr (LR×Bool×Unit) (LR×Int) LR Empty Empty:=.c (cmp .lss s472 x467) (.w [inb s472 (aa .item x466)] (.w [lim (aa .row s471) (aa .row [(Row.mk (rd .item x466 s472).Key (rd .item x466 s472).Val x462 (rd .item x466 s472).Count)])] (.l (.n ((s471++[(Row.mk (rd .item x466 s472).Key (rd .item x466 s472).Val x462 (rd .item x466 s472).Count)]),(ar .add .i64 s472 1))))))
 (.l (.x s471))
def Jk:=λx456 x457 x458 x459 x460 x461 x462 x463 x464 x465 x466 x467 s471 s472=>(vp x456 x457 x458 x459 x460 x461 x462 x463 x464 x465 x466 x467 s471 s472).val
def xp:=λx456 x457 x458 x459 x460 x461 x462 x463 x464 x465 x466 x467 s471 s472=>(vp x456 x457 x458 x459 x460 x461 x462 x463 x464 x465 x466 x467 s471 s472).ob
def nJ:=λx456 x457 x458 x459 x460 x461 x462 x463 x464 x465 x466 x467 s471 s472=>Ka (Jk x456 x457 x458 x459 x460 x461 x462 x463 x464 x465 x466 x467 s471 s472) (xp x456 x457 x458 x459 x460 x461 x462 x463 x464 x465 x466 x467 s471 s472) [0,0,1,1,1,1,0,0,1,1,0,0,1,0,1,1,1,0,0,1,0,0,1,0,1,1] (λq=>[(0,.S .row x456),(1,.I x457),(6,.A .row x458),(7,.I x459),(8,.A .row x460),(11,.A .row q.1),(13,.B [x462.A,x462.B]),(43,.v .fr (.lst .time x463)),(44,.I x464),(45,.I x465),(75,.v .fr (.lst .item x466)),(76,.I x467),(77,.I q.2)]) (s471,s472) se (λq=>(8,[(0,.S .row x456),(1,.I x457),(6,.A .row x458),(7,.I x459),(8,.A .row x460),(11,.A .row q),(43,.v .fr (.lst .time x463)),(44,.I x464),(45,.I x465)])) nE nE
theorem nae(G:Gd Uc){fr x456 x457 x458 x459 x460 x461 x462 x463 x464 x465 x466 x467 s471 s472}:Zc fr (nJ x456 x457 x458 x459 x460 x461 x462 x463 x464 x465 x466 x467 s471 s472):=oa G [(23,[0,1,6,7,8,11,13,43,44,45,75,76,77,78]),(24,[0,1,6,7,8,11,13,18,43,44,45,75,76,77]),(25,[0,1,6,7,8,11,13,43,44,45,75,76,77]),(26,[0,1,6,7,8,11,13,43,44,45,75,76,77])] (vp x456 x457 x458 x459 x460 x461 x462 x463 x464 x465 x466 x467 s471 s472)
def FU:=λx456 x457 x458 x459 x460 x461 x462 x463 x464 x465 x466 x467=>lpV (λs:LR×Int=>ca (Jk x456 x457 x458 x459 x460 x461 x462 x463 x464 x465 x466 x467 s.1 s.2)) (x461,0)
def GU:=λx456 x457 x458 x459 x460 x461 x462 x463 x464 x465 x466 x467=>LpT (λs:LR×Int=>ca (Jk x456 x457 x458 x459 x460 x461 x462 x463 x464 x465 x466 x467 s.1 s.2)) (λs=>xp x456 x457 x458 x459 x460 x461 x462 x463 x464 x465 x466 x467 s.1 s.2) (x461,0)
def Nz:=λx456 x457 x458 x459 x460 x461 x462 x463 x464 x465 x466 x467=>lpS (nJ x456 x457 x458 x459 x460 x461 x462 x463 x464 x465 x466 x467 x461 0) (FU x456 x457 x458 x459 x460 x461 x462 x463 x464 x465 x466 x467) (GU x456 x457 x458 x459 x460 x461 x462 x463 x464 x465 x466 x467)
theorem oae(G:Gd Uc){fr x456 x457 x458 x459 x460 x461 x462 x463 x464 x465 x466 x467}:Zc fr (Nz x456 x457 x458 x459 x460 x461 x462 x463 x464 x465 x466 x467):=Na (λs:LR×Int=>nJ x456 x457 x458 x459 x460 x461 x462 x463 x464 x465 x466 x467 s.1 s.2) (x461,0) λ_=>nae G
def Oz(x401:LR)(x402:Int)(x403:LR)(x404:Int)(x405 x406:LR)(x407:List Time)(x408 x409:Int):Tr (LR×Bool×Unit) LR Empty Empty Empty:=.w [inb x409 (aa .time x407)] (.k (Uo x405 (rd .time x407 x409)) λu410=>.w [Vo x405 (rd .time x407 x409),Dz u410 x402] (.s (Mz x401 x402 x403 x404 x405 x406 (rd .time x407 x409) (Cz u410 x402) x407 x408 x409) (λq453=>.k (nr q453) λu455=>.w [Kl q453] (.s (Nz x401 x402 x403 x404 x405 x406 (rd .time x407 x409) x407 x408 x409 u455 (aa .item u455)) nE (λq481=>.l (.n q481)) nE nE)) nE nE nE))
def oJ:=λx401 x402 x403 x404 x405 x406 x407 x408 x409=>(Oz x401 x402 x403 x404 x405 x406 x407 x408 x409).val
def pJ:=λx401 x402 x403 x404 x405 x406 x407 x408 x409=>(Oz x401 x402 x403 x404 x405 x406 x407 x408 x409).ob
def Pz:=λx401 x402 x403 x404 x405 x406 x407 x408 x409=>da.mk (oJ x401 x402 x403 x404 x405 x406 x407 x408 x409) (pJ x401 x402 x403 x404 x405 x406 x407 x408 x409) [0,1,1,0,0,1,0,1,1,1,0,0,1,0,0,1,0,1,1] [(0,.S .row x401),(1,.I x402),(6,.A .row x403),(7,.I x404),(8,.A .row x405),(11,.A .row x406),(43,.v .fr (.lst .time x407)),(44,.I x408),(45,.I x409)] se (λq=>[(0,.S .row x401),(1,.I x402),(6,.A .row x403),(7,.I x404),(8,.A .row x405),(11,.A .row q),(43,.v .fr (.lst .time x407)),(44,.I x408),(45,.I x409)]) nE nE nE
theorem pae(G:Gd Uc){fr x401 x402 x403 x404 x405 x406 x407 x408 x409}:Zc fr (Pz x401 x402 x403 x404 x405 x406 x407 x408 x409):=ga G [([0,1,1,0,0,1,1,0,0,1,0,1,1,1,0,0,1,0,0,1,0,1,1],λe=>⟨Mz (gL .row e 0 0) (gI e 1 0) (gL .row e 6 0) (gI e 7 0) (gL .row e 8 0) (gL .row e 11 0) (Kd e 13) (gL .item e 14 0) (gL .time e 43 0) (gI e 44 0) (gI e 45 0)⟩),([0,1,1,1,1,0,0,1,1,0,0,1,0,1,1,1,0,0,1,0,0,1,0,1,1],λe=>⟨Nz (gL .row e 0 0) (gI e 1 0) (gL .row e 6 0) (gI e 7 0) (gL .row e 8 0) (gL .row e 11 0) (Kd e 13) (gL .time e 43 0) (gI e 44 0) (gI e 45 0) (gL .item e 75 0) (gI e 76 0)⟩)] ⟨λ_=>⟨rfl,mae G⟩,λ_=>⟨rfl,oae G⟩,trivial⟩ [(15,[0,1,6,7,8,11,13,43,44,45]),(16,[0,1,6,7,8,11,13,14,43,44,45]),(22,[0,1,6,7,8,11,13,43,44,45,75,76,77])] (Oz x401 x402 x403 x404 x405 x406 x407 x408 x409)
def yp(x307:LR)(x308:Int)(x309:LR)(x310:Int)(x311:LR)(x312:List Time)(x313:Int)(s398:LR)(s399:Int):Tr (LR×Bool×Unit) (LR×Int) LR Empty Empty:=.c (cmp .lss s399 x313) (.s (Pz x307 x308 x309 x310 x311 s398 x312 x313 s399) (λq486=>.l (.n (q486,(ar .add .i64 s399 1)))) nE nE nE)
 (.l (.x s398))
def Kk:=λx307 x308 x309 x310 x311 x312 x313 s398 s399=>(yp x307 x308 x309 x310 x311 x312 x313 s398 s399).val
def zp:=λx307 x308 x309 x310 x311 x312 x313 s398 s399=>(yp x307 x308 x309 x310 x311 x312 x313 s398 s399).ob
def qJ:=λx307 x308 x309 x310 x311 x312 x313 s398 s399=>Ka (Kk x307 x308 x309 x310 x311 x312 x313 s398 s399) (zp x307 x308 x309 x310 x311 x312 x313 s398 s399) [0,0,1,0,1,1,1,0,0,1,0,0,1,0,1,1] (λq=>[(0,.S .row x307),(1,.I x308),(6,.A .row x309),(7,.I x310),(8,.A .row x311),(11,.A .row q.1),(43,.v .fr (.lst .time x312)),(44,.I x313),(45,.I q.2)]) (s398,s399) se (λq=>(4,[(0,.S .row x307),(1,.I x308),(6,.A .row x309),(7,.I x310),(11,.A .row q)])) nE nE
theorem qae(G:Gd Uc){fr x307 x308 x309 x310 x311 x312 x313 s398 s399}:Zc fr (qJ x307 x308 x309 x310 x311 x312 x313 s398 s399):=ga G [([0,1,1,0,0,1,0,1,1,1,0,0,1,0,0,1,0,1,1],λe=>⟨Pz (gL .row e 0 0) (gI e 1 0) (gL .row e 6 0) (gI e 7 0) (gL .row e 8 0) (gL .row e 11 0) (gL .time e 43 0) (gI e 44 0) (gI e 45 0)⟩)] ⟨λ_=>⟨rfl,pae G⟩,trivial⟩ [(14,[0,1,6,7,8,11,43,44,45,46]),(27,[0,1,6,7,8,11,43,44,45])] (yp x307 x308 x309 x310 x311 x312 x313 s398 s399)
def IU:=λx307 x308 x309 x310 x311 x312 x313=>lpV (λs:LR×Int=>ca (Kk x307 x308 x309 x310 x311 x312 x313 s.1 s.2)) ([],0)
def JU:=λx307 x308 x309 x310 x311 x312 x313=>LpT (λs:LR×Int=>ca (Kk x307 x308 x309 x310 x311 x312 x313 s.1 s.2)) (λs=>zp x307 x308 x309 x310 x311 x312 x313 s.1 s.2) ([],0)
def Qz:=λx307 x308 x309 x310 x311 x312 x313=>lpS (qJ x307 x308 x309 x310 x311 x312 x313 [] 0) (IU x307 x308 x309 x310 x311 x312 x313) (JU x307 x308 x309 x310 x311 x312 x313)
theorem rae(G:Gd Uc){fr x307 x308 x309 x310 x311 x312 x313}:Zc fr (Qz x307 x308 x309 x310 x311 x312 x313):=Na (λs:LR×Int=>qJ x307 x308 x309 x310 x311 x312 x313 s.1 s.2) ([],0) λ_=>qae G
def Rz(x301:LR)(x302:Int)(x303:LR)(x304:Int)(x305:LR):Tr (LR×Bool×Unit) LR Empty Empty Empty:=.k (Xa x301 x304) λu306=>.w [XJ x301 x304] (.s (Qz x301 x302 x303 x304 x305 u306 (aa .time u306)) nE (λq497=>.l (.n q497)) nE nE)
def LU:=λx301 x302 x303 x304 x305=>(Rz x301 x302 x303 x304 x305).val
def MU:=λx301 x302 x303 x304 x305=>(Rz x301 x302 x303 x304 x305).ob
def Sz:=λx301 x302 x303 x304 x305=>da.mk (LU x301 x302 x303 x304 x305) (MU x301 x302 x303 x304 x305) [0,1,1,1,0,0,1,0,0,1,0,1,1] [(0,.S .row x301),(1,.I x302),(6,.A .row x303),(7,.I x304),(8,.A .row x305),(11,.A .row [])] se (λq=>[(0,.S .row x301),(1,.I x302),(6,.A .row x303),(7,.I x304),(11,.A .row q)]) nE nE nE
theorem sae(G:Gd Uc){fr x301 x302 x303 x304 x305}:Zc fr (Sz x301 x302 x303 x304 x305):=ga G [([0,1,0,1,1,1,0,0,1,0,0,1,0,1,1],λe=>⟨Qz (gL .row e 0 0) (gI e 1 0) (gL .row e 6 0) (gI e 7 0) (gL .row e 8 0) (gL .time e 43 0) (gI e 44 0)⟩)] ⟨λ_=>⟨rfl,rae G⟩,trivial⟩ [(13,[0,1,6,7,8,11,43,44,45])] (Rz x301 x302 x303 x304 x305)
def Tz(x246:LR)(x247:Int)(x248:LR)(x249:Int):Tr (LR×Bool×Unit) LR Empty Empty Empty:=.s (Jz x246 x247 x248 x249) (λq299=>.s (Sz x246 x247 x248 x249 q299) (λq500=>.w [lim (aa .row x248) (aa .row q500)] (.l (.n (x248++q500)))) nE nE nE) nE nE nE
def rJ:=λx246 x247 x248 x249=>(Tz x246 x247 x248 x249).val
def sJ:=λx246 x247 x248 x249=>(Tz x246 x247 x248 x249).ob
def Uz:=λx246 x247 x248 x249=>da.mk (rJ x246 x247 x248 x249) (sJ x246 x247 x248 x249) [0,1,0,0,1,0,1,1] [(0,.S .row x246),(1,.I x247),(6,.A .row x248),(7,.I x249)] se (λq=>[(0,.S .row x246),(1,.I x247),(6,.A .row q),(7,.I x249)]) nE nE nE
theorem tae(G:Gd Uc){fr x246 x247 x248 x249}:Zc fr (Uz x246 x247 x248 x249):=ga G [([0,1,0,0,1,0,0,1,0,1,1],λe=>⟨Jz (gL .row e 0 0) (gI e 1 0) (gL .row e 6 0) (gI e 7 0)⟩),([0,1,1,1,0,0,1,0,0,1,0,1,1],λe=>⟨Sz (gL .row e 0 0) (gI e 1 0) (gL .row e 6 0) (gI e 7 0) (gL .row e 8 0)⟩)] ⟨λ_=>⟨rfl,jae G⟩,λ_=>⟨rfl,sae G⟩,trivial⟩ [(5,[0,1,6,7,8]),(12,[0,1,6,7,8,11]),(28,[0,1,6,7])] (Tz x246 x247 x248 x249)
def Ap(x3:LR)(x4:Int)(s243:LR)(s244:Int):Tr (LR×Bool×Unit) (LR×Int) LR Empty Empty:=.c (cmp .lss s244 4) (.s (Uz x3 x4 s243 s244) (λq507=>.l (.n (q507,(ar .add .i64 s244 1)))) nE nE nE)
 (.l (.x s243))
def Lk:=λx3 x4 s243 s244=>(Ap x3 x4 s243 s244).val
def Bp:=λx3 x4 s243 s244=>(Ap x3 x4 s243 s244).ob
def tJ:=λx3 x4 s243 s244=>Ka (Lk x3 x4 s243 s244) (Bp x3 x4 s243 s244) [0,0,1,0,1,1] (λq=>[(0,.S .row x3),(1,.I x4),(6,.A .row q.1),(7,.I q.2)]) (s243,s244) se (λq=>(0,[(6,.A .row q)])) nE nE
theorem uae(G:Gd Uc){fr x3 x4 s243 s244}:Zc fr (tJ x3 x4 s243 s244):=ga G [([0,1,0,0,1,0,1,1],λe=>⟨Uz (gL .row e 0 0) (gI e 1 0) (gL .row e 6 0) (gI e 7 0)⟩)] ⟨λ_=>⟨rfl,tae G⟩,trivial⟩ [(3,[0,1,6,7,21]),(4,[0,1,6,7])] (Ap x3 x4 s243 s244)
def NU:=λx3 x4=>lpV (λs:LR×Int=>ca (Lk x3 x4 s.1 s.2)) ([],0)
def PU:=λx3 x4=>LpT (λs:LR×Int=>ca (Lk x3 x4 s.1 s.2)) (λs=>Bp x3 x4 s.1 s.2) ([],0)
def Vz:=λx3 x4=>lpS (tJ x3 x4 [] 0) (NU x3 x4) (PU x3 x4)
theorem vae(G:Gd Uc){fr x3 x4}:Zc fr (Vz x3 x4):=Na (λs:LR×Int=>tJ x3 x4 s.1 s.2) ([],0) λ_=>uae G
def Wz(x1:LR)(x2:Int):Tr (LR×Bool×Unit) LR Empty Empty Empty:=.s (Vz x1 x2) nE (λq518=>.l (.n q518)) nE nE
def QU:=λx1 x2=>(Wz x1 x2).val
def RU:=λx1 x2=>(Wz x1 x2).ob
def Xz:=λx1 x2=>da.mk (QU x1 x2) (RU x1 x2) [0,1,1] [(0,.S .row x1),(1,.I x2),(6,.A .row [])] se (λq=>[(6,.A .row q)]) nE nE nE
theorem wae(G:Gd Uc){fr x1 x2}:Zc fr (Xz x1 x2):=ga G [([0,1,0,1,1],λe=>⟨Vz (gL .row e 0 0) (gI e 1 0)⟩)] ⟨λ_=>⟨rfl,vae G⟩,trivial⟩ [(2,[0,1,6,7])] (Wz x1 x2)
def Yz(a0:LR)(a1:Int):Tr (LR×Bool×Unit) Empty Empty Empty Empty:=.s (Xz a0 a1) (λq521=>.w [ah q521] (.l (.r ((re q521).1,((re q521).2.1,()))))) nE nE nE
def uJ:=λa0 a1=>(Yz a0 a1).val
def vJ:=λa0 a1=>(Yz a0 a1).ob
def xae:=λa0 a1=>da.mk (uJ a0 a1) (vJ a0 a1) [] [(0,.S .row a0),(1,.I a1)] se nE nE nE nE
theorem yae(G:Gd Uc){fr a0 a1}:Zc fr (xae a0 a1):=ga G [([0,1,1],λe=>⟨Xz (gL .row e 0 0) (gI e 1 0)⟩)] ⟨λ_=>⟨rfl,wae G⟩,trivial⟩ [(0,[0,1]),(1,[0,1,6]),(29,[4,5])] (Yz a0 a1)
def Zz(a0:LR)(a1:Int):LR×Bool×Unit:=ocR (uJ a0 a1)
def aA(a0:LR)(a1:Int):Prop:=vJ a0 a1
def xJ:Spec:=⟨[(.lst .row),(.int .i64)],.tup [(false,(.lst .row)),(true,.bool)],false,λx=>(Zz x.1 x.2.1,0),λx=>aA x.1 x.2.1⟩
theorem zae(G:Gd Uc):Con Tryz.prog 75 xJ:=Ba (pts:=[(.lst .row),(.int .i64)]) (F:=F75) G λ_ _=>yae G
abbrev V43:=Plan->List LR->LR×Bool×Unit
abbrev Q43:=Plan->List LR->Prop
def bA(v:V43)(p:Q43):Spec:=⟨[(.st .plan),(.lst .lrow)],.tup [(false,(.lst .row)),(true,.bool)],false,λx=>(v x.1 x.2.1,0),λx=>p x.1 x.2.1⟩
def Cp(r43V:V43)(r43P:Q43):SP:=[(43,bA r43V r43P),(72,UH),(73,fI),(54,lI),(47,qk),(48,qI),(74,BI),(75,xJ)]
abbrev F43:Fnn:=⟨[.tmp 4,.tmp 5],.tup [(false,(.lst .row)),(true,.bool)],none,[]⟩
abbrev yJ:LR×Bool×Unit->RV:=rvF F43
abbrev cA:=@OkF Tryz.prog tt Tryz.f43 F43 (LR×Bool×Unit)
def Ep(r43V:V43)(r43P:Q43)(x5:List LR)(_x6 _x7:Int)(x8:LP)(x9:Int)(s15:List LR)(s16:Int):Tr (LR×Bool×Unit) ((List LR)×Int) ((List LR)) Empty Empty:=.c (cmp .lss s16 x9) (.w [inb s16 (aa .plan x8)] (.k (r43V (Plan.mk (rd .plan x8 s16).Kind (rd .plan x8 s16).Num (rd .plan x8 s16).Kids) x5) λu18=>.w [r43P (Plan.mk (rd .plan x8 s16).Kind (rd .plan x8 s16).Num (rd .plan x8 s16).Kids) x5] (.c (!u18.2.1) (.l (.r ([],(false,()))))
 (.w [lim (aa .lrow s15) (aa .lrow [u18.1])] (.l (.n ((s15++[u18.1]),(ar .add .i64 s16 1))))))))
 (.l (.x s15))
def Mk:=λr43V r43P x5 x6 x7 x8 x9 s15 s16=>(Ep r43V r43P x5 x6 x7 x8 x9 s15 s16).val
def Fp:=λr43V r43P x5 x6 x7 x8 x9 s15 s16=>(Ep r43V r43P x5 x6 x7 x8 x9 s15 s16).ob
def zJ:=λr43V r43P x5 x6 x7 x8 x9 s15 s16=>Ka (Mk r43V r43P x5 x6 x7 x8 x9 s15 s16) (Fp r43V r43P x5 x6 x7 x8 x9 s15 s16) [0,0,1,0,1,1] (λq=>[(1,.S .lrow x5),(2,.box [(.fr,.i x6),(.fr,.i x7),(.sh,.lst .plan x8)]),(6,.v (.acc false) (.lst .lrow q.1)),(12,.S .plan x8),(13,.I x9),(14,.I q.2)]) (s15,s16) yJ (λq=>(0,[(1,.S .lrow x5),(2,.box [(.fr,.i x6),(.fr,.i x7),(.sh,.lst .plan x8)]),(6,.v (.acc false) (.lst .lrow q))])) nE nE
theorem Aae{r43V:V43}{r43P:Q43}(G:Gd (Cp r43V r43P)){fr x5 x6 x7 x8 x9 s15 s16}:cA fr (zJ r43V r43P x5 x6 x7 x8 x9 s15 s16):=oa G [(3,[1,2,6,12,13,14,15]),(4,[1,2,6,8,12,13,14]),(5,[1,2,6,9,10,12,13,14]),(6,[1,2,6,9,12,13,14,25]),(7,[4,5]),(8,[1,2,6,12,13,14]),(9,[1,2,6,12,13,14])] (Ep r43V r43P x5 x6 x7 x8 x9 s15 s16)
def SU:=λr43V r43P x5 x6 x7 x8 x9=>lpV (λs:(List LR)×Int=>ca (Mk r43V r43P x5 x6 x7 x8 x9 s.1 s.2)) ([],0)
def UU:=λr43V r43P x5 x6 x7 x8 x9=>LpT (λs:(List LR)×Int=>ca (Mk r43V r43P x5 x6 x7 x8 x9 s.1 s.2)) (λs=>Fp r43V r43P x5 x6 x7 x8 x9 s.1 s.2) ([],0)
def eA:=λr43V r43P x5 x6 x7 x8 x9=>lpS (zJ r43V r43P x5 x6 x7 x8 x9 [] 0) (SU r43V r43P x5 x6 x7 x8 x9) (UU r43V r43P x5 x6 x7 x8 x9)
theorem Bae{r43V:V43}{r43P:Q43}(G:Gd (Cp r43V r43P)){fr x5 x6 x7 x8 x9}:cA fr (eA r43V r43P x5 x6 x7 x8 x9):=Na (λs:(List LR)×Int=>zJ r43V r43P x5 x6 x7 x8 x9 s.1 s.2) ([],0) λ_=>Aae G
def fA(r43V:V43)(r43P:Q43)(x1:List LR)(x2 x3:Int)(x4:LP):Tr (LR×Bool×Unit) ((List LR)) Empty Empty Empty:=.s (eA r43V r43P x1 x2 x3 x4 (aa .plan x4)) nE (λq27=>.l (.n q27)) nE nE
def VU:=λr43V r43P x1 x2 x3 x4=>(fA r43V r43P x1 x2 x3 x4).val
def WU:=λr43V r43P x1 x2 x3 x4=>(fA r43V r43P x1 x2 x3 x4).ob
def gA:=λr43V r43P x1 x2 x3 x4=>da.mk (VU r43V r43P x1 x2 x3 x4) (WU r43V r43P x1 x2 x3 x4) [0,1,1] [(1,.S .lrow x1),(2,.box [(.fr,.i x2),(.fr,.i x3),(.sh,.lst .plan x4)]),(6,.v .fr (.nl .lrow))] yJ (λq=>[(1,.S .lrow x1),(2,.box [(.fr,.i x2),(.fr,.i x3),(.sh,.lst .plan x4)]),(6,.v (.acc false) (.lst .lrow q))]) nE nE nE
theorem Cae{r43V:V43}{r43P:Q43}(G:Gd (Cp r43V r43P)){fr x1 x2 x3 x4}:cA fr (gA r43V r43P x1 x2 x3 x4):=ga G [([0,1,0,1,1],λe=>⟨eA r43V r43P (gL .lrow e 1 0) (gI e 2 0) (gI e 2 1) (gL .plan e 2 2) (gI e 13 0)⟩)] ⟨λ_=>⟨rfl,Bae G⟩,trivial⟩ [(2,[1,2,6,12,13,14])] (fA r43V r43P x1 x2 x3 x4)
def iA(r43V:V43)(r43P:Q43)(a0:Plan)(a1:List LR):Tr (LR×Bool×Unit) Empty Empty Empty Empty:=.s (gA r43V r43P a1 a0.Kind a0.Num a0.Kids) (λq30=>.c (cmp .eql a0.Kind 1) (.w [inb a0.Num (aa .lrow a1),Rx (rd .lrow a1 a0.Num)] (.l (.r ((Qx (rd .lrow a1 a0.Num)),(true,())))))
 (.c (cmp .eql a0.Kind 2) (.k (ey (rd .lrow q30 0) a0.Num) λu35=>.w [inb 0 (aa .lrow q30),fy (rd .lrow q30 0) a0.Num] (.l (.r (u35.1,(u35.2.1,())))))
 (.c (cmp .eql a0.Kind 3) (.k (jy (rd .lrow q30 0) (rd .lrow q30 1)) λu37=>.w [inb 0 (aa .lrow q30),inb 1 (aa .lrow q30),ly (rd .lrow q30 0) (rd .lrow q30 1),ah u37] (.l (.r ((re u37).1,((re u37).2.1,())))))
 (.c (cmp .eql a0.Kind 4) (.k (uy (rd .lrow q30 0)) λu40=>.w [inb 0 (aa .lrow q30),wy (rd .lrow q30 0),ah u40] (.l (.r ((re u40).1,((re u40).2.1,())))))
 (.c (cmp .eql a0.Kind 5) (.k (Iy (rd .lrow q30 0) (rd .lrow q30 1)) λu43=>.w [inb 0 (aa .lrow q30),inb 1 (aa .lrow q30),Jy (rd .lrow q30 0) (rd .lrow q30 1)] (.l (.r (u43.1,(u43.2.1,())))))
 (.k (Zz (rd .lrow q30 0) a0.Num) λu44=>.w [inb 0 (aa .lrow q30),aA (rd .lrow q30 0) a0.Num] (.l (.r (u44.1,(u44.2.1,())))))))))) nE nE nE
def jA:=λr43V r43P a0 a1=>(iA r43V r43P a0 a1).val
def kA:=λr43V r43P a0 a1=>(iA r43V r43P a0 a1).ob
def Dae:=λr43V r43P a0 a1=>da.mk (jA r43V r43P a0 a1) (kA r43V r43P a0 a1) [] [(0,.agg false [.i a0.Kind,.i a0.Num,.lst .plan a0.Kids]),(1,.S .lrow a1)] yJ nE nE nE nE
theorem Eae{r43V:V43}{r43P:Q43}(G:Gd (Cp r43V r43P)){fr a0 a1}:cA fr (Dae r43V r43P a0 a1):=ga G [([0,1,1],λe=>⟨gA r43V r43P (gL .lrow e 1 0) (gI e 2 0) (gI e 2 1) (gL .plan e 2 2)⟩)] ⟨λ_=>⟨rfl,Cae G⟩,trivial⟩ [(0,[1,2]),(1,[1,2,6]),(10,[1,2,6,32]),(11,[1,2,6,32,33]),(12,[4,5]),(13,[2,6,32,41]),(14,[4,5]),(15,[2,6,32,51]),(16,[4,5]),(17,[2,6,32,63]),(18,[4,5]),(19,[2,6,72]),(20,[4,5]),(21,[4,5])] (iA r43V r43P a0 a1)
theorem Fae{r43V:V43}{r43P:Q43}(G:Gd (Cp r43V r43P)):Con Tryz.prog 43 (bA (λa0 a1=>ocR (jA r43V r43P a0 a1)) (λa0 a1=>kA r43V r43P a0 a1)):=Ba (pts:=[(.st .plan),(.lst .lrow)]) (F:=F43) G λ_ _=>Eae G
def Vc:Nat->V43×Q43
 |0=>(λ_ _=>default,λ_ _=>False)
 |n+1=>(λa0 a1=>ocR (jA (Vc n).1 (Vc n).2 a0 a1),λa0 a1=>kA (Vc n).1 (Vc n).2 a0 a1)
def AJ:V43:=(Vc Pc).1
def BJ:Q43:=(Vc Pc).2
def XU:Spec:=bA AJ BJ
def Gp:SP:=[(17,wH),(16,Do),(43,XU)]
abbrev F14:Fnn:=⟨[.tmp 4,.tmp 5],.tup [(false,(.lst .row)),(true,.bool)],none,[]⟩
abbrev CJ:LR×Bool×Unit->RV:=rvF F14
abbrev lA:=@OkF Tryz.prog tt Tryz.f14 F14 (LR×Bool×Unit)
def Hp(x7:List LR)(_x8 _x9:Int)(_x10:LP)(x11 s16:Int):Tr (LR×Bool×Unit) Int Unit Empty Empty:=.c (cmp .lss s16 x11) (.w [inb s16 (aa .lrow x7)] (.w [nk (rd .lrow x7 s16)] (.c (!(jk (rd .lrow x7 s16))) (.l (.r ([],(false,()))))
 (.l (.n (ar .add .i64 s16 1))))))
 (.l (.x ()))
def Nk:=λx7 x8 x9 x10 x11 s16=>(Hp x7 x8 x9 x10 x11 s16).val
def Ip:=λx7 x8 x9 x10 x11 s16=>(Hp x7 x8 x9 x10 x11 s16).ob
def DJ:=λx7 x8 x9 x10 x11 s16=>Ka (Nk x7 x8 x9 x10 x11 s16) (Ip x7 x8 x9 x10 x11 s16) [0,0,1,0,1,1] (λq=>[(1,.S .lrow x7),(2,.box [(.fr,.i x8),(.fr,.i x9),(.sh,.lst .plan x10)]),(16,.S .lrow x7),(17,.I x11),(18,.I q)]) s16 CJ (λ_=>(0,[(1,.S .lrow x7),(2,.box [(.fr,.i x8),(.fr,.i x9),(.sh,.lst .plan x10)])])) nE nE
theorem Gae(G:Gd Gp){fr x7 x8 x9 x10 x11 s16}:lA fr (DJ x7 x8 x9 x10 x11 s16):=oa G [(4,[1,2,16,17,18,19]),(5,[1,2,7,16,17,18]),(6,[1,2,16,17,18,24]),(7,[4,5]),(8,[1,2,16,17,18])] (Hp x7 x8 x9 x10 x11 s16)
def YU:=λx7 x8 x9 x10 x11=>lpV (λs:Int=>ca (Nk x7 x8 x9 x10 x11 s)) 0
def ZU:=λx7 x8 x9 x10 x11=>LpT (λs:Int=>ca (Nk x7 x8 x9 x10 x11 s)) (λs=>Ip x7 x8 x9 x10 x11 s) 0
def mA:=λx7 x8 x9 x10 x11=>lpS (DJ x7 x8 x9 x10 x11 0) (YU x7 x8 x9 x10 x11) (ZU x7 x8 x9 x10 x11)
theorem Hae(G:Gd Gp){fr x7 x8 x9 x10 x11}:lA fr (mA x7 x8 x9 x10 x11):=Na (λs:Int=>DJ x7 x8 x9 x10 x11 s) 0 λ_=>Gae G
def nA(x3:List LR)(x4 x5:Int)(x6:LP):Tr (LR×Bool×Unit) Unit Empty Empty Empty:=.s (mA x3 x4 x5 x6 (aa .lrow x3)) nE (λ_=>.l (.n ())) nE nE
def aV:=λx3 x4 x5 x6=>(nA x3 x4 x5 x6).val
def bV:=λx3 x4 x5 x6=>(nA x3 x4 x5 x6).ob
def oA:=λx3 x4 x5 x6=>da.mk (aV x3 x4 x5 x6) (bV x3 x4 x5 x6) [0,1,1] [(1,.S .lrow x3),(2,.box [(.fr,.i x4),(.fr,.i x5),(.sh,.lst .plan x6)])] CJ (λ_=>[(1,.S .lrow x3),(2,.box [(.fr,.i x4),(.fr,.i x5),(.sh,.lst .plan x6)])]) nE nE nE
theorem Iae(G:Gd Gp){fr x3 x4 x5 x6}:lA fr (oA x3 x4 x5 x6):=ga G [([0,1,0,1,1],λe=>⟨mA (gL .lrow e 1 0) (gI e 2 0) (gI e 2 1) (gL .plan e 2 2) (gI e 17 0)⟩)] ⟨λ_=>⟨rfl,Hae G⟩,trivial⟩ [(3,[1,2,16,17,18])] (nA x3 x4 x5 x6)
def pA(a0:Plan)(a1:List LR):Tr (LR×Bool×Unit) Empty Empty Empty Empty:=.w [Ax (Plan.mk a0.Kind a0.Num a0.Kids)] (.c (cond (!(zx (Plan.mk a0.Kind a0.Num a0.Kids))) true (cmp .neq (aa .lrow a1) 2)) (.l (.r ([],(false,()))))
 (.s (oA a1 a0.Kind a0.Num a0.Kids) (λ_=>.k (AJ (Plan.mk a0.Kind a0.Num a0.Kids) a1) λu28=>.w [BJ (Plan.mk a0.Kind a0.Num a0.Kids) a1] (.l (.r (u28.1,(u28.2.1,()))))) nE nE nE))
def FJ:=λa0 a1=>(pA a0 a1).val
def GJ:=λa0 a1=>(pA a0 a1).ob
def Jae:=λa0 a1=>da.mk (FJ a0 a1) (GJ a0 a1) [] [(0,.agg false [.i a0.Kind,.i a0.Num,.lst .plan a0.Kids]),(1,.S .lrow a1)] CJ nE nE nE nE
theorem Kae(G:Gd Gp){fr a0 a1}:lA fr (Jae a0 a1):=ga G [([0,1,1],λe=>⟨oA (gL .lrow e 1 0) (gI e 2 0) (gI e 2 1) (gL .plan e 2 2)⟩)] ⟨λ_=>⟨rfl,Iae G⟩,trivial⟩ [(0,[1,2]),(1,[1,2,15]),(2,[4,5]),(9,[4,5])] (pA a0 a1)
def Jp(a0:Plan)(a1:List LR):LR×Bool×Unit:=ocR (FJ a0 a1)
def Kp(a0:Plan)(a1:List LR):Prop:=GJ a0 a1
def HJ:Spec:=⟨[(.st .plan),(.lst .lrow)],.tup [(false,(.lst .row)),(true,.bool)],false,λx=>(Jp x.1 x.2.1,0),λx=>Kp x.1 x.2.1⟩
theorem Lae(G:Gd Gp):Con Tryz.prog 14 HJ:=Ba (pts:=[(.st .plan),(.lst .lrow)]) (F:=F14) G λ_ _=>Kae G
def Mp:SP:=[]
abbrev F15:Fnn:=⟨[.tmp 4],.one .fr .bool,none,[]⟩
abbrev IJ:Bool->RV:=rvF F15
abbrev qA:=@OkF Tryz.prog tt Tryz.f15 F15 Bool
def qi(x4 x5:LR)(s9:Int):Tr Bool Int Unit Empty Empty:=.c (cmp .lss s9 (aa .row x4)) (.w [inb s9 (aa .row x4),inb s9 (aa .row x5)] (.c (!(cmp .eql (rd .row x4 s9).Key (rd .row x5 s9).Key&&(cmp .eql (rd .row x4 s9).Val (rd .row x5 s9).Val&&(cmp .eql (rd .row x4 s9).At.A (rd .row x5 s9).At.A&&(cmp .eql (rd .row x4 s9).At.B (rd .row x5 s9).At.B&&(cmp .eql (rd .row x4 s9).Diff (rd .row x5 s9).Diff&&true)))))) (.l (.r false))
 (.l (.n (ar .add .i64 s9 1)))))
 (.l (.x ()))
def qg:=λx4 x5 s9=>(qi x4 x5 s9).val
def dh:=λx4 x5 s9=>(qi x4 x5 s9).ob
def JJ:=λx4 x5 s9=>Ka (qg x4 x5 s9) (dh x4 x5 s9) [0,0,1,0,1,1] (λq=>[(0,.S .row x4),(1,.S .row x5),(5,.I q)]) s9 IJ (λ_=>(0,[])) nE nE
theorem Mae(G:Gd Mp){fr x4 x5 s9}:qA fr (JJ x4 x5 s9):=oa G [(4,[0,1,5,14]),(5,[0,1,5]),(6,[0,1,5,25]),(7,[4])] (qi x4 x5 s9)
def cV:=λx4 x5=>lpV (λs:Int=>ca (qg x4 x5 s)) 0
def dV:=λx4 x5=>LpT (λs:Int=>ca (qg x4 x5 s)) (λs=>dh x4 x5 s) 0
def Np:=λx4 x5=>lpS (JJ x4 x5 0) (cV x4 x5) (dV x4 x5)
theorem Nae(G:Gd Mp){fr x4 x5}:qA fr (Np x4 x5):=Na (λs:Int=>JJ x4 x5 s) 0 λ_=>Mae G
def Pp(x2 x3:LR):Tr Bool Unit Empty Empty Empty:=.s (Np x2 x3) nE (λ_=>.l (.n ())) nE nE
def eV:=λx2 x3=>(Pp x2 x3).val
def fV:=λx2 x3=>(Pp x2 x3).ob
def Qp:=λx2 x3=>da.mk (eV x2 x3) (fV x2 x3) [0,1,1] [(0,.S .row x2),(1,.S .row x3)] IJ (λ_=>[]) nE nE nE
theorem Oae(G:Gd Mp){fr x2 x3}:qA fr (Qp x2 x3):=ga G [([0,1,0,1,1],λe=>⟨Np (gL .row e 0 0) (gL .row e 1 0)⟩)] ⟨λ_=>⟨rfl,Nae G⟩,trivial⟩ [(3,[0,1,5])] (Pp x2 x3)
def Rp(a0 a1:LR):Tr Bool Empty Empty Empty Empty:=.c (cmp .neq (aa .row a0) (aa .row a1)) (.l (.r false))
 (.s (Qp a0 a1) (λ_=>.l (.r true)) nE nE nE)
def LJ:=λa0 a1=>(Rp a0 a1).val
def MJ:=λa0 a1=>(Rp a0 a1).ob
def Pae:=λa0 a1=>da.mk (LJ a0 a1) (MJ a0 a1) [] [(0,.S .row a0),(1,.S .row a1)] IJ nE nE nE nE
theorem Qae(G:Gd Mp){fr a0 a1}:qA fr (Pae a0 a1):=ga G [([0,1,1],λe=>⟨Qp (gL .row e 0 0) (gL .row e 1 0)⟩)] ⟨λ_=>⟨rfl,Oae G⟩,trivial⟩ [(0,[0,1]),(1,[0,1,10]),(2,[4]),(8,[4])] (Rp a0 a1)
def rA(a0:LR)(a1:LR):Bool:=ocR (LJ a0 a1)
def sA(a0:LR)(a1:LR):Prop:=MJ a0 a1
def NJ:Spec:=⟨[(.lst .row),(.lst .row)],.one .fr .bool,false,λx=>(rA x.1 x.2.1,0),λx=>sA x.1 x.2.1⟩
theorem Rae(G:Gd Mp):Con Tryz.prog 15 NJ:=Ba (pts:=[(.lst .row),(.lst .row)]) (F:=F15) G λ_ _=>Qae G
def gV:SP:=[(12,Nt),(13,mH),(14,HJ),(15,NJ),(16,Do)]
abbrev F3:Fnn:=⟨[.tmp 2],.one .fr .bool,none,[]⟩
abbrev rv3:Bool->RV:=rvF F3
abbrev Ok3:=@OkF Tryz.prog tt Tryz.f3 F3 Bool
def Sp(a0:LB):Tr Bool Empty Empty Empty Empty:=.c (cmp .gtr (aa .byte a0) 1048576) (.l (.r true))
 (.k (Wg a0) λu2=>.w [nj a0] (.k (mo (Plan.mk u2.1.Kind u2.1.Num u2.1.Kids) u2.2.1) λu3=>.w [po (Plan.mk u2.1.Kind u2.1.Num u2.1.Kids) u2.2.1] (.k (Jp (Plan.mk u2.1.Kind u2.1.Num u2.1.Kids) u2.2.1) λu4=>.w [Kp (Plan.mk u2.1.Kind u2.1.Num u2.1.Kids) u2.2.1] (.k (rA u4.1 u3.1) λu5=>.w [((u4.2.1 == u3.2.1)&&true)=true->(sA u4.1 u3.1),((cond (cond (u4.2.1 == u3.2.1) u5 false) (cond u4.2.1 true (cmp .eql (aa .row u4.1) 0)) false)&&true)=true->(nk u4.1)] (.l (.r (cond (cond (cond (u4.2.1 == u3.2.1) u5 false) (cond u4.2.1 true (cmp .eql (aa .row u4.1) 0)) false) (jk u4.1) false)))))))
def tA:=λa0=>(Sp a0).val
def uA:=λa0=>(Sp a0).ob
def Sae:=λa0=>da.mk (tA a0) (uA a0) [] [(0,.S .byte a0)] rv3 nE nE nE nE
theorem Tae(G:Gd gV){fr a0}:Ok3 fr (Sae a0):=oa G [(0,[0]),(1,[0,11]),(2,[2]),(3,[3,4]),(4,[3,4,5,6]),(5,[5,6,7,8]),(6,[2])] (Sp a0)
def vA(a0:LB):Bool:=ocR (tA a0)
def wA(a0:LB):Prop:=uA a0
def iV:Spec:=⟨[(.lst .byte)],.one .fr .bool,false,λx=>(vA x.1,0),λx=>wA x.1⟩
theorem Uae(G:Gd gV):Con Tryz.prog 3 iV:=Ba (pts:=[(.lst .byte)]) (F:=F3) G λ_ _=>Tae G
def jV(a0 a1:Time):Tr Time Empty Empty Empty Empty:=.w [ji a0,((!(!(Hf a0)))&&true)=true->(ji a1)] (.c (cond (!(Hf a0)) true (!(Hf a1))) (.l (.r (Time.mk 0 0)))
 (.l (.r (Time.mk (mn a0.A a1.A) (mn a0.B a1.B)))))
def Vae:=λa0 a1=>(jV a0 a1).val
def Wae:=λa0 a1=>(jV a0 a1).ob
def Xae(a0:Time)(a1:Time):Time:=ocR (Vae a0 a1)
def Yae(a0:Time)(a1:Time):Prop:=Wae a0 a1
abbrev Zae:Fnn:=⟨[.cell 4 38],.one .fr (.st .time),none,[]⟩
abbrev kV:Time->RV:=rvF Zae
def lV(x6 _x7:Time)(x8:List Time)(x9 s16 s17 s18:Int):Tr Time (Int×Int×Int) (Int×Int) Empty Empty:=.c (cmp .lss s18 x9) (.w [inb s18 (aa .time x8)] (.k (mi (rd .time x8 s18) x6) λu20=>.k (Xae (Time.mk s16 s17) u20) λu21=>.w [ni (rd .time x8 s18) x6,Yae (Time.mk s16 s17) u20] (.l (.n (u21.A,u21.B,(ar .add .i64 s18 1))))))
 (.l (.x (s16,s17)))
def PJ:=λx6 x7 x8 x9 s16 s17 s18=>(lV x6 x7 x8 x9 s16 s17 s18).val
def mV:=λx6 x7 x8 x9 s16 s17 s18=>(lV x6 x7 x8 x9 s16 s17 s18).ob
def aaf:=λx6 x7 x8 x9 s16 s17 s18=>Ka (PJ x6 x7 x8 x9 s16 s17 s18) (mV x6 x7 x8 x9 s16 s17 s18) [0,0,1,0,1,1,1] (λq=>[(3,.B [x6.A,x6.B]),(4,.B [0,0]),(5,.B [q.1,q.2.1]),(17,.S .time x8),(18,.I x9),(19,.I q.2.2)]) (s16,s17,s18) kV (λq=>(0,[(4,.B [0,0]),(5,.B [q.1,q.2])])) nE nE
def baf:=λx6 x7 x8 x9=>lpV (λs:Int×Int×Int=>ca (PJ x6 x7 x8 x9 s.1 s.2.1 s.2.2)) (x7.A,x7.B,0)
def caf:=λx6 x7 x8 x9=>LpT (λs:Int×Int×Int=>ca (PJ x6 x7 x8 x9 s.1 s.2.1 s.2.2)) (λs=>mV x6 x7 x8 x9 s.1 s.2.1 s.2.2) (x7.A,x7.B,0)
def daf:=λx6 x7 x8 x9=>lpS (aaf x6 x7 x8 x9 x7.A x7.B 0) (baf x6 x7 x8 x9) (caf x6 x7 x8 x9)
def nV(x3:List Time)(x4 x5:Time):Tr Time (Int×Int) Empty Empty Empty:=.s (daf x4 x5 x3 (aa .time x3)) nE (λq32=>.l (.n (q32.1,q32.2))) nE nE
def eaf:=λx3 x4 x5=>(nV x3 x4 x5).val
def faf:=λx3 x4 x5=>(nV x3 x4 x5).ob
def gaf:=λx3 x4 x5=>da.mk (eaf x3 x4 x5) (faf x3 x4 x5) [0,1,1,1] [(0,.S .time x3),(3,.B [x4.A,x4.B]),(4,.B [0,0]),(5,.B [x5.A,x5.B])] kV (λq=>[(4,.B [0,0]),(5,.B [q.1,q.2])]) nE nE nE
def oV(a0:List Time)(a1:Time):Tr Time Empty Empty Empty Empty:=.c (cmp .eql (aa .time a0) 0) (.l (.r a1))
 (.w [inb 0 (aa .time a0),ni (rd .time a0 0) a1] (.s (gaf a0 a1 (mi (rd .time a0 0) a1)) (λq36=>.l (.r (Time.mk q36.1 q36.2))) nE nE nE))
def haf:=λa0 a1=>(oV a0 a1).val
def iaf:=λa0 a1=>(oV a0 a1).ob
def Tp(a0:List Time)(a1:Time):Time:=ocR (haf a0 a1)
def Ok(a0:List Time)(a1:Time):Prop:=iaf a0 a1
def jaf:Spec:=⟨[(.lst .time),(.st .time)],.one .fr (.st .time),false,λx=>(Tp x.1 x.2.1,0),λx=>Ok x.1 x.2.1⟩
def pV:SP:=[(110,jaf)]
def kaf(a0:LR)(a1:List Time):LR:=a0.map λr=>⟨r.Key,r.Val,Tp a1 r.At,r.Diff⟩
def qV(a0:LR)(a1:List Time):Prop:=a0.length<1000000/\∀r∈a0,Ok a1 r.At
def laf:Spec:=⟨[.lst .row,.lst .time],.one .sh (.lst .row),false,λx=>(kaf x.1 x.2.1,0),λx=>qV x.1 x.2.1⟩
end
end Go.Proofs.YthfkpijcajdnhaaGreat

namespace Go.Proofs.YthfkpijcajdnhaaGreat
namespace Dp
open Go
set_option maxRecDepth 100000
noncomputable def C:Code:=Jd Tryz.f12
noncomputable def o5(i:Nat):Oper:=opN (opsOf (nav C [1,1,1,1,0,1,0])) i
noncomputable def o7(i:Nat):Oper:=opN (opsOf (nav C [1,1,1,1,1,0,1,0])) i
def E0:AV:=.box [(.fr,.int .i64 0),(.fr,.int .i64 0),(.fr,.nl .plan)]
def RD(b:LB)(p:Int):AV:=.box [(.sh,.lst .byte b),(.fr,.int .i64 p)]
def EP(p:Plan):AV:=.box [(.fr,.int .i64 p.Kind),(.fr,.int .i64 p.Num),(.fr,.lst .plan p.Kids)]
def LL(k:K)(l:List LR):AV:=.v k (.lst .lrow l)
abbrev N0:NP:=⟨30,none,[]⟩
theorem ops5:(o5 0).op=.move (.tmp 6)/\(o5 0).dst=some 19/\(o5 0).guard=none/\(o5 1).op=.slice 26 (.tmp 19) (some (.const (.int .i64 1))) none none/\(o5 1).dst=some 20/\(o5 1).guard=none /\
  (o5 2).op=.assign (.tmp 20)/\(o5 2).dst=some 6/\(o5 2).guard=none/\List.range (opsOf (nav C [1,1,1,1,0,1,0])).size=[0,1,2] /\
  (opsOf (nav C [1,1,1,1,0,1,0]))[0]? = some (o5 0)/\(opsOf (nav C [1,1,1,1,0,1,0]))[1]? = some (o5 1)/\(opsOf (nav C [1,1,1,1,0,1,0]))[2]? = some (o5 2):=⟨by kernel_rfl,by kernel_rfl,by kernel_rfl,by kernel_rfl,by kernel_rfl,by kernel_rfl,by kernel_rfl,by kernel_rfl,by kernel_rfl,by kernel_rfl,by kernel_rfl,by kernel_rfl,by kernel_rfl⟩
theorem ops7:(o7 0).op=.move (.tmp 6)/\(o7 0).dst=some 24/\(o7 0).guard=none/\(o7 1).dst=some 25/\(o7 1).guard=none/\(o7 2).dst=some 26/\(o7 2).guard=none /\
  (o7 3).op=.indexAddr 26 (.tmp 24) (.const (.int .i64 0))/\(o7 3).dst=some 27/\(o7 3).guard=none/\List.range (opsOf (nav C [1,1,1,1,1,0,1,0])).size=[0,1,2,3,4] /\
  (opsOf (nav C [1,1,1,1,1,0,1,0]))[0]? = some (o7 0)/\(opsOf (nav C [1,1,1,1,1,0,1,0]))[1]? = some (o7 1)/\(opsOf (nav C [1,1,1,1,1,0,1,0]))[2]? = some (o7 2)/\(opsOf (nav C [1,1,1,1,1,0,1,0]))[3]? = some (o7 3)/\(opsOf (nav C [1,1,1,1,1,0,1,0]))[4]? = some (o7 4):=⟨by kernel_rfl,by kernel_rfl,by kernel_rfl,by kernel_rfl,by kernel_rfl,by kernel_rfl,by kernel_rfl,by kernel_rfl,by kernel_rfl,by kernel_rfl,by kernel_rfl,by kernel_rfl,by kernel_rfl,by kernel_rfl,by kernel_rfl,by kernel_rfl⟩
section
variable {Q:Exit->Act->World->Prop} {B:Nat} {W0:World} {F0:Fz} {a:Act} {w:World} {p:Plan} {l:List LR}
theorem tail(G:Good Tryz.prog tt mF)(hs:MS N0 B [] W0 F0 [] [(2,E0),(5,EP p),(6,LL .sh l)] a w)(hQ:∀a w,MS N0 B [] W0 F0 [] [(2,EP p),(3,LL .sh l)] a w->Q .ret a w):(nav C [1,1,1,1,1,1]).wp Tryz.prog Q a w:=by
 refine ka (c1:=nav C [1,1,1,1,1,1,0]) (c2:=nav C [1,1,1,1,1,1,1]) (by kernel_rfl) ?_;refine MS.regC G (keep:=[2,3]) (e':=[(2,EP p),(3,LL .sh l)]) (ps:=[]) (by kernel_rfl) trivial hs (λa w hs=>?_);exact Lg (by kernel_rfl) (hQ a w hs)
abbrev U(b c:Nat):Value:=.slice (some ⟨b,0,none⟩) 2 c
abbrev V(b c:Nat):Value:=.slice (some ⟨b,1,none⟩) 1 (c - 1)
abbrev N5(b c:Nat):NP:=⟨30,none,[(6,V b c),(20,V b c),(19,U b c)]⟩
theorem szL(w:World):(sizeOf 29).run Tryz.prog w=.ok 1 w:=by rfl
theorem oW{x y:LR}{r:LB}{q:Int}(hs:MS N0 B [] W0 F0 [] [(2,E0),(4,RD r q),(5,EP p),(6,LL (.own false) [x,y])] a w)
  (hQ:∀b c a w,2<=c->MS (N5 b c) B [] W0 F0 [] [(19,LL (.own false) [x,y]),(2,E0),(4,RD r q),(5,EP p)] a w->Q .normal a w):(nav C [1,1,1,1,0,1,0]).wp Tryz.prog Q a w:=by
 obtain⟨p0,d0,g0,p1,d1,g1,p2,d2,g2,hsz,a0,a1,a2⟩:=ops5;obtain⟨b,c,hv,hc⟩:=hs.ownv (s:=6) (f:=false) (t:=.lrow) (x:=x) (xs:=[y]) rfl;have hv:a.tmps.getD 6 undef=U b c:=hv;have hc:2<=c:=hc;refine Mc (by kernel_rfl) hsz ?_;rw[wpOps_cons];refine wa a0 g0 ?_;refine Ja (Xd p0) ?_;rw[d0,wpOps_cons];have h1:=hs.ren (s:=6) (d:=19) (by kernel_rfl) (by kernel_rfl) (by decide);rw[hv]at h1⊢;refine wa a1 g1 ?_;refine Ja (xY p1 (h1.k (s:=19) (v:=U b c) (by simp)) (by omega) (by omega) hc (by omega) (e:=29) (sz:=1) (by kernel_rfl) szL) ?_;rw[d1,wpOps_cons];have h2:=h1.val (d:=20) (by kernel_rfl) (v:=V b c) (av:=.dead) rfl (λ_ _=>trivial);refine wa a2 g2 ?_;refine Ja (Cl p2) ?_;have hk:∀ {a:Act},a.tmps.getD 20 undef=V b c->a.tmps.getD 20 undef=V b c:=λh=>h;rw[d2];have h20:=h2.k (s:=20) (v:=V b c) (by simp);refine Cc _ ?_;have h3:=h2.val (d:=6) (by kernel_rfl) (v:=V b c) (av:=.dead) rfl (λ_ _=>trivial);refine hQ b c _ _ hc ?_;have h4:MS (N5 b c) B [] W0 F0 [] [(19,LL (.own false) [x,y]),(2,E0),(4,RD r q),(5,EP p)] _ _:=(h3.weak (ma.cast (pat:=[(19,.same),(2,.same),(4,.same),(5,.same)]) (by kernel_rfl) (by kernel_rfl))).forget rfl rfl (λp hp=>hp) (λp hp=>hp);have e:(((a.put (some 19) (U b c)).put (some 20) (V b c)).tmps.getD 20 undef)=V b c:=h20;exact e▸h4
theorem pW(G:Good Tryz.prog tt mF){x y:LR}{r:LB}{q:Int}{b c:Nat}(ho:ci (r,q))(hs:MS (N5 b c) B [] W0 F0 [] [(19,LL (.own false) [x,y]),(2,E0),(4,RD r q),(5,EP p)] a w)
  (hQ:∀a w,MS (N5 b c) B [] W0 F0 [] [(19,LL (.own false) [x,(Dd (r,q)).1]),(2,E0),(4,RD r (Dd (r,q)).2),(5,EP p)] a w->Q .normal a w):(nav C [1,1,1,1,1,0,1,0]).wp Tryz.prog Q a w:=by
 obtain⟨p0,d0,g0,d1,g1,d2,g2,p3,d3,g3,hsz,a0,a1,a2,a3,a4⟩:=ops7;refine Mc (by kernel_rfl) hsz ?_;rw[wpOps_cons];refine wa a0 g0 ?_;refine Ja (Xd p0) ?_;have h6:=hs.k (s:=6) (v:=V b c) (by simp);rw[d0,wpOps_cons,h6];have h1:=hs.val (d:=24) (by kernel_rfl) (v:=V b c) (av:=.dead) rfl (λ_ _=>trivial);refine wa a1 g1 ?_;refine h1.stepF G (ops:=opsOf (nav C [1,1,1,1,1,0,1,0])) (e':=[(25,.view 4 none),(24,.dead),(19,LL (.own false) [x,y]),(2,E0),(4,RD r q),(5,EP p)]) (ps:=[]) g1 (by kernel_rfl) trivial (λd hd=>by rw[d1]at hd;cases hd;rfl) (λa w h2=>?_);rw[wpOps_cons];refine wa a2 g2 ?_;refine h2.stepF G (ops:=opsOf (nav C [1,1,1,1,1,0,1,0])) (e':=[(26,.v (.acc false) (.lst .row (Dd (r,q)).1)),(4,RD r (Dd (r,q)).2),(25,.view 4 none),(24,.dead),(19,LL (.own false) [x,y]),(2,E0),(4,RD r q),(5,EP p)]) (ps:=[ci (r,q)]) g2 (by kernel_rfl) ⟨ho,trivial⟩ (λd hd=>by rw[d2]at hd;cases hd;rfl) (λa w h3=>?_);rw[wpOps_cons];refine wa a3 g3 ?_;refine Ja (wY p3 (h3.k (s:=24) (v:=V b c) (by simp)) (by omega) (by omega) (e:=29) (sz:=1) (by kernel_rfl) szL) ?_;rw[d3];have h4:=h3.oput (d:=27) (s:=19) (f:=false) (t:=.lrow) (xs:=[x,y]) (by kernel_rfl) (by decide) rfl (h3.k (s:=19) (v:=U b c) (by simp)) (i:=1) (by simp);have h5:=h4.forget (N':=N5 b c) (obs':=[]) rfl rfl (λp hp=>List.mem_cons_of_mem _ hp) (λp hp=>hp);exact h5.suf G (ops:=opsOf (nav C [1,1,1,1,1,0,1,0])) (l:=[o7 4]) (i:=4) (keep:=[19,2,4,5]) (e':=[(19,LL (.own false) [x,(Dd (r,q)).1]),(2,E0),(4,RD r (Dd (r,q)).2),(5,EP p)]) (ps:=[inb 1 (aa .lrow [x,y])]) (λj o hj=>by cases j with|zero=>simp at hj;rw[← hj];exact a4|succ j=>simp at hj) (by kernel_rfl) (by kernel_rfl) ⟨⟨by omega,by unfold aa;simp⟩,trivial⟩ hQ
theorem oK{x y:LR}{r:LB}{q:Int}{b c:Nat}(hc:2<=c)(hs:MS (N5 b c) B [] W0 F0 [] [(19,LL (.own false) [x,y]),(2,E0),(4,RD r q),(5,EP p)] a w):MS N0 B [] W0 F0 [] [(2,E0),(5,EP p),(6,LL .sh [y])] a w:=by
 have h1:=(hs.freeze 19).weak (ma.cast (e':=[(2,E0),(5,EP p),(19,LL (.acc false) [x,y])]) (pat:=[(2,.same),(5,.same),(19,.same)]) (by kernel_rfl) (by kernel_rfl))
 have h2:=h1.say (s:=19) (d:=6) (f:=false) (c:=.lst .lrow [x,y]) (c':=.lst .lrow [y]) (by kernel_rfl) rfl rfl (λF h=>by
  rw[h1.k (s:=19) (v:=U b c) (by simp)]at h;rw[h1.k (s:=6) (v:=V b c) (by simp)];have h3:=h.part (m:=1) (k:=2) (by omega) (by simp)
  have e:sliced (some ⟨b,0,none⟩) 1 2 c Ty.lrow.size=V b c:=by
   unfold sliced;rw[if_neg (by omega)];rfl
  rw[e]at h3;exact h3)
 exact (h2.weak (ma.cast (pat:=[(2,.same),(5,.same),(6,.same)]) (by kernel_rfl) (by kernel_rfl))).forget rfl rfl (λp hp=>by cases hp) (λp hp=>hp)
end
theorem con(G:Good Tryz.prog tt mF):Con Tryz.prog 12 Nt:=by
 refine Gi G.htt (fn:=Tryz.f12) (c:=C) (by kernel_rfl) (by kernel_rfl) (by kernel_rfl) (rs:=[.cell 2 25,.tmp 3]) (by kernel_rfl) (by kernel_rfl) (λ_=>rfl) ?_;intro x hx fr hfB hfL hIO a w hs;obtain⟨B,IoB,W0,F0⟩:=fr;have hIO:IoB=[]:=hIO rfl;subst hIO;obtain⟨a0,u⟩:=x;obtain⟨o1,o2,o3,o4,o5,o6,o7⟩:=(show nj a0 from hx);have hms:MS N0 B [] W0 F0 [] [(0,.v .sh (.lst .byte a0))] a w:=(MS.of hs hfB).forget (by kernel_rfl) rfl (λp h=>by cases h) (λp h=>by cases h)
 have fin:∀ {p:Plan} {l:List LR} {a:Act} {w:World},Wg a0=(p,l,())->MS N0 B [] W0 F0 [] [(2,EP p),(3,LL .sh l)] a w ->
   ∃e,Sim ⟨(Tryz.f12).ntmps,none,[]⟩ B [] W0 F0 e a w/\Ei tt [.cell 2 25,.tmp 3] Nt (a0,u) e:=λ{p l a w} hv hs=>by
  refine⟨[(2,EP p),(3,LL .sh l)],(hs.forget (N':=⟨(Tryz.f12).ntmps,none,[]⟩) (obs':=[]) (by kernel_rfl) rfl (λp h=>by cases h) (λp h=>by cases h)).to,?_,trivial⟩;show _=some (RT.av (.tup [(false,.st .plan),(false,.lst .lrow)]) (Wg a0));rw[hv];rfl
 refine ka (c1:=nav C [0]) (c2:=nav C [1]) (by kernel_rfl) ?_;refine MS.regC G (keep:=[0,2]) (e':=[(0,.v .sh (.lst .byte a0)),(2,E0)]) (ps:=[]) (by kernel_rfl) trivial hms (λa w hs=>?_);show (nav C [1]).wp _ _ a w;refine ka (c1:=nav C [1,0]) (c2:=nav C [1,1]) (by kernel_rfl) ?_;generalize hr:Pg a0=r at o2 o3 o4 o5 o6 o7
 have hv0:Wg a0=(let r:=r;let p:=Xe (r.1,r.2);let a:=Ic (r.1,p.2) 5;let b:=Ic (r.1,a.2) 5;let c:=ua (r.1,b.2) 30
  let i:=cond (cmp .eql c.1 0) [b.1] [a.1,b.1];let d:=ua (r.1,c.2) 30;let y:=Dd (r.1,d.2);(p.1,cond (cmp .eql d.1 0) (y.1::i.tail) i,())):=by rw[← hr];rfl
 refine MS.regC G (keep:=[2,4]) (e':=[(2,E0),(4,RD (Pg a0).1 (Pg a0).2)]) (ps:=[fm a0]) (by kernel_rfl) ⟨o1,trivial⟩ hs (λa w hs=>?_);rw[hr]at hs;show (nav C [1,1]).wp _ _ a w;refine ka (c1:=nav C [1,1,0]) (c2:=nav C [1,1,1]) (by kernel_rfl) ?_;refine MS.regC G (keep:=[2,4,5]) (e':=[(2,E0),(4,RD r.1 (Xe (r.1,r.2)).2),(5,EP (Xe (r.1,r.2)).1)]) (ps:=[lm (r.1,r.2)]) (by kernel_rfl) ⟨o2,trivial⟩ hs (λa w hs=>?_);show (nav C [1,1,1]).wp _ _ a w;refine ka (c1:=nav C [1,1,1,0]) (c2:=nav C [1,1,1,1]) (by kernel_rfl) ?_;simp only[]at hv0;generalize Xe (r.1,r.2)=p at hs o3 o4 o5 o6 o7 hv0;refine MS.regC G (keep:=[2,4,5,6]) (e':=[(2,E0),(4,RD r.1 (Ic (r.1,(Ic (r.1,p.2) 5).2) 5).2),(5,EP p.1),(6,LL (.acc false) [(Ic (r.1,p.2) 5).1,(Ic (r.1,(Ic (r.1,p.2) 5).2) 5).1])]) (ps:=[bi (r.1,p.2) 5,bi (r.1,(Ic (r.1,p.2) 5).2) 5]) (by kernel_rfl) ⟨o3,o4,trivial⟩ hs (λa w hs=>?_);show (nav C [1,1,1,1]).wp _ _ a w;generalize Ic (r.1,p.2) 5=x at hs o4 o5 o6 o7 hv0;generalize Ic (r.1,x.2) 5=y at hs o5 o6 o7 hv0;refine ka (c1:=nav C [1,1,1,1,0]) (c2:=nav C [1,1,1,1,1]) (by kernel_rfl) ?_;refine ka (c1:=nav C [1,1,1,1,0,0]) (c2:=nav C [1,1,1,1,0,1]) (by kernel_rfl) ?_;have hs1:=hs.weak ((vY 6 (e':=[(6,LL (.own false) [x.1,y.1]),(2,E0),(4,RD r.1 y.2),(5,EP p.1),(6,LL (.acc false) [x.1,y.1])]) (by kernel_rfl)).trans (ma.cast (e':=[(2,E0),(4,RD r.1 y.2),(5,EP p.1),(6,LL (.own false) [x.1,y.1])]) (pat:=[(2,.same),(4,.same),(5,.same),(6,.same)]) (by kernel_rfl) (by kernel_rfl)));generalize hk:ua (r.1,y.2) 30=k at o5 o6 o7 hv0;refine MS.regC G (keep:=[2,4,5,6,18]) (e':=[(2,E0),(4,RD r.1 (ua (r.1,y.2) 30).2),(5,EP p.1),(6,LL (.own false) [x.1,y.1]),(18,.v .fr (.bool (cmp .eql (ua (r.1,y.2) 30).1 0)))]) (ps:=[Eb (r.1,y.2) 30]) (by kernel_rfl) ⟨o5,trivial⟩ hs1 (λa w hs=>?_);rw[hk]at hs;show (nav C [1,1,1,1,0,1]).wp _ _ a w;refine uc (o:=.tmp 18) (c1:=nav C [1,1,1,1,0,1,0]) (c2:=nav C [1,1,1,1,0,1,1]) (by kernel_rfl) (hs.bool (k:=.fr) rfl) (λht=>?_) (λhf=>Nc (by kernel_rfl) ?_)
 ·have hs2:=hs.weak (ma.cast (e':=[(2,E0),(4,RD r.1 k.2),(5,EP p.1),(6,LL (.own false) [x.1,y.1])]) (pat:=[(2,.same),(4,.same),(5,.same),(6,.same)]) (by kernel_rfl) (by kernel_rfl));refine oW hs2 (λb c a w hc hs=>?_);show (nav C [1,1,1,1,1]).wp _ _ a w;refine ka (c1:=nav C [1,1,1,1,1,0]) (c2:=nav C [1,1,1,1,1,1]) (by kernel_rfl) ?_;refine ka (c1:=nav C [1,1,1,1,1,0,0]) (c2:=nav C [1,1,1,1,1,0,1]) (by kernel_rfl) ?_;generalize hk2:ua (r.1,k.2) 30=m at o6 o7 hv0;refine MS.regC G (keep:=[19,2,4,5,23]) (e':=[(19,LL (.own false) [x.1,y.1]),(2,E0),(4,RD r.1 (ua (r.1,k.2) 30).2),(5,EP p.1),(23,.v .fr (.bool (cmp .eql (ua (r.1,k.2) 30).1 0)))]) (ps:=[Eb (r.1,k.2) 30]) (by kernel_rfl) ⟨o6,trivial⟩ hs (λa w hs=>?_);rw[hk2]at hs;show (nav C [1,1,1,1,1,0,1]).wp _ _ a w;refine uc (o:=.tmp 23) (c1:=nav C [1,1,1,1,1,0,1,0]) (c2:=nav C [1,1,1,1,1,0,1,1]) (by kernel_rfl) (hs.bool (k:=.fr) rfl) (λht2=>?_) (λhf2=>Nc (by kernel_rfl) ?_)
  ·have hs3:=hs.weak (ma.cast (e':=[(19,LL (.own false) [x.1,y.1]),(2,E0),(4,RD r.1 m.2),(5,EP p.1)]) (pat:=[(19,.same),(2,.same),(4,.same),(5,.same)]) (by kernel_rfl) (by kernel_rfl));refine pW G (o7 ht2) hs3 (λa w hs=>?_);show (nav C [1,1,1,1,1,1]).wp _ _ a w;refine tail G (oK hc hs) (λa w hs=>fin ?_ hs);rw[hv0,ht,ht2];rfl
  ·have hs3:=hs.weak (ma.cast (e':=[(19,LL (.own false) [x.1,y.1]),(2,E0),(4,RD r.1 m.2),(5,EP p.1)]) (pat:=[(19,.same),(2,.same),(4,.same),(5,.same)]) (by kernel_rfl) (by kernel_rfl));show (nav C [1,1,1,1,1,1]).wp _ _ a w;refine tail G (oK hc hs3) (λa w hs=>fin ?_ hs);rw[hv0,ht,hf2];rfl
 ·show (nav C [1,1,1,1,1]).wp _ _ a w;refine ka (c1:=nav C [1,1,1,1,1,0]) (c2:=nav C [1,1,1,1,1,1]) (by kernel_rfl) ?_;refine ka (c1:=nav C [1,1,1,1,1,0,0]) (c2:=nav C [1,1,1,1,1,0,1]) (by kernel_rfl) ?_;generalize hk2:ua (r.1,k.2) 30=m at o6 o7 hv0;refine MS.regC G (keep:=[2,4,5,6,23]) (e':=[(2,E0),(4,RD r.1 (ua (r.1,k.2) 30).2),(5,EP p.1),(6,LL (.own false) [x.1,y.1]),(23,.v .fr (.bool (cmp .eql (ua (r.1,k.2) 30).1 0)))]) (ps:=[Eb (r.1,k.2) 30]) (by kernel_rfl) ⟨o6,trivial⟩ hs (λa w hs=>?_);rw[hk2]at hs;show (nav C [1,1,1,1,1,0,1]).wp _ _ a w;refine uc (o:=.tmp 23) (c1:=nav C [1,1,1,1,1,0,1,0]) (c2:=nav C [1,1,1,1,1,0,1,1]) (by kernel_rfl) (hs.bool (k:=.fr) rfl) (λht2=>?_) (λhf2=>Nc (by kernel_rfl) ?_)
  ·refine MS.regC G (keep:=[2,5,6]) (e':=[(2,E0),(5,EP p.1),(6,LL (.own false) [(Dd (r.1,m.2)).1,y.1])]) (ps:=[ci (r.1,m.2),inb 0 (aa .lrow [x.1,y.1]),inb 0 (aa .lrow [x.1,y.1])]) (by kernel_rfl) ⟨o7 ht2,⟨by omega,by unfold aa;simp⟩,⟨by omega,by unfold aa;simp⟩,trivial⟩ hs (λa w hs=>?_);show (nav C [1,1,1,1,1,1]).wp _ _ a w;refine tail G ((hs.freeze 6).weak (ma.cast (e':=[(2,E0),(5,EP p.1),(6,LL .sh [(Dd (r.1,m.2)).1,y.1])]) (pat:=[(2,.same),(5,.same),(6,.sh)]) (by kernel_rfl) (by kernel_rfl))) (λa w hs=>fin ?_ hs);rw[hv0,hf,ht2];rfl
  ·show (nav C [1,1,1,1,1,1]).wp _ _ a w;refine tail G ((hs.freeze 6).weak (ma.cast (e':=[(2,E0),(5,EP p.1),(6,LL .sh [x.1,y.1])]) (pat:=[(2,.same),(5,.same),(6,.sh)]) (by kernel_rfl) (by kernel_rfl))) (λa w hs=>fin ?_ hs);rw[hv0,hf,hf2];rfl
end Dp
end Go.Proofs.YthfkpijcajdnhaaGreat

namespace Go.Proofs.YthfkpijcajdnhaaGreat
open Go
theorem Db(a b:Int):cmp .eql a b=decide (a=b):=by
 show (a == b)=_;by_cases h:a=b<;>simp[h]
theorem Ae(a b:Int):cmp .neq a b=!decide (a=b):=by
 show (a != b)=_;by_cases h:a=b<;>simp[h]
theorem fc(a b:Int):cmp .lss a b=decide (a<b):=rfl
theorem Re(a b:Int):cmp .leq a b=decide (a<=b):=rfl
theorem Yc(a b:Int):cmp .gtr a b=decide (b<a):=rfl
theorem Oi(a b:Int):cmp .geq a b=decide (b<=a):=rfl
theorem nc{a b:Int}(h : -9223372036854775808<=a+b/\a+b<=9223372036854775807):ar .add .i64 a b=a+b:=IntWalk.i64_in _ h
theorem Ng{a b:Int}(h : -9223372036854775808<=a - b/\a - b<=9223372036854775807):ar .sub .i64 a b=a - b:=IntWalk.i64_in _ h
theorem Xf{a b:Int}(h : -9223372036854775808<=a*b/\a*b<=9223372036854775807):ar .mul .i64 a b=a*b:=IntWalk.i64_in _ h
theorem pr(a b:Int):ar .rem .i64 a b=a.tmod b:=rfl
theorem gD{a b:Int}(h:0<=a/\a<=9223372036854775807/\1<=b):ar .quo .i64 a b=a / b:=IntWalk.i64_quo a b h
theorem CY(a b:Int):ar .add .i64 a b=ar .add .i64 b a:=by show IntKind.wrap _ _=IntKind.wrap _ _;rw[Int.add_comm]
theorem DM{t:Ty}{l r:List t.T}{x:t.T}:aa t (l++x::r)=(l.length:Int)+(r.length+1):=by
 unfold aa;simp
theorem Za{t:Ty}{l r:List t.T}{x:t.T}:rd t (l++x::r) (l.length:Int)=x:=by
 unfold rd;rw[Int.toNat_natCast,List.getD_eq_getElem?_getD];simp
theorem Ta{t:Ty}{l r:List t.T}{x:t.T}:inb (l.length:Int) (aa t (l++x::r)):=by
 rw[DM];unfold inb;omega
theorem fb{t:Ty}{l r:List t.T}{x:t.T}:cmp .lss (l.length:Int) (aa t (l++x::r))=true:=by
 rw[DM,fc];simp;omega
theorem gb{t:Ty}{l:List t.T}:cmp .lss (l.length:Int) (aa t l)=false:=by
 rw[fc];simp[aa]
theorem Wb{t:Ty}{o:List t.T}{y:t.T}(h:o.length<1099511627776):lim (aa t o) (aa t [y]):=by
 simp only[lim,aa,List.length_singleton];omega
theorem qr{t:Ty}{o u:List t.T}(h:o.length+u.length<1099511627776):lim (aa t o) (aa t u):=by
 simp only[lim,aa];omega
theorem Ua{α:Type}{l:List α}(h:l.length<1099511627776):ar .add .i64 (l.length:Int) 1=((l.length+1:Nat):Int):=by
 rw[nc (by omega)];omega
structure ia{σ ρ:Type}[Inhabited ρ](step:σ->Lp σ ρ)(ob:σ->Prop)(s:σ)(r:ρ):Prop where
 t:LpT step ob s
 v:lpV step s=r
theorem ia.out{σ ρ:Type}[Inhabited ρ]{step:σ->Lp σ ρ}{ob:σ->Prop}{s:σ}{r:ρ}(ho:ob s)(h:step s=.out r):ia step ob s r:=⟨.mk s ho (λs' hs=>by rw[h]at hs;cases hs),NX h⟩
theorem ia.go{σ ρ:Type}[Inhabited ρ]{step:σ->Lp σ ρ}{ob:σ->Prop}{s s':σ}{r:ρ}(ho:ob s)(h:step s=.go s')(hr:ia step ob s' r):ia step ob s r:=⟨.mk s ho (λs2 hs=>by rw[h]at hs;cases hs;exact hr.t),(PX h).trans hr.v⟩
theorem ia.list{σ ρ α β:Type}[Inhabited ρ]{step:σ->Lp σ ρ}{ob:σ->Prop}(xs:List α)(st:Nat->β->σ)(I:List α->β->Prop){Q:ρ->Prop}{s0:σ}{b0:β}(hs:st 0 b0=s0)(h0:I [] b0)
  (hgo:∀l x r b,xs=l++x::r->I l b->ob (st l.length b)/\((∃b',step (st l.length b)=.go (st (l.length+1) b')/\I (l++[x]) b')\/∃q,step (st l.length b)=.out q/\Q q))
  (hout:∀b,I xs b->ob (st xs.length b)/\∃q,step (st xs.length b)=.out q/\Q q):∃q,ia step ob s0 q/\Q q:=by
 subst hs
 suffices ∀ (r l:List α) (b:β),xs=l++r->I l b->∃q,ia step ob (st l.length b) q/\Q q from this xs [] b0 rfl h0
 intro r
 induction r with
 |nil=>
  intro l b hx hI;rw[List.append_nil]at hx;subst hx;obtain⟨ho,q,h1,h2⟩:=hout b hI;exact⟨q,.out ho h1,h2⟩
 |cons x r ih=>
  intro l b hx hI;obtain⟨ho,⟨b',h1,h2⟩|⟨q,h1,h2⟩⟩:=hgo l x r b hx hI
  ·obtain⟨q,hq,hQ⟩:=ih (l++[x]) b' (by rw[hx,List.append_assoc];rfl) h2;rw[List.length_append,List.length_singleton]at hq;exact⟨q,.go ho h1 hq,hQ⟩
  .exact⟨q,.out ho h1,h2⟩
theorem ia.fold{σ ρ α β:Type}[Inhabited ρ]{step:σ->Lp σ ρ}{ob:σ->Prop}(xs:List α)(st:Nat->β->σ)(f:List α->β){fin:ρ}{s0:σ}(hs:st 0 (f [])=s0)
  (hgo:∀l x r,xs=l++x::r->ob (st l.length (f l))/\step (st l.length (f l))=.go (st (l.length+1) (f (l++[x]))))
  (hout:ob (st xs.length (f xs))/\step (st xs.length (f xs))=.out fin):ia step ob s0 fin:=by
 subst hs
 obtain⟨q,h1,h2⟩:=ia.list (step:=step) (ob:=ob) (Q:=λq=>q=fin) xs st (λl b=>b=f l) (b0:=f []) rfl rfl
  (λl x r b hx hb=>by subst hb;exact⟨(hgo l x r hx).1,.inl ⟨_,(hgo l x r hx).2,rfl⟩⟩)
  (λb hb=>by subst hb;exact⟨hout.1,_,hout.2,rfl⟩)
 rw[h2]at h1;exact h1
theorem iD{α:Type}{lt:α->α->Prop}(irr:∀a,¬ lt a a)(tr:∀ {a b c},lt a b->lt b c->lt a c):∀ {a b:List α},a.Pairwise lt->b.Pairwise lt->(∀x,x∈a↔x∈b)->a=b
 |[],[],_,_,_=>rfl
 |[],y::b,_,_,h=>absurd ((h y).2 (by simp)) (by simp)
 |x::a,[],_,_,h=>absurd ((h x).1 (by simp)) (by simp)
 |x::a,y::b,ha,hb,h=>by
  have ha':=List.pairwise_cons.1 ha;have hb':=List.pairwise_cons.1 hb
  have hxy:x=y:=by
   rcases List.mem_cons.1 ((h x).1 (by simp)) with e|e
   .exact e
   ·rcases List.mem_cons.1 ((h y).2 (by simp)) with e2|e2
    .exact e2.symm
    .exact absurd (tr (hb'.1 x e) (ha'.1 y e2)) (irr _)
  subst hxy;refine congrArg (x::·) (iD irr tr ha'.2 hb'.2 λz=>⟨λhz=>?_,λhz=>?_⟩)
  ·rcases List.mem_cons.1 ((h z).1 (by simp[hz])) with e|e
   .subst e;exact absurd (ha'.1 z hz) (irr _)
   .exact e
  ·rcases List.mem_cons.1 ((h z).2 (by simp[hz])) with e|e
   .subst e;exact absurd (hb'.1 z hz) (irr _)
   .exact e
theorem rr{a b:MP}(ha:Asc a)(hb:Asc b)(h:∀p,p∈a↔p∈b):a=b:=iD (lt:=λp q:List Int×Int=>ltK p.1 q.1=true) (λp hp=>by rw[Me]at hp;cases hp) (λh1 h2=>Rf h1 h2) ha hb h
def gc(q:List Int×Int):MP->MP
 |[]=>[q]
 |p::m=>if ltK q.1 p.1=true then q::p::m else if p.1=q.1 then (q.1,ar .add .i64 q.2 p.2)::m else p::gc q m
def Se(l:List (List Int×Int)):MP:=l.foldl (λm q=>gc q m) []
theorem jD(q:List Int×Int):∀ (m:MP) (k:List Int),k∈la (gc q m)↔k=q.1\/k∈la m
 |[],k=>by simp[gc,la]
 |p::m,k=>by
  simp only[gc];split
  .simp[la]
  ·split
   .rename_i h;simp[la,h]
   ·have:=jD q m k;simp only[la,List.map_cons,List.mem_cons]at this⊢;rw[this];constructor
    ·rintro (h|h|h)
     .exact .inr (.inl h)
     .exact .inl h
     .exact .inr (.inr h)
    ·rintro (h|h|h)
     .exact .inr (.inl h)
     .exact .inl h
     .exact .inr (.inr h)
theorem DY{n:Nat}{q:List Int×Int}{m:MP}(hm:yb n m)(hq:q.1.length=n):yb n (gc q m):=by
 intro p hp;have:p.1∈la (gc q m):=List.mem_map.2 ⟨p,hp,rfl⟩;rcases (jD q m p.1).1 this with h|h
 .rw[h];exact hq
 ·obtain⟨p',h1,h2⟩:=List.mem_map.1 h;rw[← h2];exact hm p' h1
theorem EM{n:Nat}{q:List Int×Int}(hq:q.1.length=n):∀ {m:MP},Asc m->yb n m->Asc (gc q m)
 |[],_,_=>by simp[gc,Asc]
 |p::m,ha,hk=>by
  have ha':=List.pairwise_cons.1 ha;simp only[gc];split
  ·rename_i h;refine List.pairwise_cons.2 ⟨λs hs=>?_,ha⟩;rcases List.mem_cons.1 hs with rfl|hs
   .exact h
   .exact Rf h (ha'.1 s hs)
  ·split
   ·rename_i h1 h2;exact List.pairwise_cons.2 ⟨λs hs=>by show ltK q.1 s.1=true;rw[← h2];exact ha'.1 s hs,ha'.2⟩
   ·rename_i h1 h2
    have hpq:ltK p.1 q.1=true:=by
     rcases Uq ((hk p (by simp)).trans hq.symm) h2 with h|h
     .exact h
     .exact absurd h h1
    refine List.pairwise_cons.2 ⟨λs hs=>?_,EM hq ha'.2 λs hs=>hk s (by simp[hs])⟩;rcases (jD q m s.1).1 (List.mem_map.2 ⟨s,hs,rfl⟩) with h|h
    .rw[h];exact hpq
    ·obtain⟨s',h1,h2⟩:=List.mem_map.1 h;rw[← h2];exact ha'.1 s' h1
theorem FM{n:Nat}{q:List Int×Int}(hq:q.1.length=n):∀ {m:MP},Asc m->yb n m->∀k,Ra (gc q m) k=if k=q.1 then (if q.1∈la m then ar .add .i64 q.2 (Ra m k) else q.2) else Ra m k
 |[],_,_,k=>by
  simp only[gc,Ke,la,List.map_nil,List.not_mem_nil,if_false];by_cases h:q.1=k
  .simp[h]
  .simp[h,Ne.symm h]
 |p::m,ha,hk,k=>by
  have ha':=List.pairwise_cons.1 ha;simp only[gc];split
  ·rename_i h
   have hne:q.1 ∉ la (p::m):=by
    intro hm;obtain⟨s,hs,e⟩:=List.mem_map.1 hm;rcases List.mem_cons.1 hs with rfl|hs
    .rw[e,Me]at h;cases h
    ·have:=Rf h (ha'.1 s hs);rw[e,Me]at this;cases this
   rw[if_neg hne,Ke];by_cases h2:q.1=k
   .simp[h2]
   .simp[h2,Ne.symm h2]
  ·split
   ·rename_i h1 h2;have hm:q.1∈la (p::m):=by simp[la,h2]
    rw[if_pos hm,Ke,Ke];by_cases h3:q.1=k
    .simp[h3,h2.trans h3]
    ·have h4:¬ p.1=k:=λe=>h3 (h2.symm.trans e);simp[h3,Ne.symm h3,h4]
   ·rename_i h1 h2;rw[Ke,FM hq ha'.2 (λs hs=>hk s (by simp[hs])) k,Ke];have hmm:q.1∈la (p::m)↔q.1∈la m:=by simp[la,Ne.symm h2]
    by_cases h3:p.1=k
    ·have:¬ k=q.1:=λe=>h2 (h3.trans e);simp[h3,this]
    .simp only[h3,if_false,hmm]
theorem EY{n:Nat}{l:List (List Int×Int)}(hk:yb n l)(hr:∀q∈l,IntKind.i64.wrap q.2=q.2):Asc (Se l)/\yb n (Se l)/\∀k,Ra (Se l) k=Le l k:=by
 suffices ∀ (l:List (List Int×Int)) (m:MP),yb n l->(∀q∈l,IntKind.i64.wrap q.2=q.2)->Asc m->yb n m->Asc (l.foldl (λm q=>gc q m) m)/\yb n (l.foldl (λm q=>gc q m) m) /\
   ∀k,Ra (l.foldl (λm q=>gc q m) m) k=l.foldl (λs q=>if q.1=k then ar .add .i64 s q.2 else s) (Ra m k) by
  obtain⟨h1,h2,h3⟩:=this l [] hk hr (by simp[Asc]) (λp hp=>by simp at hp);refine⟨h1,h2,λk=>?_⟩;exact h3 k
 intro l
 induction l with
 |nil=>exact λm _ _ h1 h2=>⟨h1,h2,λ_=>rfl⟩
 |cons q r ih=>
  intro m hl hl2 ha hm;have hq:=hl q (by simp);obtain⟨h1,h2,h3⟩:=ih (gc q m) (λp hp=>hl p (by simp[hp])) (λp hp=>hl2 p (by simp[hp])) (EM hq ha hm) (DY hm hq);refine⟨h1,h2,λk=>?_⟩;rw[List.foldl_cons,List.foldl_cons,h3 k,FM hq ha hm]
  congr 1
  by_cases h:k=q.1
  ·subst h;simp only[if_true];by_cases hmem:q.1∈la m
   ·simp only[hmem,if_true];exact CY _ _
   ·simp only[hmem,if_false];rw[wC hmem];show q.2=IntKind.i64.wrap (0+q.2);rw[Int.zero_add,hl2 q (by simp)]
  .simp[h,Ne.symm h]
theorem GM{f:List Int->List Int}(hf:∀a b,f a=f b->a=b)(l:List (List Int×Int))(k:List Int):Le (l.map λq=>(f q.1,q.2)) (f k)=Le l k:=by
 unfold Le;rw[List.foldl_map]
 congr 1
 funext s q
 by_cases h:q.1=k
 .simp[h]
 ·have h2:¬ f q.1=f k:=λe=>h (hf _ _ e);simp[h,h2]
theorem FY{l:List (List Int×Int)}{k:List Int}(h:∀q∈l,q.1≠k):Le l k=0:=by
 suffices ∀ (l:List (List Int×Int)) (s:Int),(∀q∈l,q.1≠k)->l.foldl (λs q=>if q.1=k then ar .add .i64 s q.2 else s) s=s from this l 0 h
 intro l
 induction l with
 |nil=>exact λ_ _=>rfl
 |cons q r ih=>
  intro s h;rw[List.foldl_cons,if_neg (h q (by simp))];exact ih s λp hp=>h p (by simp[hp])
theorem Ll{l:List (List Int×Int)}{k:List Int}(h:Le l k≠0):∃q∈l,q.1=k:=by
 by_cases he:∃q∈l,q.1=k
 .exact he
 .exact absurd (FY λq hq e=>he ⟨q,hq,e⟩) h
theorem HM{n:Nat}{l:List (List Int×Int)}(hk:yb n l)(hr:∀q∈l,IntKind.i64.wrap q.2=q.2):(Se l).filter (λp=>p.2 != 0)=mc l:=by
 obtain⟨h1,h2,h3⟩:=EY hk hr
 have hnd:(la (Se l)).Nodup:=by
  refine List.Pairwise.map _ (λp q h e=>?_) h1;rw[e,Me]at h;cases h
 refine rr (h1.sublist List.filter_sublist) (Gh hk) λp=>?_;rw[ze,List.mem_filter];constructor
 ·rintro⟨a,b⟩;exact⟨by rw[← h3,Tq hnd a],by simpa using b⟩
 ·rintro⟨a,b⟩;refine⟨?_,by simpa using b⟩;by_cases hm:p.1∈la (Se l)
  ·obtain⟨q,hq,e⟩:=List.mem_map.1 hm;have:=Tq hnd hq;rw[h3,e,← a]at this;have:q=p:=Prod.ext e this.symm;rwa [this]at hq
  .exact absurd (by rw[a,← h3,wC hm]) b
theorem IM{n m:Nat}{f:List Int->List Int}(hf:∀a b,f a=f b->a=b)(hn:∀k:List Int,k.length=n->(f k).length=m)
  (hlt:∀a b,a.length=n->b.length=n->ltK (f a) (f b)=ltK a b) {l:List (List Int×Int)} (hk:yb n l) :
  mc (l.map λq=>(f q.1,q.2))=(mc l).map λq=>(f q.1,q.2):=by
 have hkm:yb m (l.map λq=>(f q.1,q.2)):=by
  intro p hp;obtain⟨q,hq,rfl⟩:=List.mem_map.1 hp;exact hn _ (hk q hq)
 have hkey:∀p∈mc l,p.1.length=n:=by
  intro p hp;obtain⟨h1,h2⟩:=ze.1 hp;obtain⟨q,hq,e⟩:=Ll (h1▸h2);rw[← e];exact hk q hq
 refine rr (Gh hkm) ?_ λp=>?_
 ·refine List.pairwise_map.2 ((Gh hk).imp_of_mem λ{a b} ha hb h=>?_);show ltK (f a.1) (f b.1)=true;rw[hlt _ _ (hkey a ha) (hkey b hb)];exact h
 ·rw[ze,List.mem_map];constructor
  ·rintro⟨h1,h2⟩;obtain⟨q,hq,e⟩:=Ll (h1▸h2);obtain⟨q',hq',rfl⟩:=List.mem_map.1 hq;have e:f q'.1=p.1:=e;refine⟨(q'.1,p.2),ze.2 ⟨?_,h2⟩,Prod.ext e rfl⟩;rw[h1,← e,GM hf]
  ·rintro⟨q,hq,rfl⟩;obtain⟨h1,h2⟩:=ze.1 hq;exact⟨by rw[GM hf];exact h1,h2⟩
end Go.Proofs.YthfkpijcajdnhaaGreat

namespace Go.Proofs.YthfkpijcajdnhaaGreat
namespace Da
open Go
set_option maxRecDepth 100000
noncomputable def C:Code:=Jd Tryz.f88
abbrev N1(v:Value):NP:=⟨28,none,[(1,v)]⟩
abbrev FT(f:List Time):AV:=.v .sh (.lst .time f)
abbrev OW(l:LR):AV:=.v (.own false) (.lst .row l)
abbrev EL(f:List Time)(l:LR)(n i:Int):Env:=[(1,FT f),(5,OW l),(11,.v .fr (.int .i64 n)),(12,.v .fr (.int .i64 i))]
noncomputable def mv(f:List Time)(r:Row):Row:=⟨r.Key,r.Val,Tp f r.At,r.Diff⟩
noncomputable def Rd(f:List Time)(l:LR)(i:Nat):LR:=(l.take i).map (mv f)++l.drop i
theorem nW(f:List Time)(l:LR)(i:Nat)(hi:i<=l.length):(Rd f l i).length=l.length:=by
 unfold Rd;rw[List.length_append,List.length_map,List.length_take,List.length_drop];omega
section
variable {Q:Exit->Act->World->Prop} {B:Nat} {W0:World} {F0:Fz} {a:Act} {w:World} {f:List Time} {l:LR} {v:Value}
theorem loopA(G:Good Tryz.prog tt pV)(hl:l.length<1000000)(hp:∀r∈l,Ok f r.At)(hs:MS (N1 v) B [] W0 F0 [] (EL f l (aa .row l) 0) a w)(hQ:∀a w,MS (N1 v) B [] W0 F0 [] [(5,OW (l.map (mv f)))] a w->Q .normal a w):(nav C [1,1,0,1]).wp Tryz.prog Q a w:=by
 refine tc (c1:=nav C [1,1,0,1,0]) (id:=0) (by kernel_rfl) ?_;rw[show nav C [1,1,0,1,0]=.loop (nav C [1,1,0,1,0,0]) by kernel_rfl];refine oe (σ:=Nat) (λi a w=>i<=l.length/\MS (N1 v) B [] W0 F0 [] (EL f (Rd f l i) (aa .row l) i) a w) (λi=>l.length - i) ?_ 0 ⟨Nat.zero_le _,hs⟩;rintro i a w ⟨hi,hs⟩;refine ka (c1:=nav C [1,1,0,1,0,0,0]) (c2:=nav C [1,1,0,1,0,0,1]) (by kernel_rfl) ?_;refine MS.regC G (keep:=[1,5,11,12,13]) (e':=[(1,FT f),(5,OW (Rd f l i)),(11,.v .fr (.int .i64 (aa .row l))),(12,.v .fr (.int .i64 i)),(13,.v .fr (.bool (cmp .lss i (aa .row l))))]) (ps:=[]) (by kernel_rfl) trivial hs (λa w hs=>?_);show (nav C [1,1,0,1,0,0,1]).wp _ _ a w;refine ka (c1:=nav C [1,1,0,1,0,0,1,0]) (c2:=nav C [1,1,0,1,0,0,1,1]) (by kernel_rfl) ?_;refine uc (o:=.tmp 13) (c1:=nav C [1,1,0,1,0,0,1,0,0]) (c2:=nav C [1,1,0,1,0,0,1,0,1]) (by kernel_rfl) (hs.bool (k:=.fr) rfl) (λht=>Nc (by kernel_rfl) ?_) (λhf=>Oe (i:=0) (by kernel_rfl) ?_)
 ·have hlt:i<l.length:=by
   have:=of_decide_eq_true (show decide ((i:Int)<aa .row l)=true from ht);unfold aa at this;omega
  have hrd:rd .row (Rd f l i) i=l[i]:=by
   unfold rd Rd;rw[List.getD_eq_getElem?_getD,show (i:Int).toNat=i from rfl,List.getElem?_append_right (by rw[List.length_map,List.length_take];omega),List.length_map,List.length_take,show i - min i l.length=0 by omega,List.getElem?_drop,Nat.add_zero,List.getElem?_eq_getElem hlt];rfl
  have hnext:(Rd f l i).set i (mv f l[i])=Rd f l (i+1):=by
   unfold Rd;rw[List.take_succ_eq_append_getElem hlt,List.map_append,List.set_append_right _ _ (by rw[List.length_map,List.length_take];omega),List.length_map,List.length_take,show i - min i l.length=0 by omega,List.append_assoc];have e:l.drop i=l[i]::l.drop (i+1):=List.drop_eq_getElem_cons hlt;rw[e];rfl
  have hln:=nW f l i hi;have hin:inb (i:Int) (aa .row (Rd f l i)):=⟨by omega,by unfold aa;rw[hln];omega⟩;generalize hm:Rd f l i=m at hs hrd hnext hin;show (nav C [1,1,0,1,0,0,1,1]).wp _ _ a w;refine ka (c1:=nav C [1,1,0,1,0,0,1,1,0]) (c2:=nav C [1,1,0,1,0,0,1,1,1]) (by kernel_rfl) ?_;refine tc (c1:=nav C [1,1,0,1,0,0,1,1,0,0]) (id:=1) (by kernel_rfl) ?_;refine ka (c1:=nav C [1,1,0,1,0,0,1,1,0,0,0]) (c2:=nav C [1,1,0,1,0,0,1,1,0,0,1]) (by kernel_rfl) ?_;refine MS.regC G (keep:=[1,5,6,11,12]) (e':=[(1,FT f),(5,OW m),(6,.v .fr (.int .i64 i)),(11,.v .fr (.int .i64 (aa .row l))),(12,.v .fr (.int .i64 i))]) (ps:=[]) (by kernel_rfl) trivial hs (λa w hs=>?_);show (nav C [1,1,0,1,0,0,1,1,0,0,1]).wp _ _ a w;have hrx:rd .row m i=l[i]->Ok f l[i].At->Ok f ⟨(rd .row m i).At.A,(rd .row m i).At.B⟩:=λh1 h2=>by rw[h1];exact h2
  refine MS.regC G (keep:=[1,5,11,12]) (e':=EL f (m.set (i:Int).toNat ⟨(rd .row m i).Key,(rd .row m i).Val,⟨(Tp f ⟨(rd .row m i).At.A,(rd .row m i).At.B⟩).A,(Tp f ⟨(rd .row m i).At.A,(rd .row m i).At.B⟩).B⟩,(rd .row m i).Diff⟩) (aa .row l) i) (ps:=[inb i (aa .row m),Ok f ⟨(rd .row m i).At.A,(rd .row m i).At.B⟩,inb i (aa .row m),inb i (aa .row m)]) (by kernel_rfl) ⟨hin,hrx hrd (hp _ (List.getElem_mem hlt)),hin,hin,trivial⟩ hs (λa w hs=>?_);rw[hrd,show (i:Int).toNat=i from rfl]at hs;have hs:MS (N1 v) B [] W0 F0 [] (EL f (m.set i (mv f l[i])) (aa .row l) i) a w:=hs;rw[hnext]at hs;show (nav C [1,1,0,1,0,0,1,1,1]).wp _ _ a w;refine MS.regC G (keep:=[1,5,11,12]) (e':=EL f (Rd f l (i+1)) (aa .row l) (ar .add .i64 i 1)) (ps:=[]) (by kernel_rfl) trivial hs (λa w hs=>?_);refine⟨i+1,by omega,by omega,?_⟩;rw[nc (by omega)]at hs;exact hs
 ·have hge:l.length<=i:=by
   have:=of_decide_eq_false (show decide ((i:Int)<aa .row l)=false from hf);unfold aa at this;omega
  show Exit.inBlock 0 Q (.exit 0) a w;simp only[Exit.inBlock,if_true];refine hQ a w ?_
  have e:Rd f l i=l.map (mv f):=by
   unfold Rd;rw[List.take_of_length_le hge,List.drop_of_length_le hge,List.append_nil]
  rw[e]at hs;exact hs.weak (ma.cast (pat:=[(5,.same)]) (by kernel_rfl) (by kernel_rfl))
end
theorem con(G:Good Tryz.prog tt pV):Con Tryz.prog 88 laf:=by
 refine wL [1] G.htt (fn:=Tryz.f88) (c:=C) (by kernel_rfl) (by kernel_rfl) (by kernel_rfl) (rs:=[.tmp 4]) (by kernel_rfl) (by kernel_rfl) (λh=>by cases h) ?_;intro x hx fr hfB hfL hIO vs io hargs a w hs;obtain⟨B,IoB,W0,F0⟩:=fr;have hIO:IoB=[]:=hIO rfl;subst hIO;obtain⟨l,f,u⟩:=x;obtain⟨hl,hp⟩:=(show qV l f from hx);obtain⟨v0,vs,rfl,h0,v1,vs,rfl,h1,rfl,rfl⟩:=hargs;have h1:RC F0 0 W0 (.lst .time f) v1:=h1;have hms:MS (N1 v1) B [] W0 F0 [] [(0,.v .sh (.lst .row l)),(1,FT f)] a w:=(MS.of hs hfB).forget (by kernel_rfl) rfl (λp h=>by simpa using h) (λp h=>by cases h);refine ka (c1:=nav C [0]) (c2:=nav C [1]) (by kernel_rfl) ?_;refine MS.regC G (keep:=[0]) (e':=[(0,.v .sh (.lst .row l))]) (ps:=[]) (by kernel_rfl) trivial hms (λa w hs=>?_);show (nav C [1]).wp _ _ a w;refine ka (c1:=nav C [1,0]) (c2:=nav C [1,1]) (by kernel_rfl) ?_;refine MS.regC G (keep:=[5]) (e':=[(5,.v (.acc false) (.lst .row ([]++l)))]) (ps:=[lim (aa .row []) (aa .row l)]) (by kernel_rfl) ⟨show lim (aa .row []) (aa .row l) by unfold lim aa;simp;omega,trivial⟩ hs (λa w hs=>?_);have hs:MS (N1 v1) B [] W0 F0 [] [(5,.v (.acc false) (.lst .row l))] a w:=hs;have hs:=(hs.weak (yY 5 (e':=[(5,OW l),(5,.v (.acc false) (.lst .row l))]) (by kernel_rfl))).arg (s:=1) (v:=v1) (by kernel_rfl) (by simp) h1;show (nav C [1,1]).wp _ _ a w;refine ka (c1:=nav C [1,1,0]) (c2:=nav C [1,1,1]) (by kernel_rfl) ?_;refine ka (c1:=nav C [1,1,0,0]) (c2:=nav C [1,1,0,1]) (by kernel_rfl) ?_;refine MS.regC G (keep:=[1,5,11,12]) (e':=EL f l (aa .row l) 0) (ps:=[]) (by kernel_rfl) trivial hs (λa w hs=>?_);show (nav C [1,1,0,1]).wp _ _ a w;refine loopA G hl hp hs (λa w hs=>?_);show (nav C [1,1,1]).wp _ _ a w;refine ka (c1:=nav C [1,1,1,0]) (c2:=nav C [1,1,1,1]) (by kernel_rfl) ?_;refine MS.regC G (keep:=[4]) (e':=[(4,.v (.acc false) (.lst .row (l.map (mv f))))]) (ps:=[]) (by kernel_rfl) trivial (hs.freeze 5) (λa w hs=>?_);have hs:=hs.weak (ma.cast (e':=[(4,.v .sh (.lst .row (l.map (mv f))))]) (pat:=[(4,.sh)]) (by kernel_rfl) (by kernel_rfl));refine Lg (by kernel_rfl) ⟨_,(hs.forget (N':=⟨(Tryz.f88).ntmps,none,[(1,v1)]⟩) (obs':=[]) (by kernel_rfl) rfl (λp h=>h) (λp h=>by cases h)).to,?_,trivial⟩;rfl
end Da
end Go.Proofs.YthfkpijcajdnhaaGreat

namespace Go.Proofs.YthfkpijcajdnhaaGreat
open Go
structure Be(b:List Int):Prop where
 byte:∀x∈b,0<=x/\x<=255
 len:b.length<=2000
def Pi(b:List Int)(i:Int):Int:=b.getD i.toNat 0
theorem RY(b:List Int)(i:Int):rd .byte b i=Pi b i:=rfl
theorem oD{b:List Int}(h:Be b)(i:Int):0<=Pi b i/\Pi b i<=255:=by
 unfold Pi;rw[List.getD_eq_getElem?_getD];cases hg:b[i.toNat]? with
 |none=>simp
 |some x=>exact h.byte x (List.mem_of_getElem? hg)
theorem SY{a b:Int}(ha:0<=a/\a<4611686018427387904)(hb:0<=b/\b<4611686018427387904):0<=xr .i64 a b/\xr .i64 a b<4611686018427387904:=by
 unfold xr;have h1:(BitVec.ofInt 64 a).toNat<2 ^ 62:=by rw[BitVec.toNat_ofInt];omega
 have h2:(BitVec.ofInt 64 b).toNat<2 ^ 62:=by rw[BitVec.toNat_ofInt];omega
 have h3:=Nat.xor_lt_two_pow h1 h2;show 0<=IntKind.i64.wrap ((BitVec.ofInt 64 a ^^^ BitVec.ofInt 64 b).toNat:Int)/\IntKind.i64.wrap ((BitVec.ofInt 64 a ^^^ BitVec.ofInt 64 b).toNat:Int)<4611686018427387904;rw[BitVec.toNat_xor];generalize (BitVec.ofInt 64 a).toNat ^^^ (BitVec.ofInt 64 b).toNat=m at h3;rw[IntWalk.i64_in _ (by omega)];omega
theorem bc{b:List Int}(hb:Be b){p n:Int}(hp:0<=p/\p<=1000000)(hn:1<=n/\n<=1000000) :
  Eb (b,p) n/\(ua (b,p) n).2=p+1/\0<=(ua (b,p) n).1/\(ua (b,p) n).1<n:=by
 have h1:ar .add .i64 p 1=p+1:=nc (by omega);have h2:ar .sub .i64 (p+1) 1=p:=by rw[Ng (by omega)];omega
 have hlt:cmp .lss n 1=false:=by rw[fc];simp;omega
 have hn0:n≠0:=by omega
 have hlen:=hb.len;have hlb:aa .byte b=(b.length:Int):=rfl;simp only[Eb,ua,SD,QD,Ir,Tr.val,Tr.ob,fa];simp only[h1,h2,hlt,cond_false,Db,hlb,RY];by_cases h0:(b.length:Int)=0
 ·simp only[h0,decide_true,ocR];refine⟨by simp,trivial,Int.le_refl _,by omega⟩
 ·have hL:1<=(b.length:Int):=by omega
  have hbne:b≠[]:=by rintro rfl;exact h0 rfl
  by_cases h3:p<(b.length:Int)
  ·have hc:cmp .lss p (b.length:Int)=true:=by rw[fc];simpa using h3
   simp only[h0,decide_false,hc,ocR];have hx:=oD hb p;rw[IntWalk.i64_in _ (by omega)];exact⟨by simp[inb,hp.1,h3,hn0],trivial,Int.tmod_nonneg _ hx.1,Int.tmod_lt_of_pos _ (by omega)⟩
  ·have hc:cmp .lss p (b.length:Int)=false:=by rw[fc];simpa using h3
   have hm:ar .mul .i64 p 7=p*7:=Xf (by omega);have hm3:ar .add .i64 (p*7) 3=p*7+3:=nc (by omega);simp only[h0,decide_false,hc,ocR,hm,hm3,pr];have i1:inb (p.tmod b.length) b.length:=⟨Int.tmod_nonneg _ hp.1,Int.tmod_lt_of_pos _ (by omega)⟩;have i2:inb ((p*7+3).tmod b.length) b.length:=⟨Int.tmod_nonneg _ (by omega),Int.tmod_lt_of_pos _ (by omega)⟩;refine⟨by simp[hbne,i1,i2,hn0],trivial,?_⟩;have x1:=oD hb (p.tmod b.length);have x2:=oD hb ((p*7+3).tmod b.length);generalize Pi b (p.tmod b.length)=y1 at x1⊢;generalize Pi b ((p*7+3).tmod b.length)=y2 at x2⊢;rw[IntWalk.i64_in y1 (by omega),IntWalk.i64_in y2 (by omega)];have m1:ar .mul .i64 y1 131=y1*131:=Xf (by omega);have m2:ar .mul .i64 y2 1117=y2*1117:=Xf (by omega);have m3:ar .mul .i64 p 29=p*29:=Xf (by omega);have m4:ar .quo .i64 p b.length=p / b.length:=gD (by omega);have q0:0<=p / (b.length:Int):=Int.ediv_nonneg hp.1 (by omega);have q1:p / (b.length:Int)<=p:=Int.ediv_le_self _ hp.1;rw[m4];generalize p / (b.length:Int)=pl at q0 q1⊢;have m5:ar .mul .i64 pl 53=pl*53:=Xf (by omega);simp only[m1,m2,m3,m5];rw[nc (a:=y1*131) (b:=y2*1117) (by omega),nc (a:=y1*131+y2*1117) (b:=p*29) (by omega),nc (a:=y1*131+y2*1117+p*29) (b:=pl*53) (by omega)];have hX:0<=y1*131+y2*1117+p*29+pl*53/\y1*131+y2*1117+p*29+pl*53<=1000000000000:=by omega
   generalize y1*131+y2*1117+p*29+pl*53=X at hX⊢;rw[gD (by omega)];have hxr:=SY (a:=X) (b:=X / 64) (by omega) (by omega);exact⟨Int.tmod_nonneg _ hxr.1,Int.tmod_lt_of_pos _ (by omega)⟩
theorem TY{c:List Int}(hc:∀x∈c,0<=x/\x<=255):fm c/\∃b,Pg c=(b,0)/\Be b:=by
 have hl:aa .byte c=(c.length:Int):=rfl;simp only[fm,Pg,LD,JD,iO,gO,Hr,Gr,Er,Tr.val,Tr.ob,fa];by_cases h:2000<(c.length:Int)
 ·have hg:cmp .gtr (aa .byte c) 2000=true:=by rw[Yc,hl];simpa using h
  have h3:le3 0 2000 (aa .byte c):=⟨by omega,by omega,by rw[hl];omega⟩;simp only[hg,ocR];exact⟨by simp[h3],_,rfl,λx hx=>hc x (List.mem_of_mem_take (List.mem_of_mem_drop hx)),by simp;omega⟩
 ·have hg:cmp .gtr (aa .byte c) 2000=false:=by rw[Yc,hl];simpa using h
  simp only[hg,ocR];exact⟨by simp,_,rfl,hc,by omega⟩
theorem UY{b:List Int}(hb:Be b){p:Int}(hp:0<=p/\p<=900000) :
  Rr (b,p)/\(Qr (b,p)).2=p+3:=by
 obtain⟨a1,a2,a3,a4⟩:=bc hb (p:=p) (n:=10) (by omega) (by omega);obtain⟨b1,b2,b3,b4⟩:=bc hb (p:=p+1) (n:=8) (by omega) (by omega);obtain⟨c1,c2,c3,c4⟩:=bc hb (p:=p+1+1) (n:=8) (by omega) (by omega);obtain⟨d1,d2,d3,d4⟩:=bc hb (p:=p+1) (n:=4) (by omega) (by omega);obtain⟨e1,e2,e3,e4⟩:=bc hb (p:=p+1+1) (n:=4) (by omega) (by omega);simp only[Rr,Qr,cE,bE,Pr,Tr.val,Tr.ob,fa];simp only[a2,b2,d2];cases h:cmp .eql (ua (b,p) 10).1 0 with
 |true=>simp only[ocR,c2];exact⟨⟨⟨a1,trivial⟩,(λ_=>⟨⟨b1,c1,trivial⟩,trivial⟩),λh=>by cases h⟩,by omega⟩
 |false=>simp only[ocR,e2];exact⟨⟨⟨a1,trivial⟩,(λh=>by cases h),λ_=>⟨⟨d1,e1,trivial⟩,trivial⟩⟩,by omega⟩
theorem OM{b:List Int}(hb:Be b){p:Int}(hp:0<=p/\p<=800000) :
  mm (b,p)/\(Ye (b,p)).2=p+6/\-3<=(Ye (b,p)).1.Diff/\(Ye (b,p)).1.Diff<=3:=by
 obtain⟨a1,a2,a3,a4⟩:=bc hb (p:=p) (n:=4) (by omega) (by omega);obtain⟨b1,b2,b3,b4⟩:=bc hb (p:=p+1) (n:=9) (by omega) (by omega);obtain⟨c1,c2⟩:=UY hb (p:=p+1+1) (by omega);obtain⟨d1,d2,d3,d4⟩:=bc hb (p:=p+1+1+3) (n:=8) (by omega) (by omega);simp only[mm,Ye,fE,eE,Ur,Tr.val,Tr.ob,fa];simp only[a2,b2,c2,ocR,d2];refine⟨⟨⟨a1,b1,⟨b3,by show _<(9:Int);exact b4⟩,c1,d1,⟨d3,by show _<(8:Int);exact d4⟩,trivial⟩,trivial⟩,by omega,?_⟩;generalize (ua (b,p+1+1+3) 8).1=i at d3 d4;have hi:i=0\/i=1\/i=2\/i=3\/i=4\/i=5\/i=6\/i=7:=by omega
 rcases hi with rfl|rfl|rfl|rfl|rfl|rfl|rfl|rfl<;>exact⟨by decide,by decide⟩
end Go.Proofs.YthfkpijcajdnhaaGreat

namespace Go.Proofs.YthfkpijcajdnhaaGreat
open Go
def rK(r:Row):List Int:=[r.Key,r.Val,r.At.A,r.At.B]
def chR(xs:List Row):List (List Int×Int):=xs.map λr=>(rK r,r.Diff)
def mkR(p:List Int×Int):Row:=match p.1 with
 |[k,v,a,b]=>⟨k,v,⟨a,b⟩,p.2⟩
 |_=>⟨0,0,⟨0,0⟩,0⟩
def ab(xs:List Row):List Row:=(mc (chR xs)).map mkR
theorem VY(xs:List Row):(chR xs).map mkR=xs:=by
 unfold chR;rw[List.map_map];exact (List.map_congr_left λx _=>rfl).trans (List.map_id xs)
theorem pD(xs:List Row):yb 4 (chR xs):=by
 intro p hp;obtain⟨r,_,rfl⟩:=List.mem_map.1 hp;rfl
theorem WY(x y:List Int)(h:x.length=y.length)(hl:x.length<1099511627776) :
  NO x y/\MO x y=if ltK x y=true then .r (-1) else if ltK y x=true then .r 1 else .x ():=by
 have hz:(x.zip y).length=x.length:=by rw[List.length_zip];omega
 suffices key:∃q,ia (λs=>ca ((λ(s:Int)=>kg x y s) s)) (λs=>ym x y s) 0 q/\q=if ltK x y=true then .r (-1) else if ltK y x=true then .r 1 else .x () by
  obtain⟨q,h1,h2⟩:=key;exact⟨h1.t,h1.v.trans h2⟩
 refine ia.list (x.zip y) (λi (_:Unit)=>(i:Int))
  (λl _=>ltK x y=ltK (x.drop l.length) (y.drop l.length)/\ltK y x=ltK (y.drop l.length) (x.drop l.length))
  (b0:=()) rfl ⟨rfl,rfl⟩ ?_ ?_
 ·rintro l ⟨u,v⟩ r ⟨⟩ hx ⟨i1,i2⟩;have hlen:l.length<x.length:=by rw[← hz,hx];simp
  have hg:(x.zip y)[l.length]? = some (u,v):=by rw[hx];simp
  rw[List.getElem?_zip_eq_some]at hg
  have hu:rd .int x (l.length:Int)=u:=by
   show x.getD (Int.toNat l.length) 0=u;rw[Int.toNat_natCast,List.getD_eq_getElem?_getD,hg.1];rfl
  have hv:rd .int y (l.length:Int)=v:=by
   show y.getD (Int.toNat l.length) 0=v;rw[Int.toNat_natCast,List.getD_eq_getElem?_getD,hg.2];rfl
  have hdx:x.drop l.length=u::x.drop (l.length+1):=by
   rw[List.drop_eq_getElem_cons hlen]
   congr 1
   have:=hg.1;rw[List.getElem?_eq_getElem hlen]at this;exact Option.some.inj this
  have hdy:y.drop l.length=v::y.drop (l.length+1):=by
   rw[List.drop_eq_getElem_cons (by omega)]
   congr 1
   have:=hg.2;rw[List.getElem?_eq_getElem (by omega)]at this;exact Option.some.inj this
  rw[hdx,hdy]at i1 i2;have hlss:cmp .lss (l.length:Int) (aa .int x)=true:=by rw[fc];simp[aa];omega
  have hi1:inb (l.length:Int) (aa .int x):=⟨by omega,by simp[aa];omega⟩;have hi2:inb (l.length:Int) (aa .int y):=⟨by omega,by simp[aa];omega⟩;refine⟨by simp[ym,hlss,hi1,hi2,Uh,Tr.ob,fa],?_⟩;show ((∃b',ca (kg x y (l.length:Int))=_/\_)\/∃q,ca (kg x y (l.length:Int))=_/\_);simp only[kg,Uh,Tr.val];rw[hlss,hu,hv,Ua (l:=l) (by omega)];rcases Int.lt_trichotomy u v with c|c|c
  ·right;refine⟨.r (-1),by rw[show cmp .lss u v=true by rw[fc];simpa using c];rfl,?_⟩;rw[if_pos (by rw[i1];simp[ltK,c])]
  ·left;subst c;refine⟨(),by rw[show cmp .lss u u=false by rw[fc];simp,show cmp .gtr u u=false by rw[Yc];simp];rfl,?_⟩;rw[List.length_append,List.length_singleton,i1,i2];simp[ltK]
  ·right;refine⟨.r 1,by rw[show cmp .lss u v=false by rw[fc];simp;omega,show cmp .gtr u v=true by rw[Yc];simpa using c];rfl,?_⟩;rw[if_neg (by rw[i1];simp[ltK];omega),if_pos (by rw[i2];simp[ltK,c])]
 ·rintro⟨⟩ ⟨i1,i2⟩;have hlss:cmp .lss ((x.zip y).length:Int) (aa .int x)=false:=by rw[fc,hz];simp[aa]
  refine⟨by simp only[ym,hlss,Uh,Tr.ob,fa];simp,.x (),?_,?_⟩
  ·show ca (kg x y ((x.zip y).length:Int))=_;simp only[kg,Uh,Tr.val];rw[hlss];rfl
  ·rw[hz,List.drop_length,show x.length=y.length from h,List.drop_length]at i1 i2;rw[i1,i2];rfl
theorem PM(a b:Row):zm a b/\Vh a b=if ltK (rK a) (rK b)=true then -1 else if ltK (rK b) (rK a)=true then 1 else 0:=by
 obtain⟨h1,h2⟩:=WY (rK a) (rK b) rfl (by simp[rK]);unfold rK at h1 h2⊢;simp only[zm,Vh,BE,zE,PO,OO,Ks,Js,Is,Hs,lpS,Tr.val,Tr.ob];rw[h2];refine⟨by simp[h1],?_⟩;by_cases c1:ltK [a.Key,a.Val,a.At.A,a.At.B] [b.Key,b.Val,b.At.A,b.At.B]=true
 .rw[if_pos c1,if_pos c1];rfl
 ·rw[if_neg c1,if_neg c1];by_cases c2:ltK [b.Key,b.Val,b.At.A,b.At.B] [a.Key,a.Val,a.At.A,a.At.B]=true
  .rw[if_pos c2,if_pos c2];rfl
  .rw[if_neg c2,if_neg c2];rfl
def Mb(r:Row):List Row->List Row
 |[]=>[r]
 |y::ys=>if ltK (rK r) (rK y)=true then r::y::ys else if rK y=rK r then⟨r.Key,r.Val,⟨r.At.A,r.At.B⟩,ar .add .i64 r.Diff y.Diff⟩::ys else y::Mb r ys
theorem QM(r:Row):∀ys:List Row,chR (Mb r ys)=gc (rK r,r.Diff) (chR ys)
 |[]=>rfl
 |y::ys=>by
  simp only[Mb,chR,List.map_cons,gc];split
  .rfl
  ·split
   .rfl
   ·have:=QM r ys;unfold chR at this;rw[List.map_cons,this]
theorem RM(r:Row):∀ys:List Row,(Mb r ys).length<=ys.length+1
 |[]=>Nat.le_refl _
 |y::ys=>by
  have:=RM r ys;simp only[Mb];split
  .simp
  .split<;>simp<;>omega
theorem XY(xs:List Row)(r:Row)(hl:xs.length<1000000000000):Ws xs r/\Vs xs r=Mb r xs:=by
 suffices key:∃q,ia (λs=>ca ((λ(s:Int×(List Row)×Bool×Int)=>Ug xs r s.1 s.2.1 s.2.2.1 s.2.2.2) s)) (λs=>Xh xs r s.1 s.2.1 s.2.2.1 s.2.2.2) (r.Diff,[],false,0) q /\
   ∃d out done,q=.x (d,out,done)/\out.length<=xs.length+1/\((done=false/\out++[⟨r.Key,r.Val,⟨r.At.A,r.At.B⟩,d⟩]=Mb r xs)\/(done=true/\out=Mb r xs)) by
  obtain⟨q,h1,h2⟩:=key;obtain⟨d,out,done,rfl,hlo,hd⟩:=h2;have hc2:UO xs r=.x (d,out,done):=h1.v;have ho2:VO xs r:=h1.t;have hlim:∀y:Row,lim (aa .row out) (aa .row [y]):=λy=>by simp[lim,aa];omega
  simp only[Ws,Vs,GE,FE,XO,WO,Us,Ss,Ts,Rs,Qs,lpS,Tr.val,Tr.ob];rw[hc2];rcases hd with⟨rfl,hd⟩|⟨rfl,hd⟩
  ·simp only[DE,EE,Bool.not_false,ocR,Cm,Tr.val,Tr.ob,fa];exact⟨by simp[ho2,hlim],hd⟩
  ·simp only[DE,EE,Bool.not_true,ocR,Cm,Tr.val,Tr.ob,fa];exact⟨by simp[ho2],hd⟩
 refine ia.list
  xs (λi (b:Int×List Row×Bool)=>(b.1,b.2.1,b.2.2,(i:Int)))
  (λl b=>b.2.1.length<=l.length+1/\((b.2.2=false/\b.1=r.Diff/\b.2.1=l/\∀rest,Mb r (l++rest)=l++Mb r rest)\/(b.2.2=true/\∀rest,Mb r (l++rest)=b.2.1++rest)))
  (b0:=(r.Diff,[],false)) rfl ⟨by simp,.inl ⟨rfl,rfl,rfl,λ_=>rfl⟩⟩ ?_ ?_
 ·rintro l x rest ⟨d,out,done⟩ hx ⟨hlo,hI⟩;have hlen:xs.length=l.length+(rest.length+1):=by rw[hx];simp
  have hrd:rd .row xs (l.length:Int)=x:=by rw[hx];exact Za
  have hin:inb (l.length:Int) (aa .row xs):=by rw[hx];exact Ta (t:=.row)
  have hlss:cmp .lss (l.length:Int) (aa .row xs)=true:=by rw[hx];exact fb
  have hlim:∀ (o:List Row) (y:Row),o.length<=out.length+1->lim (aa .row o) (aa .row [y]):=λo y ho=>by simp only[lim,aa,List.length_singleton] at *;omega
  have hrk:∀d,rK (Row.mk r.Key r.Val (Time.mk r.At.A r.At.B) d)=rK r:=λ_=>rfl;obtain⟨pc,vc⟩:=PM x (Row.mk r.Key r.Val (Time.mk r.At.A r.At.B) d);rw[hrk]at vc;have hlo:out.length<=l.length+1:=hlo;show Xh xs r d out done (l.length:Int)/\((∃b',ca (Ug xs r d out done (l.length:Int))=_/\_)\/_);simp only[Xh,Ug,TO,SO,RO,QO,Bm,Am,Ps,Ns,Ms,Tr.val,Tr.ob,fa];rw[hlss,hrd,Ua (l:=l) (by omega)];generalize hc:Vh x (Row.mk r.Key r.Val (Time.mk r.At.A r.At.B) d)=c at vc;have hi0:=hlim out x (by omega);have hi1:=λy=>hlim out y (by omega);have hi2:=λy z=>hlim (out++[y]) z (by simp);rcases hI with⟨rfl,h2,h3,h4⟩|⟨rfl,h4⟩
  ·have h2:d=r.Diff:=h2;have h3:out=l:=h3;subst h2 h3;by_cases k1:ltK (rK x) (rK r)=true
   ·rw[if_pos k1]at vc;subst vc;refine⟨by simp[Yc,Db,hin,pc,hi1],.inl ⟨(r.Diff,out++[x],false),by simp[Yc,Db,ca],?_⟩⟩;refine⟨by simp,.inl ⟨rfl,rfl,rfl,λrest=>?_⟩⟩;rw[List.append_assoc,h4];have n1:¬ ltK (rK r) (rK x)=true:=λh=>by have:=Rf k1 h;rw[Me]at this;cases this
    have n2:¬ rK x=rK r:=λh=>by rw[h,Me]at k1;cases k1
    show out++Mb r (x::rest)=_;simp[Mb,n1,n2]
   ·rw[if_neg k1]at vc;by_cases k2:ltK (rK r) (rK x)=true
    ·rw[if_pos k2]at vc;subst vc;refine⟨by simp[Yc,Db,hin,pc,hi1,hi2],.inl ⟨(r.Diff,out++[r]++[x],true),by simp[Yc,Db,ca],?_⟩⟩;refine⟨by simp,.inr ⟨rfl,λrest=>?_⟩⟩;rw[List.append_assoc,h4];show out++Mb r (x::rest)=_;simp[Mb,k2]
    ·rw[if_neg k2]at vc;subst vc
     have he:rK x=rK r:=by
      by_cases e:rK x=rK r
      .exact e
      ·rcases Uq (a:=rK x) (b:=rK r) rfl e with h|h
       .exact absurd h k1
       .exact absurd h k2
     refine⟨by simp[Yc,Db,hin,pc,hi1],.inl ⟨(ar .add .i64 r.Diff x.Diff,out++[⟨r.Key,r.Val,⟨r.At.A,r.At.B⟩,ar .add .i64 r.Diff x.Diff⟩],true),by simp[Yc,Db,ca],?_⟩⟩;refine⟨by simp,.inr ⟨rfl,λrest=>?_⟩⟩;rw[List.append_assoc,h4];show out++Mb r (x::rest)=_;simp[Mb,he,Me]
  ·refine⟨by simp[hin,pc,hi1],.inl ⟨(d,out++[x],true),by simp[ca],?_⟩⟩;refine⟨by simp;omega,.inr ⟨rfl,λrest=>?_⟩⟩;rw[List.append_assoc,h4];simp
 ·rintro⟨d,out,done⟩ ⟨hlo,hI⟩;have hlss:cmp .lss (xs.length:Int) (aa .row xs)=false:=gb;show Xh xs r d out done (xs.length:Int)/\∃q,ca (Ug xs r d out done (xs.length:Int))=_/\_;simp only[Xh,Ug,Bm,Am,Tr.val,Tr.ob];rw[hlss];refine⟨by simp,_,rfl,d,out,done,rfl,hlo,?_⟩;rcases hI with⟨h1,h2,h3,h4⟩|⟨h1,h4⟩
  ·have h2:d=r.Diff:=h2;have h3:out=xs:=h3;have:=h4 [];rw[List.append_nil]at this;exact .inl ⟨h1,by rw[h2,h3,this];rfl⟩
  ·have:=h4 [];rw[List.append_nil,List.append_nil]at this;exact .inr ⟨h1,this.symm⟩
theorem YY(xs:List Row):∀s:List Row,chR (xs.foldl (λs x=>Mb x s) s)=(chR xs).foldl (λm q=>gc q m) (chR s):=by
 induction xs with
 |nil=>exact λ_=>rfl
 |cons x r ih=>
  intro s;rw[List.foldl_cons,ih,QM];rfl
theorem qD(xs:List Row):∀s:List Row,(xs.foldl (λs x=>Mb x s) s).length<=s.length+xs.length:=by
 induction xs with
 |nil=>exact λ_=>by simp
 |cons x r ih=>
  intro s;have h1:=ih (Mb x s);have h2:=RM x s;rw[List.foldl_cons,List.length_cons];omega
def InR(n:Int):Prop:=-9223372036854775808<=n/\n<=9223372036854775807
theorem SM{xs:List Row}(hr:∀x∈xs,InR x.Diff):(xs.foldl (λs x=>Mb x s) []).filter (λx=>x.Diff != 0)=ab xs:=by
 have h1:chR (xs.foldl (λs x=>Mb x s) [])=Se (chR xs):=YY xs []
 have h2:=HM (pD xs) (λq hq=>by
  obtain⟨r,hr',rfl⟩:=List.mem_map.1 hq;exact IntWalk.i64_in _ (hr r hr'))
 have h3:((chR (xs.foldl (λs x=>Mb x s) [])).filter (λp=>p.2 != 0)).map mkR=((Se (chR xs)).filter (λp=>p.2 != 0)).map mkR:=by rw[h1]
 rw[h2]at h3;unfold ab;rw[← h3];unfold chR;rw[List.filter_map,List.map_map];exact ((List.map_congr_left λx _=>rfl).trans (List.map_id _)).symm
theorem rD{xs:List Row}(hr:∀x∈xs,InR x.Diff):(ab xs).length<=xs.length:=by
 rw[← SM hr];have:=qD xs [];have h2:=List.length_filter_le (λx:Row=>x.Diff != 0) (xs.foldl (λs x=>Mb x s) []);simp at this;omega
theorem Mh(xs:List Row)(hl:xs.length<1000000000)(hr:∀x∈xs,InR x.Diff):Gf xs/\Ee xs=ab xs:=by
 have k2:ia (λs=>ca ((λ(s:(List Row)×Int)=>cj xs s.1 s.2) s)) (λs=>Em xs s.1 s.2) ([],0) (.x (xs.foldl (λs x=>Mb x s) [])):=by
  refine ia.fold xs (λi b=>(b,(i:Int))) (λl=>l.foldl (λs x=>Mb x s) []) rfl (λl x r hx=>?_) ?_
  ·have hlen:xs.length=l.length+(r.length+1):=by rw[hx];simp
   have hfl:=qD l [];simp at hfl;obtain⟨p1,p2⟩:=XY (l.foldl (λs x=>Mb x s) []) x (by omega);have hrd:rd .row xs (l.length:Int)=x:=by rw[hx];exact Za
   have hin:inb (l.length:Int) (aa .row xs):=by rw[hx];exact Ta (t:=.row)
   have hlss:cmp .lss (l.length:Int) (aa .row xs)=true:=by rw[hx];exact fb
   simp only[Em,cj,hlss,hrd,Ua (l:=l) (by omega),p2,Dm,Tr.val,Tr.ob,fa];exact⟨by simp[hin,p1],by simp[ca]⟩
  ·have hend:cmp .lss (xs.length:Int) (aa .row xs)=false:=gb (t:=.row);simp only[Em,cj,hend,Dm,Tr.val,Tr.ob,fa];exact⟨by simp,rfl⟩
 have hfl:=qD xs [];simp at hfl;generalize hys:xs.foldl (λs x=>Mb x s) []=ys at k2 hfl
 have k4:ia (λs=>ca ((λ(s:(List Row)×Int)=>ej ys s.1 s.2) s)) (λs=>Hm ys s.1 s.2) ([],0) (.x (ys.filter (λx=>x.Diff != 0))):=by
  refine ia.fold ys (λi b=>(b,(i:Int))) (λl=>l.filter (λx=>x.Diff != 0)) rfl (λl x r hx=>?_) ?_
  ·have hlen:ys.length=l.length+(r.length+1):=by rw[hx];simp
   have hfl:=List.length_filter_le (λx:Row=>x.Diff != 0) l;have hrd:rd .row ys (l.length:Int)=x:=by rw[hx];exact Za
   have hin:inb (l.length:Int) (aa .row ys):=by rw[hx];exact Ta (t:=.row)
   have hlss:cmp .lss (l.length:Int) (aa .row ys)=true:=by rw[hx];exact fb
   have hlim:lim (aa .row (l.filter (λx=>x.Diff != 0))) (aa .row [x]):=Wb (t:=.row) (show (l.filter (λx:Row=>x.Diff != 0)).length<1099511627776 by omega);simp only[Hm,ej,dP,cP,hlss,hrd,Ua (l:=l) (by omega),Ae,Gm,Fm,bt,Tr.val,Tr.ob,fa];by_cases h0:x.Diff=0
   ·simp only[h0,decide_true,Bool.not_true];exact⟨by simp[hin],by simp[ca,h0,List.filter_append]⟩
   ·simp only[h0,decide_false,Bool.not_false];exact⟨by simp[hin,hlim],by simp[ca,h0,List.filter_append]⟩
  ·have hend:cmp .lss (ys.length:Int) (aa .row ys)=false:=gb (t:=.row);simp only[Hm,ej,hend,Gm,Fm,Tr.val,Tr.ob];exact⟨by simp,rfl⟩
 have a2:YO xs=.x ys:=k2.v;have b2:ZO xs:=k2.t;have a4:eP ys=.x (ys.filter (λx=>x.Diff != 0)):=k4.v;have b4:fP ys:=k4.t;rw[← SM hr,hys];simp only[Gf,Ee,PE,ME,bP,aP,iP,gP,a2,a4,ocR,jt,Zs,ft,Ys,Xs,et,ct,lpS,Tr.val,Tr.ob];exact⟨by simp[b2,b4],trivial⟩
def itR(x:Item):Row:=⟨x.Key,x.Val,⟨0,0⟩,x.Count⟩
def rIt(x:Row):Item:=⟨x.Key,x.Val,x.Diff⟩
theorem sD:∀ (a b:List Int),a.length=b.length->ltK (a++[0]) (b++[0])=ltK a b
 |[],[],_=>by simp[ltK]
 |a::r,b::r',h=>by simp only[List.cons_append,ltK];rw[sD r r' (by simpa using h)]
 |[],_::_,h=>by simp at h
 |_::_,[],h=>by simp at h
theorem Rl(xs:List Item):yb 3 (chI xs):=by
 intro p hp;obtain⟨r,_,rfl⟩:=List.mem_map.1 hp;rfl
theorem tD{xs:List Item}{p:List Int×Int}(hp:p∈mc (chI xs)):∃x∈xs,p.1=kI x:=by
 obtain⟨h1,h2⟩:=ze.1 hp;obtain⟨q,hq,e⟩:=Ll (h1▸h2);obtain⟨x,hx,rfl⟩:=List.mem_map.1 hq;exact⟨x,hx,e.symm⟩
theorem ZY(xs:List Item):(ab (xs.map itR)).map rIt=gathI xs:=by
 have h1:chR (xs.map itR)=(chI xs).map λq=>(q.1++[0],q.2):=by
  unfold chR chI;rw[List.map_map,List.map_map];rfl
 unfold ab gathI;rw[h1,IM (n:=3) (m:=4) (f:=λk=>k++[0]) (λa b h=>List.append_cancel_right h) (λk h=>by simp[h]) (λa b ha hb=>sD a b (ha.trans hb.symm)) (Rl xs),List.map_map,List.map_map];refine List.map_congr_left λp hp=>?_;obtain⟨x,_,e⟩:=tD hp;show rIt (mkR (p.1++[0],p.2))=mkI p;obtain⟨k,d⟩:=p;have e:k=kI x:=e;subst e;rfl
theorem UM(xs:List Item)(hl:xs.length<100000000)(hr:∀x∈xs,InR x.Count):Dn xs/\Cn xs=gathI xs:=by
 have k2:ia (λs=>ca ((λ(s:(List Row)×Int)=>Jj xs s.1 s.2) s)) (λs=>yn xs s.1 s.2) ([],0) (.x (xs.map itR)):=by
  refine ia.fold xs (λi b=>(b,(i:Int))) (λl=>l.map itR) rfl (λl x r hx=>?_) ?_
  ·have hlen:xs.length=l.length+(r.length+1):=by rw[hx];simp
   have hrd:rd .item xs (l.length:Int)=x:=by rw[hx];exact Za
   have hin:inb (l.length:Int) (aa .item xs):=by rw[hx];exact Ta (t:=.item)
   have hlss:cmp .lss (l.length:Int) (aa .item xs)=true:=by rw[hx];exact fb
   have hlim:∀y,lim (aa .row (l.map itR)) (aa .row [y]):=λy=>by simp only[lim,aa,List.length_singleton,List.length_map];omega
   simp only[yn,Jj,hlss,hrd,Ua (l:=l) (by omega),xn,Tr.val,Tr.ob,fa];exact⟨by simp[hin,hlim],by simp[ca,itR]⟩
  ·have hend:cmp .lss (xs.length:Int) (aa .item xs)=false:=gb (t:=.item);simp only[yn,Jj,hend,xn,Tr.val,Tr.ob,fa];exact⟨by simp,rfl⟩
 have hr':∀y∈xs.map itR,InR y.Diff:=by
  intro y hy;obtain⟨x,hx,rfl⟩:=List.mem_map.1 hy;exact hr x hx
 obtain⟨p1,p2⟩:=Mh (xs.map itR) (by simp;omega) hr';have hgl:=rD hr';rw[List.length_map]at hgl;generalize hys:ab (xs.map itR)=ys at p2 hgl
 have k4:ia (λs=>ca ((λ(s:(List Item)×Int)=>Kj ys s.1 s.2) s)) (λs=>Bn ys s.1 s.2) ([],0) (.x (ys.map rIt)):=by
  refine ia.fold ys (λi b=>(b,(i:Int))) (λl=>l.map rIt) rfl (λl x r hx=>?_) ?_
  ·have hlen:ys.length=l.length+(r.length+1):=by rw[hx];simp
   have hrd:rd .row ys (l.length:Int)=x:=by rw[hx];exact Za
   have hin:inb (l.length:Int) (aa .row ys):=by rw[hx];exact Ta (t:=.row)
   have hlss:cmp .lss (l.length:Int) (aa .row ys)=true:=by rw[hx];exact fb
   have hlim:∀y,lim (aa .item (l.map rIt)) (aa .item [y]):=λy=>by simp only[lim,aa,List.length_singleton,List.length_map];omega
   simp only[Bn,Kj,hlss,hrd,Ua (l:=l) (by omega),zn,Tr.val,Tr.ob,fa];exact⟨by simp[hin,hlim],by simp[ca,rIt]⟩
  ·have hend:cmp .lss (ys.length:Int) (aa .row ys)=false:=gb (t:=.row);simp only[Bn,Kj,hend,zn,Tr.val,Tr.ob,fa];exact⟨by simp,rfl⟩
 have a2:aR xs=.x (xs.map itR):=k2.v;have b2:bR xs:=k2.t;have a4:fR ys=.x (ys.map rIt):=k4.v;have b4:gR ys:=k4.t;rw[← ZY,hys];simp only[Dn,Cn,uG,tG,eR,cR,jR,iR,a2,p2,a4,ocR,Kv,Gv,Jv,Fv,Ev,Iv,Hv,lpS,Tr.val,Tr.ob,fa];exact⟨by simp[b2,b4,p1,p2],trivial⟩
end Go.Proofs.YthfkpijcajdnhaaGreat

namespace Go.Proofs.YthfkpijcajdnhaaGreat
open Go
def sumT:List (List Int×Int)->List Int->Int
 |[],_=>0
 |q::r,k=>(if q.1=k then q.2 else 0)+sumT r k
def Sl:List (List Int×Int)->Int
 |[]=>0
 |q::r=>(if 0<=q.2 then q.2 else -q.2)+Sl r
def uD(c:Int)(xs:List Item):Prop:=∀x∈xs,-c<=x.Count/\x.Count<=c
theorem uD.mono{c d:Int}{xs:List Item}(h:uD c xs)(hc:c<=d):uD d xs:=λx hx=>by have:=h x hx;omega
theorem Tl(a b c:Int):ig a b c:=trivial
theorem Ul(a b c:Int):Nd a b c=(decide (b<=a)&&decide (a<=c)):=by
 show cond (cmp .geq a b) (cmp .leq a c) false=_;rw[Oi,Re];cases decide (b<=a)<;>rfl
theorem Qi(t:Time):Qg t:=⟨⟨Tl _ _ _,λ_=>Tl _ _ _,trivial⟩,trivial⟩
theorem ur(s t:Time):Cv s t:=⟨⟨Qi _,λ_=>Qi _,trivial⟩,trivial⟩
theorem aZ(r:Row):qE r:=⟨⟨Tl _ _ _,λ_=>Tl _ _ _,λ_=>Qi _,λ_=>Tl _ _ _,trivial⟩,trivial⟩
theorem bZ{b:List Int}(hb:Be b){p n:Int}(hp:0<=p/\p<=700000){out:List Row}(hl:out.length<=1000)(hd:∀x∈out,-3<=x.Diff/\x.Diff<=3){x:Row}(hx : -3<=x.Diff/\x.Diff<=3) :
  Xr b p out n x/\∃p' k v d,gE b p out n x=.n (p',k,v,d)/\p<=p'/\p'<=p+3/\-3<=d/\d<=3:=by
 have hL:aa .row out=(out.length:Int):=rfl;simp only[Xr,gE,Wr,Tr.val,Tr.ob,fa];simp only[hL,Yc,Db];by_cases h0:0<(out.length:Int)
 ·obtain⟨a1,a2,a3,a4⟩:=bc hb (p:=p) (n:=3) (by omega) (by omega);obtain⟨b1,b2,b3,b4⟩:=bc hb (p:=p+1) (n:=(out.length:Int)) (by omega) (by omega);obtain⟨c1,c2,c3,c4⟩:=bc hb (p:=p+1+1) (n:=2) (by omega) (by omega);have hin:inb (ua (b,p+1) (out.length:Int)).1 (out.length:Int):=⟨b3,b4⟩
  have hy : -3<=(rd .row out (ua (b,p+1) (out.length:Int)).1).Diff/\(rd .row out (ua (b,p+1) (out.length:Int)).1).Diff<=3:=by
   have hlt:(ua (b,p+1) (out.length:Int)).1.toNat<out.length:=by omega
   have he:rd .row out (ua (b,p+1) (out.length:Int)).1=out[(ua (b,p+1) (out.length:Int)).1.toNat]:=by
    show out.getD _ _=_;rw[List.getD_eq_getElem?_getD,List.getElem?_eq_getElem hlt];rfl
   rw[he];exact hd _ (List.getElem_mem _)
  simp only[h0,decide_true,Bool.and_true,cond_true,a2,b2];by_cases e1:(ua (b,p) 3).1=0
  ·simp only[e1,decide_true];by_cases e2:(ua (b,p+1+1) 2).1=0
   ·simp only[e2,decide_true];refine⟨by simp[a1,b1,c1,hin],_,_,_,_,rfl,by omega,by omega,?_⟩;rw[IntWalk.i64_in _ (by omega)];omega
   ·simp only[e2,decide_false];exact⟨by simp[a1,b1,c1,hin],_,_,_,_,rfl,by omega,by omega,hx⟩
  ·simp only[e1,decide_false];exact⟨by simp[a1],_,_,_,_,rfl,by omega,by omega,hx⟩
 ·simp only[h0,decide_false,Bool.false_and,cond_false];exact⟨by simp,_,_,_,_,rfl,by omega,by omega,hx⟩
theorem ia.down{σ ρ β:Type}[Inhabited ρ]{step:σ->Lp σ ρ}{ob:σ->Prop}(st:Nat->β->σ)(I:Nat->β->Prop){Q:ρ->Prop}{n0:Nat}{b0:β}{s0:σ}(hs:st n0 b0=s0)(h0:I n0 b0)
  (hgo:∀n b,n+1<=n0->I (n+1) b->ob (st (n+1) b)/\∃b',step (st (n+1) b)=.go (st n b')/\I n b')
  (hout:∀b,I 0 b->ob (st 0 b)/\∃q,step (st 0 b)=.out q/\Q q):∃q,ia step ob s0 q/\Q q:=by
 subst hs
 suffices ∀ (n:Nat) (b:β),n<=n0->I n b->∃q,ia step ob (st n b) q/\Q q from this n0 b0 (Nat.le_refl _) h0
 intro n
 induction n with
 |zero=>
  intro b _ hI;obtain⟨ho,q,h1,h2⟩:=hout b hI;exact⟨q,.out ho h1,h2⟩
 |succ n ih=>
  intro b hn hI;obtain⟨ho,b',h1,h2⟩:=hgo n b hn hI;obtain⟨q,hq,hQ⟩:=ih b' (by omega) h2;exact⟨q,.go ho h1 hq,hQ⟩
theorem VM{b:List Int}(hb:Be b){p m:Int}(hp:0<=p/\p<=500000)(hm:0<=m/\m<=100) :
  rm (b,p) m/\p<=(Ff (b,p) m).2/\(Ff (b,p) m).2<=p+1+9*m/\((Ff (b,p) m).1.length:Int)<=m/\∀x∈(Ff (b,p) m).1,-3<=x.Diff/\x.Diff<=3:=by
 have h1:ar .add .i64 m 1=m+1:=nc (by omega);obtain⟨a1,a2,a3,a4⟩:=bc hb (p:=p) (n:=m+1) (by omega) (by omega);generalize hn:(ua (b,p) (m+1)).1=n at a3 a4;obtain⟨n0,rfl⟩ : ∃n0:Nat,n=(n0:Int):=⟨n.toNat,by omega⟩
 have key:∃q,ia (λs=>ca ((λ(s:Int×(List Row)×Int)=>Xi b (p+1) (n0:Int) s.1 s.2.1 s.2.2) s)) (λs=>qm b (p+1) (n0:Int) s.1 s.2.1 s.2.2) (p+1,[],(n0:Int)) q /\
   ∃p' out,q=.x (p',out)/\p+1<=p'/\p'<=p+1+9*n0/\out.length<=n0/\∀x∈out,-3<=x.Diff/\x.Diff<=3:=by
  refine ia.down (λi (b:Int×List Row)=>(b.1,b.2,(i:Int))) (λi b=>p+1<=b.1/\b.1+9*i<=p+1+9*n0/\b.2.length+i<=n0/\∀x∈b.2,-3<=x.Diff/\x.Diff<=3) (n0:=n0) (b0:=(p+1,[])) rfl ⟨by simp,by simp,by simp,λx hx=>by simp at hx⟩ ?_ ?_
  ·rintro i ⟨q,out⟩ hi ⟨i1,i2,i3,i4⟩;simp only[]at i1 i2 i3 i4;have hg:cmp .gtr (((i+1:Nat):Int)) 0=true:=by rw[Yc];simp
   have hs:ar .sub .i64 (((i+1:Nat):Int)) 1=(i:Int):=by rw[Ng (by omega)];omega
   obtain⟨r1,r2,r3,r4⟩:=OM hb (p:=q) (by omega);obtain⟨c1,p',k,v,d,c2,c3,c4,c5⟩:=bZ hb (p:=q+6) (n:=((i+1:Nat):Int)) (by omega) (out:=out) (by omega) i4 (x:=(Ye (b,q)).1) ⟨r3,r4⟩;have hlim:∀y,lim (aa .row out) (aa .row [y]):=λy=>Wb (t:=.row) (show out.length<1099511627776 by omega);simp only[qm,Xi,rO,qO,hg,hs,r2,c2,pm,om,Zr,Yr,Tr.val,Tr.ob,fa];have c1':Xr b (q+6) out ((i:Int)+1) (Ye (b,q)).1:=c1;refine⟨by simp[r1,c1',hlim],⟨p',out++[⟨k,v,(Ye (b,q)).1.At,d⟩]⟩,rfl,by simp only[];omega,by simp only[];omega,by simp;omega,λx hx=>?_⟩;rcases List.mem_append.1 hx with h|h
   .exact i4 x h
   .simp at h;subst h;exact c5
  ·rintro⟨q,out⟩ ⟨i1,i2,i3,i4⟩;have hg:cmp .gtr ((0:Nat):Int) 0=false:=rfl;simp only[qm,Xi,hg,pm,om,Tr.val,Tr.ob];exact⟨by simp,_,rfl,q,out,rfl,i1,by simp at i2;omega,by simpa using i3,i4⟩
 obtain⟨q,k1,p',out,rfl,k2,k3,k4,k5⟩:=key;have a5:sO b (p+1) (n0:Int)=.x (p',out):=k1.v;have b5:tO b (p+1) (n0:Int):=k1.t;simp only[rm,Ff,kE,jE,vO,uO,h1,a2,hn,a5,ocR,qs,ns,js,es,lpS,Tr.val,Tr.ob,fa];exact⟨by simp[a1,b5],by omega,by omega,by omega,k5⟩
end Go.Proofs.YthfkpijcajdnhaaGreat

namespace Go.Proofs.YthfkpijcajdnhaaGreat
open Go
theorem last_cases{α:Type}(l:List α):(l=[]/\l.getLast? = none)\/∃l' y,l=l'++[y]/\l.getLast? = some y:=by
 rcases List.eq_nil_or_concat l with h|⟨l',y,h⟩
 .exact .inl ⟨h,by rw[h];rfl⟩
 .exact .inr ⟨l',y,by rw[h,List.concat_eq_append],by rw[h];simp⟩
def Dc(xs:List Item):List Item:=(xs.filter λx=>decide (0<x.Count)).map λx=>⟨x.Key,x.Val,1⟩
theorem WM(xs:List Item)(hl:xs.length<1000000000):gp xs/\Dk xs=Dc xs:=by
 have k2:ia (λs=>ca ((λ(s:(List Item)×Int)=>Ck xs (aa .item xs) s.1 s.2) s)) (λs=>fp xs (aa .item xs) s.1 s.2) ([],0) (.x (Dc xs)):=by
  refine ia.fold xs (λi b=>(b,(i:Int))) Dc rfl (λl x r hx=>?_) ?_
  ·have hlen:xs.length=l.length+(r.length+1):=by rw[hx];simp
   have hrd:rd .item xs (l.length:Int)=x:=by rw[hx];exact Za
   have hin:inb (l.length:Int) (aa .item xs):=by rw[hx];exact Ta (t:=.item)
   have hlss:cmp .lss (l.length:Int) (aa .item xs)=true:=by rw[hx];exact fb
   have ho:(Dc l).length<=l.length:=by unfold Dc;rw[List.length_map];exact List.length_filter_le _ _
   have hlim:∀y,lim (aa .item (Dc l)) (aa .item [y]):=λy=>Wb (t:=.item) (show (Dc l).length<1099511627776 by omega);simp only[fp,Ck,jU,iU,hlss,hrd,Ua (l:=l) (by omega),Yc,ep,dp,iz,Tr.val,Tr.ob,fa];by_cases h0:0<x.Count
   ·simp only[h0,decide_true];exact⟨by simp[hin,hlim],by simp[ca,Dc,h0,List.filter_append]⟩
   ·simp only[h0,decide_false];exact⟨by simp[hin],by simp[ca,Dc,h0,List.filter_append]⟩
  ·have hend:cmp .lss (xs.length:Int) (aa .item xs)=false:=gb (t:=.item);simp only[fp,Ck,hend,ep,dp,Tr.val,Tr.ob];exact⟨by simp,rfl⟩
 have a2:kU xs (aa .item xs)=.x (Dc xs):=k2.v;have b2:lU xs (aa .item xs):=k2.t;simp only[gp,Dk,aJ,ZI,nU,mU,a2,ocR,nz,mz,lz,jz,lpS,Tr.val,Tr.ob];exact⟨by simp[b2],trivial⟩
end Go.Proofs.YthfkpijcajdnhaaGreat

namespace Go.Proofs.YthfkpijcajdnhaaGreat
open Go
def sumF(φ:List Int->Bool):List (List Int×Int)->Int
 |[]=>0
 |q::r=>(if φ q.1=true then q.2 else 0)+sumF φ r
theorem JM:∀ (l l':List (List Int×Int)) (k:List Int),sumT (l++l') k=sumT l k+sumT l' k
 |[],l',k=>by simp[sumT]
 |q::r,l',k=>by have:=JM r l' k;simp only[List.cons_append,sumT,this];omega
theorem kD(k:List Int):∀l,sumT l k=sumF (λx=>decide (x=k)) l
 |[]=>rfl
 |q::r=>by simp only[sumT,sumF,kD k r,decide_eq_true_eq]
theorem LM(φ:List Int->Bool):∀m:MP,sumF φ (m.filter λp=>p.2 != 0)=sumF φ m/\Sl (m.filter λp=>p.2 != 0)=Sl m
 |[]=>⟨rfl,rfl⟩
 |p::m=>by
  obtain⟨h1,h2⟩:=LM φ m;by_cases h:p.2=0
  .simp[h,sumF,Sl,h1,h2]
  .simp[h,sumF,Sl,h1,h2]
theorem Ml(xs:List Item):chI (gathI xs)=mc (chI xs):=by
 unfold gathI
 have:∀m:MP,(∀p∈m,∃x∈xs,p.1=kI x)->chI (m.map mkI)=m:=by
  intro m
  induction m with
  |nil=>exact λ_=>rfl
  |cons p m ih=>
   intro h;obtain⟨x,_,e⟩:=h p (by simp);show (kI (mkI p),(mkI p).Count)::chI (m.map mkI)=_;rw[ih λq hq=>h q (by simp[hq])];obtain⟨k,d⟩:=p;have e:k=kI x:=e;subst e;rfl
 exact this _ λp hp=>tD hp
theorem GY{xs:List Row}{p:List Int×Int}(hp:p∈mc (chR xs)):∃x∈xs,p.1=rK x:=by
 obtain⟨h1,h2⟩:=ze.1 hp;obtain⟨q,hq,e⟩:=Ll (h1▸h2);obtain⟨x,hx,rfl⟩:=List.mem_map.1 hq;exact⟨x,hx,e.symm⟩
theorem HY(a b:List Item):chI (a++b)=chI a++chI b:=List.map_append
def Bf(s t:Time):Bool:=decide (s.A<=t.A)&&decide (s.B<=t.B)
def Va(L:List Row)(t:Time):List Item:=(L.filter λr=>Bf r.At t).map rIt
def xd(L:List Row)(t:Time):List Item:=gathI (Va L t)
theorem lD(a b:List Row)(t:Time):Va (a++b) t=Va a t++Va b t:=by simp[Va]
def Te(x y:Row):Prop:=ltK (rK x) (rK y)=true
end Go.Proofs.YthfkpijcajdnhaaGreat

namespace Go.Proofs.YthfkpijcajdnhaaGreat
open Go
def Eqm(a b:Int):Prop:=∃q:Int,a=b+q*18446744073709551616
theorem Eqm.refl(a:Int):Eqm a a:=⟨0,by omega⟩
theorem Eqm.of{a b:Int}(h:a=b):Eqm a b:=⟨0,by omega⟩
theorem Eqm.symm{a b:Int}(h:Eqm a b):Eqm b a:=by obtain⟨q,h⟩:=h;exact⟨-q,by omega⟩
theorem Eqm.trans{a b c:Int}(h:Eqm a b)(h':Eqm b c):Eqm a c:=by
 obtain⟨q,h⟩:=h;obtain⟨p,h'⟩:=h';exact⟨q+p,by omega⟩
theorem Eqm.add{a b c d:Int}(h:Eqm a b)(h':Eqm c d):Eqm (a+c) (b+d):=by
 obtain⟨q,h⟩:=h;obtain⟨p,h'⟩:=h';exact⟨q+p,by omega⟩
theorem Eqm.neg{a b:Int}(h:Eqm a b):Eqm (-a) (-b):=by obtain⟨q,h⟩:=h;exact⟨-q,by omega⟩
theorem Eqm.eq{a b:Int}(h:Eqm a b)(ha:InR a)(hb:InR b):a=b:=by
 obtain⟨q,h⟩:=h;unfold InR at ha hb;omega
theorem Nl(n:Int):Eqm (IntKind.wrap .i64 n) n:=by
 rw[IntKind.wrap_i64];exact⟨-((n+9223372036854775808) / 18446744073709551616),by omega⟩
theorem Ol(n:Int):InR (IntKind.wrap .i64 n):=by
 rw[IntKind.wrap_i64];unfold InR;omega
theorem mD{n:Int}(h:InR n):IntKind.wrap .i64 n=n:=IntWalk.i64_in _ h
theorem Eqm.wrap{a b:Int}(h:Eqm a b):IntKind.wrap .i64 a=IntKind.wrap .i64 b:=((Nl a).trans (h.trans (Nl b).symm)).eq (Ol a) (Ol b)
theorem Pl(l:List (List Int×Int))(k:List Int):Eqm (Le l k) (sumT l k)/\InR (Le l k):=by
 suffices ∀ (l:List (List Int×Int)) (s:Int),InR s->Eqm (l.foldl (λs q=>if q.1=k then ar .add .i64 s q.2 else s) s) (s+sumT l k)/\InR (l.foldl (λs q=>if q.1=k then ar .add .i64 s q.2 else s) s) by
  have:=this l 0 (by unfold InR;omega);rw[Int.zero_add]at this;exact this
 intro l
 induction l with
 |nil=>intro s hs;exact⟨Eqm.of (by simp[sumT]),hs⟩
 |cons q r ih=>
  intro s hs;rw[List.foldl_cons];simp only[sumT];by_cases hq:q.1=k
  ·simp only[hq,if_true];obtain⟨h1,h2⟩:=ih (ar .add .i64 s q.2) (Ol _);refine⟨h1.trans ?_,h2⟩;have h3:Eqm (ar .add .i64 s q.2) (s+q.2):=Nl _;exact (h3.add (Eqm.refl _)).trans (Eqm.of (by omega))
  ·simp only[hq,if_false];obtain⟨h1,h2⟩:=ih s hs;exact⟨h1.trans (Eqm.of (by omega)),h2⟩
theorem IY{n:Nat}{l l':List (List Int×Int)}(hk:yb n l)(hk':yb n l')(hs:∀k,Eqm (sumT l k) (sumT l' k)):mc l=mc l':=rr (Gh hk) (Gh hk') λp=>by
  obtain⟨h1,h2⟩:=Pl l p.1;obtain⟨h3,h4⟩:=Pl l' p.1;rw[ze,ze,(h1.trans ((hs p.1).trans h3.symm)).eq h2 h4]
theorem JY{a b:List Item}(h:∀k,Eqm (sumT (chI a) k) (sumT (chI b) k)):gathI a=gathI b:=congrArg (List.map mkI) (IY (Rl a) (Rl b) h)
theorem MM(φ:List Int->Bool)(q:List Int×Int):∀m:MP,Eqm (sumF φ (gc q m)) ((if φ q.1=true then q.2 else 0)+sumF φ m)
 |[]=>Eqm.refl _
 |p::m=>by
  unfold gc;split
  .exact Eqm.refl _
  ·split
   ·rename_i h1 h2;simp only[sumF,h2];have ha:Eqm (ar .add .i64 q.2 p.2) (q.2+p.2):=Nl _;split
    .exact (ha.add (Eqm.refl _)).trans (Eqm.of (by omega))
    .exact Eqm.of (by omega)
   ·simp only[sumF];exact ((Eqm.refl _).add (MM φ q m)).trans (Eqm.of (by omega))
theorem LY(φ:List Int->Bool)(l:List (List Int×Int)):Eqm (sumF φ (Se l)) (sumF φ l):=by
 suffices ∀ (l:List (List Int×Int)) (m:MP),Eqm (sumF φ (l.foldl (λm q=>gc q m) m)) (sumF φ m+sumF φ l) by
  have:=this l [];simpa [Se,sumF] using this
 intro l
 induction l with
 |nil=>intro m;exact Eqm.of (by simp[sumF])
 |cons q r ih=>
  intro m;rw[List.foldl_cons];simp only[sumF];exact (ih (gc q m)).trans (((MM φ q m).add (Eqm.refl _)).trans (Eqm.of (by omega)))
theorem MY{n:Nat}{l:List (List Int×Int)}(hk:yb n l)(hr:∀q∈l,InR q.2)(φ:List Int->Bool):Eqm (sumF φ (mc l)) (sumF φ l):=by
 rw[← HM hk λq hq=>mD (hr q hq),(LM φ (Se l)).1];exact LY φ l
theorem NY{a:List Item}(h:∀x∈a,InR x.Count):∀q∈chI a,InR q.2:=λq hq=>by
 obtain⟨x,hx,rfl⟩:=List.mem_map.1 hq;exact h x hx
theorem PY{l:List (List Int×Int)}{p:List Int×Int}(hp:p∈mc l):InR p.2:=by
 rw[(ze.1 hp).1];exact (Pl l p.1).2
theorem nD{a:List Item}{x:Item}(hx:x∈gathI a):InR x.Count:=by
 have:(kI x,x.Count)∈chI (gathI a):=List.mem_map.2 ⟨x,hx,rfl⟩;rw[Ml]at this;exact PY this
theorem QY{a:List Item}(h:∀x∈a,InR x.Count)(k:List Int):Eqm (sumT (chI (gathI a)) k) (sumT (chI a) k):=by
 rw[Ml,kD,kD];exact MY (Rl a) (NY h) _
theorem Eqm.mul{a b:Int}(c:Int)(h:Eqm a b):Eqm (c*a) (c*b):=by
 obtain⟨q,h⟩:=h;exact⟨c*q,by rw[h,Int.mul_add,Int.mul_assoc]⟩
theorem Ql{xs:List Row}(h:∀x∈xs,InR x.Diff):(ab xs).length<=xs.length:=rD h
theorem NM(a b:List Item)(k:List Int):sumT (chI (a++b)) k=sumT (chI a) k+sumT (chI b) k:=by
 rw[HY,JM]
end Go.Proofs.YthfkpijcajdnhaaGreat

namespace Go.Proofs.YthfkpijcajdnhaaGreat
namespace Tg
open Go
instance:DecidableEq Time:=λs t=>decidable_of_iff (s.A=t.A/\s.B=t.B) ⟨λh=>by
 obtain⟨a,b⟩:=s;obtain⟨c,d⟩:=t;simp only at h;rw[h.1,h.2],λh=>by rw[h];exact⟨rfl,rfl⟩⟩
def tK(t:Time):List Int:=[t.A,t.B]
def bb(s t:Time):Time:=⟨mx s.A t.A,mx s.B t.B⟩
theorem si(a b:Int):mx a b=if a<=b then b else a:=by
 unfold mx;split<;>split<;>omega
theorem zA{s t:Time}(h:tK s=tK t):s=t:=by
 obtain⟨a,b⟩:=s;obtain⟨c,d⟩:=t;simp[tK]at h;obtain⟨rfl,rfl⟩:=h;rfl
theorem Vp{xs:List Row}{k:Int}{t:Time}:jT xs k t=true↔(∃x∈xs,x.Key=k/\x.At.A=t.A/\x.At.B<=t.B)/\∃x∈xs,x.Key=k/\x.At.B=t.B/\x.At.A<=t.A:=by
 simp[jT,List.any_eq_true]
theorem JV{xs:List Row}{k:Int}{x:Row}(hx:x∈xs)(hk:x.Key=k):jT xs k x.At=true:=Vp.2 ⟨⟨x,hx,hk,rfl,Int.le_refl _⟩,x,hx,hk,rfl,Int.le_refl _⟩
theorem LV{xs:List Row}{k:Int}{s t:Time}(hs:jT xs k s=true)(ht:jT xs k t=true):jT xs k (bb s t)=true:=by
 obtain⟨⟨x1,m1,k1,a1,b1⟩,y1,n1,l1,c1,d1⟩:=Vp.1 hs;obtain⟨⟨x2,m2,k2,a2,b2⟩,y2,n2,l2,c2,d2⟩:=Vp.1 ht;rw[Vp];simp only[bb,si];refine⟨?_,?_⟩
 ·by_cases h:s.A<=t.A
  .exact⟨x2,m2,k2,by rw[if_pos h];exact a2,by split<;>omega⟩
  .exact⟨x1,m1,k1,by rw[if_neg h];exact a1,by split<;>omega⟩
 ·by_cases h:s.B<=t.B
  .exact⟨y2,n2,l2,by rw[if_pos h];exact c2,by split<;>omega⟩
  .exact⟨y1,n1,l1,by rw[if_neg h];exact c1,by split<;>omega⟩
theorem MV{xs:List Row}{k:Int}{M:Time->Prop}(h1:∀x∈xs,x.Key=k->M x.At)(h2:∀s t,M s->M t->M (bb s t)){t:Time}(h:jT xs k t=true):M t:=by
 obtain⟨⟨x,m1,k1,a1,b1⟩,y,n1,l1,c1,d1⟩:=Vp.1 h;have:=h2 _ _ (h1 x m1 k1) (h1 y n1 l1)
 have e:bb x.At y.At=t:=by
  obtain⟨ta,tb⟩:=t;simp only[bb,si] at *;subst a1 c1
  congr 1<;>split<;>omega
 rw[e]at this;exact this
theorem sag{p q:Time->Bool}{i:Int}:∀ {n:Nat},(∀b:Nat,b<n->p ⟨i,b⟩=q ⟨i,b⟩)->rowP p i n=rowP q i n:=by
 intro n h;unfold rowP
 congr 1
 refine List.filter_congr λb hb=>h b (by simpa using hb)
theorem YJ{p q:Time->Bool}:∀ {n:Nat},(∀a b:Nat,a<n->b<8->p ⟨a,b⟩=q ⟨a,b⟩)->qc p n=qc q n
 |0,_=>rfl
 |n+1,h=>by
  simp only[qc];rw[YJ λa b ha hb=>h a b (by omega) hb,sag λb hb=>h n b (by omega) hb]
theorem NV(p:Time->Bool)(i:Int)(n:Nat):(rowP p i n).length<=n:=by
 unfold rowP;rw[List.length_map];exact Nat.le_trans (List.length_filter_le _ _) (by simp)
theorem AA(p:Time->Bool):∀n,(qc p n).length<=8*n
 |0=>by simp[qc]
 |n+1=>by
  have h1:=AA p n;have h2:=NV p n 8;simp only[qc,List.length_append];omega
theorem tag(p:Time->Bool)(i:Int)(n:Nat):rowP p i (n+1)=rowP p i n++(if p ⟨i,(n:Int)⟩=true then [(⟨i,(n:Int)⟩ : Time)] else []):=by
 unfold rowP;rw[List.range_succ,List.filter_append,List.map_append]
 congr 1
 by_cases h:p ⟨i,(n:Int)⟩=true<;>simp[h]
theorem uag{p:Time->Bool}{i:Int}{n:Nat}{t:Time}:t∈rowP p i n↔p t=true/\t.A=i/\0<=t.B/\t.B<n:=by
 unfold rowP;simp only[List.mem_map,List.mem_filter,List.mem_range];constructor
 ·rintro⟨b,⟨h1,h2⟩,rfl⟩;exact⟨h2,rfl,by simp,by simp;omega⟩
 ·rintro⟨h1,h2,h3,h4⟩;obtain⟨a,b⟩:=t;simp only at h2 h3 h4;subst h2;obtain⟨m,rfl⟩:=Int.eq_ofNat_of_zero_le h3;exact⟨m,⟨by omega,h1⟩,rfl⟩
theorem BA{p:Time->Bool}{t:Time}:∀ {n:Nat},t∈qc p n↔p t=true/\0<=t.A/\t.A<n/\0<=t.B/\t.B<8
 |0=>by simp[qc];omega
 |n+1=>by
  simp only[qc,List.mem_append,BA,uag];constructor
  ·rintro (⟨h1,h2,h3,h4,h5⟩|⟨h1,h2,h3,h4⟩)
   .exact⟨h1,h2,by omega,h4,h5⟩
   .exact⟨h1,by omega,by omega,h3,h4⟩
  ·rintro⟨h1,h2,h3,h4,h5⟩;by_cases h:t.A=n
   .exact .inr ⟨h1,h,h4,h5⟩
   .exact .inl ⟨h1,h2,by omega,h4,h5⟩
theorem vag{s t:Time}(hs:Ea s=true)(ht:Ea t=true):Ea (bb s t)=true:=by
 simp only[Ea,bb,si,decide_eq_true_eq] at *;refine⟨?_,?_,?_,?_⟩<;>split<;>omega
def cnt{α:Type}(p:α->Bool):List α->Nat
 |[]=>0
 |x::r=>(if p x=true then 0 else 1)+cnt p r
theorem cnt_le{α:Type}{p q:α->Bool}:∀ {l:List α},(∀x∈l,p x=true->q x=true)->cnt q l<=cnt p l
 |[],_=>Nat.le_refl _
 |x::r,h=>by
  have h1:=cnt_le (l:=r) λy hy=>h y (by simp[hy]);have h2:=h x (by simp);simp only[cnt];by_cases hp:p x=true
  .rw[if_pos hp,if_pos (h2 hp)];omega
  .rw[if_neg hp];split<;>omega
theorem cnt_lt{α:Type}{p q:α->Bool}{y:α}:∀ {l:List α},(∀x∈l,p x=true->q x=true)->y∈l->p y=false->q y=true->cnt q l<cnt p l
 |x::r,h,hy,hp,hq=>by
  have h1:=cnt_le (l:=r) λy hy=>h y (by simp[hy]);simp only[cnt];rcases List.mem_cons.1 hy with rfl|hy
  .rw[if_pos hq,if_neg (by rw[hp];simp)];omega
  ·have h3:=cnt_lt (l:=r) (λz hz=>h z (by simp[hz])) hy hp hq;have h2:=h x (by simp);by_cases hpx:p x=true
   .rw[if_pos hpx,if_pos (h2 hpx)];omega
   .rw[if_neg hpx];split<;>omega
def allT:List Time:=qc (λ_=>true) 8
theorem QV{t:Time}:t∈allT↔Ea t=true:=by
 unfold allT;rw[BA];simp only[Ea,decide_eq_true_eq,true_and];omega
end Tg
end Go.Proofs.YthfkpijcajdnhaaGreat
