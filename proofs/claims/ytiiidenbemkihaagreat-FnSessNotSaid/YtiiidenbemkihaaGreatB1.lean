/-
  What 'FlowTimes' computes: the times of a key's rows, and all their joins, in order. Printed by a program: what functions compute, and their contracts (part 1). Printed by a program: what functions compute, and their contracts (part 2). Sessions copied by hand: the copy's list of inputs may be written. Rules for loops over lists, and for the order that a fold sets up. No statement is proved here.
-/
import Derived.Test.YtiiidenbemkihaaGreatAR
import Derived.Test.YtiiidenbemkihaaGreatProg
import Derived.IntWalk

namespace Go.Proofs.YtiiidenbemkihaaGreat
open Go
def Db(x:Row):Bool:=decide (0<=x.Key/\x.Key<=3/\0<=x.Val/\x.Val<=99/\(0<=x.At.A/\x.At.A<=7/\0<=x.At.B/\x.At.B<=7)/\-99999<=x.Diff/\x.Diff<=99999)
def Jb(xs:List Row):Bool:=xs.all Db&&decide (xs.length<=400)
def Fa(t:Time):Bool:=decide (0<=t.A/\t.A<=7/\0<=t.B/\t.B<=7)
def jT(xs:List Row)(k:Int)(t:Time):Bool:=xs.any (λx=>decide (x.Key=k/\x.At.A=t.A/\x.At.B<=t.B))&&xs.any (λx=>decide (x.Key=k/\x.At.B=t.B/\x.At.A<=t.A))
def rowP(p:Time->Bool)(i:Int)(n:Nat):List Time:=((List.range n).filter λb:Nat=>p ⟨i,(b:Int)⟩).map λb:Nat=>(⟨i,(b:Int)⟩ : Time)
def Bc(p:Time->Bool):Nat->List Time
 |0=>[]
 |n+1=>Bc p n++rowP p n 8
def ib(xs:List Row)(k:Int):List Time:=if Jb xs=true then Bc (jT xs k) 8 else []
def XV(xs:List Row)(_:Int):Prop:=xs.length<=1000000
def eaf:Spec:=⟨[.lst .row,.int .i64],.one .fr (.lst .time),false,λx=>(ib x.1 x.2.1,0),λx=>XV x.1 x.2.1⟩
end Go.Proofs.YtiiidenbemkihaaGreat

namespace Go.Proofs.YtiiidenbemkihaaGreat
open Go
noncomputable section
set_option maxRecDepth 100000
def tt:TT:=[(2,⟨.scalar,1,[.int .i64 0],some .int,false⟩),
 (3,⟨.scalar,1,[.int .i64 0],some .int,false⟩),
 (4,⟨.scalar,1,[.bool false],some .bool,false⟩),
 (5,⟨.scalar,1,[.int .u8 0],some .byte,false⟩),
 (6,⟨.scalar,1,[.int .u8 0],some .byte,false⟩),
 (7,⟨(.struct [(0,1),(1,1),(2,1),(3,1)]),4,[.int .i64 0,.int .i64 0,.bool false,.int .u8 0],none,false⟩),
 (8,⟨(.struct [(0,1),(1,1),(2,1),(3,1)]),4,[.int .i64 0,.int .i64 0,.bool false,.int .u8 0],none,false⟩),
 (9,⟨.scalar,1,[.str ByteArray.empty],some .str,false⟩),
 (10,⟨.scalar,1,[.str ByteArray.empty],some .str,false⟩),
 (11,⟨.scalar,1,[.str ByteArray.empty],some .str,false⟩),
 (12,⟨.scalar,1,[.int .u64 0],none,false⟩),
 (13,⟨(.struct [(0,1),(1,1)]),2,[.str ByteArray.empty,.int .u64 0],none,false⟩),
 (14,⟨(.struct [(0,1),(1,1)]),2,[.str ByteArray.empty,.int .u64 0],none,false⟩),
 (21,⟨.scalar,1,[.int .i32 0],none,false⟩),
 (22,⟨(.slice 5),1,[.nl .byte],none,false⟩),
 (23,⟨(.slice 25),1,[.nl .plan],none,false⟩),
 (24,⟨(.struct [(0,1),(1,1),(2,1)]),3,[.int .i64 0,.int .i64 0,.nl .plan],some .plan,false⟩),
 (25,⟨(.struct [(0,1),(1,1),(2,1)]),3,[.int .i64 0,.int .i64 0,.nl .plan],some .plan,false⟩),
 (26,⟨(.slice 28),1,[.nl .lrow],none,false⟩),
 (27,⟨(.slice 32),1,[.nl .time],none,false⟩),
 (28,⟨(.slice 48),1,[.nl .row],some .lrow,false⟩),
 (29,⟨(.struct [(0,3),(3,1),(4,1),(5,1)]),6,[.int .i64 0,.int .i64 0,.nl .plan,.nl .lrow,.nl .time,.nl .row],some .sess,false⟩),
 (30,⟨(.struct [(0,3),(3,1),(4,1),(5,1)]),6,[.int .i64 0,.int .i64 0,.nl .plan,.nl .lrow,.nl .time,.nl .row],some .sess,false⟩),
 (31,⟨(.struct [(0,1),(1,1)]),2,[.int .i64 0,.int .i64 0],some .time,true⟩),
 (32,⟨(.struct [(0,1),(1,1)]),2,[.int .i64 0,.int .i64 0],some .time,true⟩),
 (35,⟨(.slice 77),1,[.nl .item],some .litem,false⟩),
 (47,⟨(.struct [(0,1),(1,1),(2,2),(4,1)]),5,[.int .i64 0,.int .i64 0,.int .i64 0,.int .i64 0,.int .i64 0],some .row,true⟩),
 (48,⟨(.struct [(0,1),(1,1),(2,2),(4,1)]),5,[.int .i64 0,.int .i64 0,.int .i64 0,.int .i64 0,.int .i64 0],some .row,true⟩),
 (67,⟨(.slice 35),1,[.nl .litem],none,false⟩),
 (76,⟨(.struct [(0,1),(1,1),(2,1)]),3,[.int .i64 0,.int .i64 0,.int .i64 0],some .item,true⟩),
 (77,⟨(.struct [(0,1),(1,1),(2,1)]),3,[.int .i64 0,.int .i64 0,.int .i64 0],some .item,true⟩),
 (88,⟨(.slice 3),1,[.nl .int],none,false⟩),
 (99,⟨(.struct [(0,1),(1,1)]),2,[.nl .byte,.int .i64 0],none,false⟩),
 (100,⟨(.struct [(0,1),(1,1)]),2,[.nl .byte,.int .i64 0],none,false⟩),
 (115,⟨.scalar,1,[.int .u64 0],none,false⟩),
 (123,⟨.scalar,1,[.int .u64 0],none,false⟩),
 (143,⟨.scalar,1,[.int .u32 0],none,false⟩),
 (145,⟨.scalar,1,[.int .u64 0],none,false⟩),
 (147,⟨.scalar,1,[.int .i64 0],some .int,false⟩),
 (157,⟨.scalar,1,[.int .u64 0],none,false⟩),
 (173,⟨.scalar,1,[.int .u8 0],some .byte,false⟩),
 (174,⟨.scalar,1,[.int .u8 0],some .byte,false⟩),
 (177,⟨.scalar,1,[.int .i32 0],none,false⟩),
 (178,⟨.scalar,1,[.int .i32 0],none,false⟩),
 (181,⟨(.struct [(0,1),(1,1)]),2,[.str ByteArray.empty,.int .u8 0],none,false⟩),
 (182,⟨(.struct [(0,1),(1,1)]),2,[.str ByteArray.empty,.int .u8 0],none,false⟩)]
abbrev Gd(s:SP):=Good Tryz.prog tt s
structure GdB(s:SP)(f:Nat)(v:Sess->Sess)(p:Sess->Prop):Prop where
 g:Gd s
 b:Aw Tryz.prog f v p
def yM:SP:=[]
abbrev F42:Fnn:=⟨[.tmp 2],.rdr,none,[]⟩
abbrev V0:(LB×Int)->RV:=rvF F42
abbrev X0:=@OkF Tryz.prog tt Tryz.f42 F42 ((LB×Int))
def Ow(x:LB):TA ((LB×Int)) LB:=.c (cmp .gtr (ba .byte x) 2000) (.w [le3 0 2000 (ba .byte x)] (.l (.n (List.drop (Int.toNat 0) (List.take (Int.toNat 2000) x)))))
 (.l (.n x))
def Y0:=λx=>(Ow x).val
def Z0:=λx=>(Ow x).ob
def Pw:=λx=>fa.mk (Y0 x) (Z0 x) [0,1] [(0,.S .byte x)] V0 (λq=>[(0,.S .byte q)]) nE nE nE
theorem Baj(G:Gd yM){fr x}:X0 fr (Pw x):=ma G [(1,[0,5]),(2,[0])] (Ow x)
def Qw(x:LB):TN ((LB×Int)):=.s (Pw x) (λy=>.l (.r (y,0))) nE nE nE
def zM:=λx=>(Qw x).val
def AM:=λx=>(Qw x).ob
def Caj:=λx=>fa.mk (zM x) (AM x) [] [(0,.S .byte x)] V0 nE nE nE nE
theorem Daj(G:Gd yM){fr x}:X0 fr (Caj x):=ia G [([0,1],λe=>⟨Pw (gL .byte e 0 0)⟩)] ⟨λ_=>⟨rfl,Baj G⟩,trivial⟩ [(0,[0]),(3,[2])] (Qw x)
def BM(x:LB):(LB×Int):=ocR (zM x)
def CM(x:LB):Prop:=AM x
def C1:Spec:=⟨[(.lst .byte)],.rdr,false,λx=>(BM x.1,0),λx=>CM x.1⟩
theorem Eaj(G:Gd yM):Con Tryz.prog 42 C1:=va (pts:=[(.lst .byte)]) (F:=F42) G λ_ _=>Daj G
def D1:SP:=[]
abbrev F44:Fnn:=⟨[.tmp 4],.one .fr (.int .i64),some 0,[]⟩
abbrev Faj:LB->Int×Int->RV:=rvR F44
abbrev Gaj:=@OkF Tryz.prog tt Tryz.f44 F44 (Int×Int)
def Sw(x:(LB×Int))(y:Int):TN (Int×Int):=.c (cond (cmp .lss y 1) true (cmp .eql (ba .byte x.1) 0)) (.l (.r (0,(ar .add .i64 x.2 1))))
 (.c (cmp .lss (ar .sub .i64 (ar .add .i64 x.2 1) 1) (ba .byte x.1)) (.w [inb (ar .sub .i64 (ar .add .i64 x.2 1) 1) (ba .byte x.1),(y:Int)≠0] (.l (.r ((ar .rem .i64 (IntKind.wrap .i64 (rd .byte x.1 (ar .sub .i64 (ar .add .i64 x.2 1) 1))) y),(ar .add .i64 x.2 1)))))
 (.w [((ba .byte x.1):Int)≠0,inb (ar .rem .i64 (ar .sub .i64 (ar .add .i64 x.2 1) 1) (ba .byte x.1)) (ba .byte x.1),((ba .byte x.1):Int)≠0,inb (ar .rem .i64 (ar .add .i64 (ar .mul .i64 (ar .sub .i64 (ar .add .i64 x.2 1) 1) 7) 3) (ba .byte x.1)) (ba .byte x.1),((ba .byte x.1):Int)≠0] (.w [(64:Int)≠0] (.w [(y:Int)≠0] (.l (.r ((ar .rem .i64 (xr .i64 (ar .add .i64 (ar .add .i64 (ar .add .i64 (ar .mul .i64 (IntKind.wrap .i64 (rd .byte x.1 (ar .rem .i64 (ar .sub .i64 (ar .add .i64 x.2 1) 1) (ba .byte x.1)))) 131) (ar .mul .i64 (IntKind.wrap .i64 (rd .byte x.1 (ar .rem .i64 (ar .add .i64 (ar .mul .i64 (ar .sub .i64 (ar .add .i64 x.2 1) 1) 7) 3) (ba .byte x.1)))) 1117)) (ar .mul .i64 (ar .sub .i64 (ar .add .i64 x.2 1) 1) 29)) (ar .mul .i64 (ar .quo .i64 (ar .sub .i64 (ar .add .i64 x.2 1) 1) (ba .byte x.1)) 53)) (ar .quo .i64 (ar .add .i64 (ar .add .i64 (ar .add .i64 (ar .mul .i64 (IntKind.wrap .i64 (rd .byte x.1 (ar .rem .i64 (ar .sub .i64 (ar .add .i64 x.2 1) 1) (ba .byte x.1)))) 131) (ar .mul .i64 (IntKind.wrap .i64 (rd .byte x.1 (ar .rem .i64 (ar .add .i64 (ar .mul .i64 (ar .sub .i64 (ar .add .i64 x.2 1) 1) 7) 3) (ba .byte x.1)))) 1117)) (ar .mul .i64 (ar .sub .i64 (ar .add .i64 x.2 1) 1) 29)) (ar .mul .i64 (ar .quo .i64 (ar .sub .i64 (ar .add .i64 x.2 1) 1) (ba .byte x.1)) 53)) 64)) y),(ar .add .i64 x.2 1))))))))
def DM:=λx y=>(Sw x y).val
def EM:=λx y=>(Sw x y).ob
def Haj:=λx y=>fa.mk (DM x y) (EM x y) [] [(0,.R x.1 x.2),(1,.I y)] (Faj x.1) nE nE nE nE
theorem Iaj(G:Gd D1){fr x y}:Gaj fr (Haj x y):=ma G [(0,[0,1]),(1,[0,1]),(2,[0,1,24]),(3,[0,4]),(4,[0,1,5]),(5,[0,1,5,36]),(6,[0,4]),(7,[0,1,6]),(8,[0,1,6]),(9,[0,4])] (Sw x y)
def la(x:(LB×Int))(y:Int):Int×Int:=ocR (DM x y)
def Ob(x:(LB×Int))(y:Int):Prop:=EM x y
def Pf:Spec:=⟨[.rdr,(.int .i64)],.one .fr (.int .i64),true,λx=>la x.1 x.2.1,λx=>Ob x.1 x.2.1⟩
theorem Jaj(G:Gd D1):Con Tryz.prog 44 Pf:=Ze (pts:=[.rdr,(.int .i64)]) (F:=F44) G (λx=>x.1.1) λ_ _=>Iaj G
abbrev V88:=(LB×Int)->Int->Plan×Int
abbrev Q88:=(LB×Int)->Int->Prop
def Tw(v:V88)(p:Q88):Spec:=⟨[.rdr,(.int .i64)],.one .fr (.st .plan),true,λx=>v x.1 x.2.1,λx=>p x.1 x.2.1⟩
def H1(r88V:V88)(r88P:Q88):SP:=[(44,Pf),(88,Tw r88V r88P)]
abbrev F88:Fnn:=⟨[.cell 4 25],.one .fr (.st .plan),some 0,[]⟩
abbrev Kaj:LB->Plan×Int->RV:=rvR F88
abbrev Laj:=@OkF Tryz.prog tt Tryz.f88 F88 (Plan×Int)
def yk(r88V:V88)(r88P:Q88)(x:(LB×Int))(y:Int):TN (Plan×Int):=.k (la (x.1,x.2) 6) λa=>.w [((!(cmp .lss y 2))&&true)=true->(Ob (x.1,x.2) 6)] (.c (cond (cmp .lss y 2) true (cmp .eql a.1 0)) (.k (la (x.1,(cond ((!(cmp .lss y 2))&&true) a.2 x.2)) 2) λl=>.w [(Ob (x.1,(cond ((!(cmp .lss y 2))&&true) a.2 x.2)) 2)] (.l (.r ((Plan.mk 1 l.1 []),l.2))))
 (.k (la (x.1,(cond ((!(cmp .lss y 2))&&true) a.2 x.2)) 6) λz=>.w [(Ob (x.1,(cond ((!(cmp .lss y 2))&&true) a.2 x.2)) 6)] (.c (cmp .eql z.1 0) (.k (la (x.1,z.2) 7) λj=>.k (r88V (x.1,j.2) (ar .sub .i64 y 1)) λd=>.w [Ob (x.1,z.2) 7,r88P (x.1,j.2) (ar .sub .i64 y 1)] (.l (.r ((Plan.mk 2 (ar .add .i64 1 j.1) [(Plan.mk d.1.Kind d.1.Num d.1.Kids)]),d.2))))
 (.c (cmp .eql z.1 1) (.k (r88V (x.1,z.2) (ar .sub .i64 y 1)) λb=>.k (r88V (x.1,b.2) (ar .sub .i64 y 1)) λf=>.w [r88P (x.1,z.2) (ar .sub .i64 y 1),r88P (x.1,b.2) (ar .sub .i64 y 1)] (.l (.r ((Plan.mk 3 0 [(Plan.mk b.1.Kind b.1.Num b.1.Kids),(Plan.mk f.1.Kind f.1.Num f.1.Kids)]),f.2))))
 (.c (cmp .eql z.1 2) (.k (r88V (x.1,z.2) (ar .sub .i64 y 1)) λg=>.w [r88P (x.1,z.2) (ar .sub .i64 y 1)] (.l (.r ((Plan.mk 4 0 [(Plan.mk g.1.Kind g.1.Num g.1.Kids)]),g.2))))
 (.c (cmp .eql z.1 3) (.k (r88V (x.1,z.2) (ar .sub .i64 y 1)) λc=>.k (r88V (x.1,c.2) (ar .sub .i64 y 1)) λh=>.w [r88P (x.1,z.2) (ar .sub .i64 y 1),r88P (x.1,c.2) (ar .sub .i64 y 1)] (.l (.r ((Plan.mk 5 0 [(Plan.mk c.1.Kind c.1.Num c.1.Kids),(Plan.mk h.1.Kind h.1.Num h.1.Kids)]),h.2))))
 (.k (la (x.1,z.2) 3) λk=>.k (r88V (x.1,k.2) (ar .sub .i64 y 1)) λi=>.w [Ob (x.1,z.2) 3,r88P (x.1,k.2) (ar .sub .i64 y 1)] (.l (.r ((Plan.mk 6 (ar .add .i64 1 k.1) [(Plan.mk i.1.Kind i.1.Num i.1.Kids)]),i.2))))))))))
def zk:=λr88V r88P x y=>(yk r88V r88P x y).val
def dp:=λr88V r88P x y=>(yk r88V r88P x y).ob
def Maj:=λr88V r88P x y=>fa.mk (zk r88V r88P x y) (dp r88V r88P x y) [] [(0,.R x.1 x.2),(1,.I y)] (Kaj x.1) nE nE nE nE
theorem Naj{r88V:V88}{r88P:Q88}(G:Gd (H1 r88V r88P)){fr x y}:Laj fr (Maj r88V r88P x y):=ma G [(0,[0,1,4]),(1,[0,1,4,11]),(2,[0,4]),(3,[0,1,4,16]),(4,[0,1,4,16,17]),(5,[0,4]),(6,[0,1,4,16,28]),(7,[0,4]),(8,[0,1,4,16,40]),(9,[0,4]),(10,[0,1,4,48]),(11,[0,4]),(12,[0,4])] (yk r88V r88P x y)
theorem Oaj{r88V:V88}{r88P:Q88}(G:Gd (H1 r88V r88P)):Con Tryz.prog 88 (Tw (λy z=>ocR (zk r88V r88P y z)) (λy z=>dp r88V r88P y z)):=Ze (pts:=[.rdr,(.int .i64)]) (F:=F88) G (λx=>x.1.1) λ_ _=>Naj G
def zc:Nat->V88×Q88
 |0=>(λ_ _=>default,λ_ _=>False)
 |n+1=>(λx y=>ocR (zk (zc n).1 (zc n).2 x y),λx y=>dp (zc n).1 (zc n).2 x y)
def Gh:V88:=(zc Pb).1
def FM:Q88:=(zc Pb).2
def I1:Spec:=Tw Gh FM
def Uw:SP:=[]
abbrev GM:Fnn:=⟨[.tmp 2,.tmp 3,.tmp 4],.tup [(true,(.int .i64)),(true,(.int .i64)),(true,(.int .i64))],none,[]⟩
abbrev HM:Int×Int×Int×Unit->RV:=rvF GM
abbrev IM:=@OkF Tryz.prog tt Tryz.f161 GM (Int×Int×Int×Unit)
def Vw(x:Int):TA (Int×Int×Int×Unit) Bool:=.c (cmp .eql x 3) (.l (.n (cmp .eql x 3)))
 (.l (.n (cmp .eql x 5)))
def J1:=λx=>(Vw x).val
def L1:=λx=>(Vw x).ob
def Ww:=λx=>fa.mk (J1 x) (L1 x) [0,1,1,1,1,0,1,0,1] [(5,.I x)] HM (λq=>[(5,.I x),(10,.O q)]) nE nE nE
theorem Paj(G:Gd Uw){fr x}:IM fr (Ww x):=ma G [(6,[5,10]),(7,[5,10])] (Vw x)
def Xw(x:Int):TA (Int×Int×Int×Unit) Unit:=.c (cmp .eql x 1) (.l (.r (0,(0,(1,())))))
 (.c (cmp .eql x 2) (.l (.r (1,(1,(7,())))))
 (.s (Ww x) (λy=>.c y (.l (.r (2,(0,(0,())))))
 (.c (cmp .eql x 4) (.l (.r (1,(0,(0,())))))
 (.c (cmp .eql x 6) (.l (.r (1,(1,(3,())))))
 (.l (.n ()))))) nE nE nE))
def R1:=λx=>(Xw x).val
def U1:=λx=>(Xw x).ob
def Yw:=λx=>fa.mk (R1 x) (U1 x) [0,1] [(0,.I x)] HM (λ_=>[]) nE nE nE
theorem Qaj(G:Gd Uw){fr x}:IM fr (Yw x):=ia G [([0,1,1,1,1,0,1,0,1],λe=>⟨Ww (gI e 5 0)⟩)] ⟨λ_=>⟨rfl,Paj G⟩,trivial⟩ [(1,[5]),(2,[5,6]),(3,[2,3,4]),(4,[5,8]),(5,[2,3,4]),(8,[2,3,4]),(9,[5,13]),(10,[2,3,4]),(11,[15]),(12,[2,3,4])] (Xw x)
def Zw(x:Int):TN (Int×Int×Int×Unit):=.s (Yw x) (λ_=>.l (.r ((-1),(0,(0,()))))) nE nE nE
def JM:=λx=>(Zw x).val
def MM:=λx=>(Zw x).ob
def Raj:=λx=>fa.mk (JM x) (MM x) [] [(0,.I x)] HM nE nE nE nE
theorem Saj(G:Gd Uw){fr x}:IM fr (Raj x):=ia G [([0,1],λe=>⟨Yw (gI e 0 0)⟩)] ⟨λ_=>⟨rfl,Qaj G⟩,trivial⟩ [(0,[0]),(13,[2,3,4])] (Zw x)
def Xi(x:Int):Int×Int×Int×Unit:=ocR (JM x)
def ax(x:Int):Prop:=MM x
def NM:Spec:=⟨[(.int .i64)],.tup [(true,(.int .i64)),(true,(.int .i64)),(true,(.int .i64))],false,λx=>(Xi x.1,0),λx=>ax x.1⟩
theorem Taj(G:Gd Uw):Con Tryz.prog 161 NM:=va (pts:=[(.int .i64)]) (F:=GM) G λ_ _=>Saj G
def V1:SP:=[]
abbrev F77:Fnn:=⟨[.tmp 6],.one .fr .bool,none,[]⟩
abbrev Uaj:Bool->RV:=rvF F77
abbrev Vaj:=@OkF Tryz.prog tt Tryz.f77 F77 Bool
def OM(x y z:Int):TN Bool:=.l (.r (cond (cmp .geq x y) (cmp .leq x z) false))
def X1:=λx y z=>(OM x y z).val
def Y1:=λx y z=>(OM x y z).ob
def Waj:=λx y z=>fa.mk (X1 x y z) (Y1 x y z) [] [(0,.I x),(1,.I y),(2,.I z)] Uaj nE nE nE nE
theorem Xaj(G:Gd V1){fr x y z}:Vaj fr (Waj x y z):=ma G [(0,[0,1,2]),(1,[6])] (OM x y z)
def Hd(x:Int)(y:Int)(z:Int):Bool:=ocR (X1 x y z)
def ug(x:Int)(y:Int)(z:Int):Prop:=Y1 x y z
def Ak:Spec:=⟨[(.int .i64),(.int .i64),(.int .i64)],.one .fr .bool,false,λx=>(Hd x.1 x.2.1 x.2.2.1,0),λx=>ug x.1 x.2.1 x.2.2.1⟩
theorem Yaj(G:Gd V1):Con Tryz.prog 77 Ak:=va (pts:=[(.int .i64),(.int .i64),(.int .i64)]) (F:=F77) G λ_ _=>Xaj G
abbrev ff:=Plan->Int->Bool
abbrev jf:=Plan->Int->Prop
def cx(v:ff)(p:jf):Spec:=⟨[(.st .plan),(.int .i64)],.one .fr .bool,false,λx=>(v x.1 x.2.1,0),λx=>p x.1 x.2.1⟩
def ep(r129V:ff)(r129P:jf):SP:=[(161,NM),(77,Ak),(129,cx r129V r129P)]
abbrev PM:Fnn:=⟨[.tmp 4],.one .fr .bool,none,[]⟩
abbrev QM:Bool->RV:=rvF PM
abbrev dx:=@OkF Tryz.prog tt Tryz.f129 PM Bool
def fp(r129V:ff)(r129P:jf)(z _ _:Int)(y:LP)(x:Int):TX Bool Int Unit:=.c (cmp .lss x (ba .plan y)) (.w [inb x (ba .plan y),r129P (Plan.mk (rd .plan y x).Kind (rd .plan y x).Num (rd .plan y x).Kids) (ar .sub .i64 z 1)] (.c (!(r129V (Plan.mk (rd .plan y x).Kind (rd .plan y x).Num (rd .plan y x).Kids) (ar .sub .i64 z 1))) (.l (.r false))
 (.l (.n (ar .add .i64 x 1)))))
 (.l (.x ()))
def Bk:=λr129V r129P x y z a b=>(fp r129V r129P x y z a b).val
def gp:=λr129V r129P x y z a b=>(fp r129V r129P x y z a b).ob
def RM:=λr129V r129P x y z a b=>Ba (Bk r129V r129P x y z a b) (gp r129V r129P x y z a b) [0,0,1,0,1,1,1] (λq=>[(1,.I x),(2,.box [(.fr,.i y),(.fr,.i z),(.sh,.lst .plan a)]),(8,.I q)]) b QM (λ_=>(0,[])) nE nE
theorem Zaj{r129V:ff}{r129P:jf}(G:Gd (ep r129V r129P)){fr x y z a b}:dx fr (RM r129V r129P x y z a b):=ma G [(5,[1,2,8,37]),(6,[1,2,8]),(7,[1,2,8,48]),(8,[4])] (fp r129V r129P x y z a b)
def Z1:=λr129V r129P x y z a=>lpV (λs:Int=>da (Bk r129V r129P x y z a s)) 0
def C2:=λr129V r129P x y z a=>LpT (λs:Int=>da (Bk r129V r129P x y z a s)) (λs=>gp r129V r129P x y z a s) 0
def fx:=λr129V r129P x y z a=>lpS (RM r129V r129P x y z a 0) (Z1 r129V r129P x y z a) (C2 r129V r129P x y z a)
theorem aak{r129V:ff}{r129P:jf}(G:Gd (ep r129V r129P)){fr x y z a}:dx fr (fx r129V r129P x y z a):=Ca (λs:Int=>RM r129V r129P x y z a s) 0 λ_=>Zaj G
def jx(r129V:ff)(r129P:jf)(x y z:Int)(a:LP):TA Bool Unit:=.s (fx r129V r129P x y z a) nE (λ_=>.l (.n ())) nE nE
def D2:=λr129V r129P x y z a=>(jx r129V r129P x y z a).val
def H2:=λr129V r129P x y z a=>(jx r129V r129P x y z a).ob
def nx:=λr129V r129P x y z a=>fa.mk (D2 r129V r129P x y z a) (H2 r129V r129P x y z a) [0,1,1,1] [(1,.I x),(2,.box [(.fr,.i y),(.fr,.i z),(.sh,.lst .plan a)])] QM (λ_=>[]) nE nE nE
theorem bak{r129V:ff}{r129P:jf}(G:Gd (ep r129V r129P)){fr x y z a}:dx fr (nx r129V r129P x y z a):=ia G [([0,1,0,1,1,1],λe=>⟨fx r129V r129P (gI e 1 0) (gI e 2 0) (gI e 2 1) (gL .plan e 2 2)⟩)] ⟨λ_=>⟨rfl,aak G⟩,trivial⟩ [(4,[1,2,8])] (jx r129V r129P x y z a)
def Ck(r129V:ff)(r129P:jf)(x:Plan)(z:Int):TN Bool:=.k (Xi x.Kind) λy=>.w [ax x.Kind] (.w [((!(cond (cmp .lss z 1) true (cmp .neq (ba .plan x.Kids) y.1)))&&true)=true->(ug x.Num y.2.1 y.2.2.1)] (.c (cond (cond (cmp .lss z 1) true (cmp .neq (ba .plan x.Kids) y.1)) true (!(Hd x.Num y.2.1 y.2.2.1))) (.l (.r false))
 (.s (nx r129V r129P z x.Kind x.Num x.Kids) (λ_=>.l (.r true)) nE nE nE)))
def Dk:=λr129V r129P x y=>(Ck r129V r129P x y).val
def Fk:=λr129V r129P x y=>(Ck r129V r129P x y).ob
def cak:=λr129V r129P x y=>fa.mk (Dk r129V r129P x y) (Fk r129V r129P x y) [] [(0,.agg false [.i x.Kind,.i x.Num,.lst .plan x.Kids]),(1,.I y)] QM nE nE nE nE
theorem dak{r129V:ff}{r129P:jf}(G:Gd (ep r129V r129P)){fr x y}:dx fr (cak r129V r129P x y):=ia G [([0,1,1,1],λe=>⟨nx r129V r129P (gI e 1 0) (gI e 2 0) (gI e 2 1) (gL .plan e 2 2)⟩)] ⟨λ_=>⟨rfl,bak G⟩,trivial⟩ [(0,[1,2]),(1,[1,2,5,6,7]),(2,[1,2,32]),(3,[4]),(9,[4])] (Ck r129V r129P x y)
theorem eak{r129V:ff}{r129P:jf}(G:Gd (ep r129V r129P)):Con Tryz.prog 129 (cx (λx y=>ocR (Dk r129V r129P x y)) (λx y=>Fk r129V r129P x y)):=va (pts:=[(.st .plan),(.int .i64)]) (F:=PM) G λ_ _=>dak G
def Qc:Nat->ff×jf
 |0=>(λ_ _=>default,λ_ _=>False)
 |n+1=>(λx y=>ocR (Dk (Qc n).1 (Qc n).2 x y),λx y=>Fk (Qc n).1 (Qc n).2 x y)
def I2:ff:=(Qc Pb).1
def J2:jf:=(Qc Pb).2
def L2:Spec:=cx I2 J2
def R2:SP:=[(129,L2)]
abbrev F99:Fnn:=⟨[.tmp 2],.one .fr .bool,none,[]⟩
abbrev fak:Bool->RV:=rvF F99
abbrev gak:=@OkF Tryz.prog tt Tryz.f99 F99 Bool
def qx(x:Plan):TN Bool:=.w [J2 (Plan.mk x.Kind x.Num x.Kids) 4] (.l (.r (I2 (Plan.mk x.Kind x.Num x.Kids) 4)))
def SM:=λx=>(qx x).val
def UM:=λx=>(qx x).ob
def hak:=λx=>fa.mk (SM x) (UM x) [] [(0,.agg false [.i x.Kind,.i x.Num,.lst .plan x.Kids])] fak nE nE nE nE
theorem iak(G:Gd R2){fr x}:gak fr (hak x):=ma G [(0,[1]),(1,[2])] (qx x)
def ip(x:Plan):Bool:=ocR (SM x)
def jp(x:Plan):Prop:=UM x
def rx:Spec:=⟨[(.st .plan)],.one .fr .bool,false,λx=>(ip x.1,0),λx=>jp x.1⟩
theorem jak(G:Gd R2):Con Tryz.prog 99 rx:=va (pts:=[(.st .plan)]) (F:=F99) G λ_ _=>iak G
abbrev V98:=Plan->Plan
abbrev Q98:=Plan->Prop
def tx(v:V98)(p:Q98):Spec:=⟨[(.st .plan)],.one .fr (.st .plan),false,λx=>(v x.1,0),λx=>p x.1⟩
def np(r98V:V98)(r98P:Q98):SP:=[(98,tx r98V r98P)]
abbrev F98:Fnn:=⟨[.cell 2 25],.one .fr (.st .plan),none,[]⟩
abbrev VM:Plan->RV:=rvF F98
abbrev ux:=@OkF Tryz.prog tt Tryz.f98 F98 Plan
def qp(r98V:V98)(r98P:Q98)(_ _:Int)(y a:LP)(x:Int):TX Plan (LP×Int) LP:=.c (cmp .lss x (ba .plan y)) (.k (r98V (Plan.mk (rd .plan y x).Kind (rd .plan y x).Num (rd .plan y x).Kids)) λz=>.w [inb x (ba .plan y),r98P (Plan.mk (rd .plan y x).Kind (rd .plan y x).Num (rd .plan y x).Kids),lim (ba .plan a) (ba .plan [(Plan.mk z.Kind z.Num z.Kids)])] (.l (.n ((a++[(Plan.mk z.Kind z.Num z.Kids)]),(ar .add .i64 x 1)))))
 (.l (.x a))
def Gk:=λr98V r98P x y z a b=>(qp r98V r98P x y z a b).val
def rp:=λr98V r98P x y z a b=>(qp r98V r98P x y z a b).ob
def WM:=λr98V r98P x y z a b=>Ba (Gk r98V r98P x y z a b) (rp r98V r98P x y z a b) [0,0,1,0,1,1] (λq=>[(1,.box [(.fr,.i x),(.fr,.i y),(.sh,.lst .plan z)]),(2,.box [(.fr,.i 0),(.fr,.i 0),(.fr,.nl .plan)]),(3,.box [(.fr,.i x),(.fr,.i y),((.acc true),.lst .plan q.1)]),(4,.I q.2)]) (a,b) VM (λq=>(0,[(2,.box [(.fr,.i 0),(.fr,.i 0),(.fr,.nl .plan)]),(3,.box [(.fr,.i x),(.fr,.i y),((.acc true),.lst .plan q)])])) nE nE
theorem kak{r98V:V98}{r98P:Q98}(G:Gd (np r98V r98P)){fr x y z a b}:ux fr (WM r98V r98P x y z a b):=ma G [(3,[1,2,3,4,14]),(4,[1,2,3,4]),(5,[1,2,3,4])] (qp r98V r98P x y z a b)
def U2:=λr98V r98P x y z=>lpV (λs:LP×Int=>da (Gk r98V r98P x y z s.1 s.2)) ([],0)
def V2:=λr98V r98P x y z=>LpT (λs:LP×Int=>da (Gk r98V r98P x y z s.1 s.2)) (λs=>rp r98V r98P x y z s.1 s.2) ([],0)
def vx:=λr98V r98P x y z=>lpS (WM r98V r98P x y z [] 0) (U2 r98V r98P x y z) (V2 r98V r98P x y z)
theorem lak{r98V:V98}{r98P:Q98}(G:Gd (np r98V r98P)){fr x y z}:ux fr (vx r98V r98P x y z):=Ca (λs:LP×Int=>WM r98V r98P x y z s.1 s.2) ([],0) λ_=>kak G
def yx(r98V:V98)(r98P:Q98)(x y:Int)(z:LP):TA Plan LP:=.s (vx r98V r98P x y z) nE (λa=>.l (.n a)) nE nE
def X2:=λr98V r98P x y z=>(yx r98V r98P x y z).val
def Y2:=λr98V r98P x y z=>(yx r98V r98P x y z).ob
def zx:=λr98V r98P x y z=>fa.mk (X2 r98V r98P x y z) (Y2 r98V r98P x y z) [0,1,1] [(1,.box [(.fr,.i x),(.fr,.i y),(.sh,.lst .plan z)]),(2,.box [(.fr,.i 0),(.fr,.i 0),(.fr,.nl .plan)]),(3,.box [(.fr,.i x),(.fr,.i y),(.fr,.nl .plan)])] VM (λq=>[(2,.box [(.fr,.i 0),(.fr,.i 0),(.fr,.nl .plan)]),(3,.box [(.fr,.i x),(.fr,.i y),((.acc true),.lst .plan q)])]) nE nE nE
theorem mak{r98V:V98}{r98P:Q98}(G:Gd (np r98V r98P)){fr x y z}:ux fr (zx r98V r98P x y z):=ia G [([0,1,0,1,1],λe=>⟨vx r98V r98P (gI e 1 0) (gI e 1 1) (gL .plan e 1 2)⟩)] ⟨λ_=>⟨rfl,lak G⟩,trivial⟩ [(2,[1,2,3,4])] (yx r98V r98P x y z)
def Ax(r98V:V98)(r98P:Q98)(x:Plan):TN Plan:=.s (zx r98V r98P x.Kind x.Num x.Kids) (λy=>.l (.r (Plan.mk x.Kind x.Num y))) nE nE nE
def Bx:=λr98V r98P x=>(Ax r98V r98P x).val
def Cx:=λr98V r98P x=>(Ax r98V r98P x).ob
def nak:=λr98V r98P x=>fa.mk (Bx r98V r98P x) (Cx r98V r98P x) [] [(0,.agg false [.i x.Kind,.i x.Num,.lst .plan x.Kids])] VM nE nE nE nE
theorem oak{r98V:V98}{r98P:Q98}(G:Gd (np r98V r98P)){fr x}:ux fr (nak r98V r98P x):=ia G [([0,1,1],λe=>⟨zx r98V r98P (gI e 1 0) (gI e 1 1) (gL .plan e 1 2)⟩)] ⟨λ_=>⟨rfl,mak G⟩,trivial⟩ [(0,[1,2]),(1,[1,2,3]),(6,[2])] (Ax r98V r98P x)
theorem pak{r98V:V98}{r98P:Q98}(G:Gd (np r98V r98P)):Con Tryz.prog 98 (tx (λx=>ocR (Bx r98V r98P x)) (λx=>Cx r98V r98P x)):=va (pts:=[(.st .plan)]) (F:=F98) G λ_ _=>oak G
def ed:Nat->V98×Q98
 |0=>(λ_=>default,λ_=>False)
 |n+1=>(λx=>ocR (Bx (ed n).1 (ed n).2 x),λx=>Cx (ed n).1 (ed n).2 x)
def pe:V98:=(ed Pb).1
def Dx:Q98:=(ed Pb).2
def XM:Spec:=tx pe Dx
def Z2:SP:=[(99,rx),(98,XM)]
abbrev F87:Fnn:=⟨[.cell 2 30,.tmp 3],.tup [(false,(.st .sess)),(true,.bool)],none,[]⟩
abbrev qak:Sess×Bool×Unit->RV:=rvF F87
abbrev rak:=@OkF Tryz.prog tt Tryz.f87 F87 (Sess×Bool×Unit)
def Ex(x:Plan):TN (Sess×Bool×Unit):=.w [jp (Plan.mk x.Kind x.Num x.Kids)] (.c (!(ip (Plan.mk x.Kind x.Num x.Kids))) (.l (.r ((Sess.mk (Plan.mk 0 0 []) [] [] []),(false,()))))
 (.k (pe (Plan.mk x.Kind x.Num x.Kids)) λy=>.w [Dx (Plan.mk x.Kind x.Num x.Kids)] (.l (.r ((Sess.mk (Plan.mk y.Kind y.Num y.Kids) [[],[]] [(Time.mk 0 0)] []),(true,()))))))
def YM:=λx=>(Ex x).val
def ZM:=λx=>(Ex x).ob
def sak:=λx=>fa.mk (YM x) (ZM x) [] [(0,.agg false [.i x.Kind,.i x.Num,.lst .plan x.Kids])] qak nE nE nE nE
theorem tak(G:Gd Z2){fr x}:rak fr (sak x):=ma G [(0,[1,2]),(1,[1,2,6]),(2,[2,3]),(3,[2,3])] (Ex x)
def Gx(x:Plan):Sess×Bool×Unit:=ocR (YM x)
def Hx(x:Plan):Prop:=ZM x
def aN:Spec:=⟨[(.st .plan)],.tup [(false,(.st .sess)),(true,.bool)],false,λx=>(Gx x.1,0),λx=>Hx x.1⟩
theorem uak(G:Gd Z2):Con Tryz.prog 87 aN:=va (pts:=[(.st .plan)]) (F:=F87) G λ_ _=>tak G
def C3:SP:=[(44,Pf)]
abbrev F45:Fnn:=⟨[.cell 2 32],.one .fr (.st .time),some 0,[]⟩
abbrev vak:LB->Time×Int->RV:=rvR F45
abbrev wak:=@OkF Tryz.prog tt Tryz.f45 F45 (Time×Int)
def Ix(x:(LB×Int)):TN (Time×Int):=.k (la (x.1,x.2) 10) λy=>.w [Ob (x.1,x.2) 10] (.c (cmp .eql y.1 0) (.k (la (x.1,y.2) 8) λz=>.k (la (x.1,z.2) 8) λb=>.w [Ob (x.1,y.2) 8,Ob (x.1,z.2) 8] (.l (.r ((Time.mk z.1 b.1),b.2))))
 (.k (la (x.1,y.2) 4) λa=>.k (la (x.1,a.2) 4) λc=>.w [Ob (x.1,y.2) 4,Ob (x.1,a.2) 4] (.l (.r ((Time.mk a.1 c.1),c.2)))))
def bN:=λx=>(Ix x).val
def cN:=λx=>(Ix x).ob
def xak:=λx=>fa.mk (bN x) (cN x) [] [(0,.R x.1 x.2)] (vak x.1) nE nE nE nE
theorem yak(G:Gd C3){fr x}:wak fr (xak x):=ma G [(0,[0,2]),(1,[0,2,5]),(2,[0,2]),(3,[0,2])] (Ix x)
def Hh(x:(LB×Int)):Time×Int:=ocR (bN x)
def Hk(x:(LB×Int)):Prop:=cN x
def tp:Spec:=⟨[.rdr],.one .fr (.st .time),true,λx=>Hh x.1,λx=>Hk x.1⟩
theorem zak(G:Gd C3):Con Tryz.prog 45 tp:=Ze (pts:=[.rdr]) (F:=F45) G (λx=>x.1.1) λ_ _=>yak G
def vp:SP:=[(44,Pf),(45,tp)]
abbrev dN:Fnn:=⟨[.tmp 4],.one (.acc true) (.lst .time),some 0,[]⟩
abbrev eN:LB->(List Time)×Int->RV:=rvR dN
abbrev Jx:=@OkF Tryz.prog tt Tryz.f128 dN ((List Time)×Int)
def xp(a:LB)(_ _ x:Int)(y:List Time)(b:Int):TX ((List Time)×Int) (Int×(List Time)×Int) (Int×(List Time)):=.c (cmp .gtr b 0) (.k (Hh (a,x)) λz=>.w [Hk (a,x),lim (ba .time y) (ba .time [z.1])] (.l (.n (z.2,(y++[z.1]),(ar .sub .i64 b 1)))))
 (.l (.x (x,y)))
def Ik:=λx y z a b c=>(xp x y z a b c).val
def yp:=λx y z a b c=>(xp x y z a b c).ob
def fN:=λx b c y z a=>Ba (Ik x b c y z a) (yp x b c y z a) [0,0,1,0,1,1] (λq=>[(0,.R x q.1),(5,.A .time q.2.1),(6,.I q.2.2)]) (y,z,a) (eN x) (λq=>(0,[(0,.R x q.1),(5,.A .time q.2)])) nE nE
theorem Aak(G:Gd vp){fr x y z a b c}:Jx fr (fN x y z a b c):=ma G [(3,[0,5,6,13]),(4,[0,5,6]),(5,[0,5,6])] (xp x y z a b c)
def D3:=λz x y=>lpV (λs:Int×(List Time)×Int=>da (Ik z x y s.1 s.2.1 s.2.2)) (x,[],y)
def E3:=λz x y=>LpT (λs:Int×(List Time)×Int=>da (Ik z x y s.1 s.2.1 s.2.2)) (λs=>yp z x y s.1 s.2.1 s.2.2) (x,[],y)
def Kx:=λz x y=>lpS (fN z x y x [] y) (D3 z x y) (E3 z x y)
theorem Bak(G:Gd vp){fr z x y}:Jx fr (Kx z x y):=Ca (λs:Int×(List Time)×Int=>fN z x y s.1 s.2.1 s.2.2) (x,[],y) λ_=>Aak G
def Lx(x:LB)(y z:Int):TA ((List Time)×Int) (Int×(List Time)):=.k (la (x,y) (ar .add .i64 z 1)) λa=>.w [Ob (x,y) (ar .add .i64 z 1)] (.s (Kx x a.2 a.1) nE (λb=>.l (.n (b.1,b.2))) nE nE)
def H3:=λx y z=>(Lx x y z).val
def I3:=λx y z=>(Lx x y z).ob
def Mx:=λx y z=>fa.mk (H3 x y z) (I3 x y z) [0,1,1] [(0,.R x y),(1,.I z),(5,.A .time [])] (eN x) (λq=>[(0,.R x q.1),(5,.A .time q.2)]) nE nE nE
theorem Cak(G:Gd vp){fr x y z}:Jx fr (Mx x y z):=ia G [([0,1,0,1,1],λe=>⟨Kx (gL .byte e 0 0) (gI e 0 1) (gI e 6 0)⟩)] ⟨λ_=>⟨rfl,Bak G⟩,trivial⟩ [(2,[0,5,6])] (Lx x y z)
def Nx(x:(LB×Int))(z:Int):TN ((List Time)×Int):=.s (Mx x.1 x.2 z) (λy=>.l (.r (y.2,y.1))) nE nE nE
def gN:=λx y=>(Nx x y).val
def iN:=λx y=>(Nx x y).ob
def Dak:=λx y=>fa.mk (gN x y) (iN x y) [] [(0,.R x.1 x.2),(1,.I y)] (eN x.1) nE nE nE nE
theorem Eak(G:Gd vp){fr x y}:Jx fr (Dak x y):=ia G [([0,1,1],λe=>⟨Mx (gL .byte e 0 0) (gI e 0 1) (gI e 1 0)⟩)] ⟨λ_=>⟨rfl,Cak G⟩,trivial⟩ [(0,[0,1]),(1,[0,1,5]),(6,[0,4])] (Nx x y)
def Yi(x:(LB×Int))(y:Int):(List Time)×Int:=ocR (gN x y)
def Ox(x:(LB×Int))(y:Int):Prop:=iN x y
def jN:Spec:=⟨[.rdr,(.int .i64)],.one (.acc true) (.lst .time),true,λx=>Yi x.1 x.2.1,λx=>Ox x.1 x.2.1⟩
theorem Fak(G:Gd vp):Con Tryz.prog 128 jN:=Ze (pts:=[.rdr,(.int .i64)]) (F:=dN) G (λx=>x.1.1) λ_ _=>Eak G
def J3:SP:=[(77,Ak)]
abbrev F49:Fnn:=⟨[.tmp 2],.one .fr .bool,none,[]⟩
abbrev Gak:Bool->RV:=rvF F49
abbrev Hak:=@OkF Tryz.prog tt Tryz.f49 F49 Bool
def kN(x:Time):TN Bool:=.k (Hd x.A 0 7) λy=>.w [ug x.A 0 7,(y&&true)=true->(ug x.B 0 7)] (.l (.r (cond y (Hd x.B 0 7) false)))
def L3:=λx=>(kN x).val
def P3:=λx=>(kN x).ob
def Iak:=λx=>fa.mk (L3 x) (P3 x) [] [(0,.agg true [.i x.A,.i x.B])] Gak nE nE nE nE
theorem Jak(G:Gd J3){fr x}:Hak fr (Iak x):=ma G [(0,[1]),(1,[2])] (kN x)
def qe(x:Time):Bool:=ocR (L3 x)
def vg(x:Time):Prop:=P3 x
def Ih:Spec:=⟨[(.st .time)],.one .fr .bool,false,λx=>(qe x.1,0),λx=>vg x.1⟩
theorem Kak(G:Gd J3):Con Tryz.prog 49 Ih:=va (pts:=[(.st .time)]) (F:=F49) G λ_ _=>Jak G
def zp:SP:=[(49,Ih)]
abbrev lN:Fnn:=⟨[.tmp 2],.one .fr .bool,none,[]⟩
abbrev mN:Bool->RV:=rvF lN
abbrev Px:=@OkF Tryz.prog tt Tryz.f125 lN Bool
def Ap(y:List Time)(x:Int):TX Bool Int Unit:=.c (cmp .lss x (ba .time y)) (.w [inb x (ba .time y),vg (rd .time y x)] (.c (!(qe (rd .time y x))) (.l (.r false))
 (.l (.n (ar .add .i64 x 1)))))
 (.l (.x ()))
def Jk:=λx y=>(Ap x y).val
def Bp:=λx y=>(Ap x y).ob
def nN:=λx y=>Ba (Jk x y) (Bp x y) [0,0,1,0,1] (λq=>[(0,.S .time x),(3,.I q)]) y mN (λ_=>(0,[])) nE nE
theorem Lak(G:Gd zp){fr x y}:Px fr (nN x y):=ma G [(2,[0,3,7]),(3,[0,3]),(4,[0,3,15]),(5,[2])] (Ap x y)
def Mak:=λx=>lpV (λs:Int=>da (Jk x s)) 0
def R3:=λx=>LpT (λs:Int=>da (Jk x s)) (λs=>Bp x s) 0
def Qx:=λx=>lpS (nN x 0) (Mak x) (R3 x)
theorem Nak(G:Gd zp){fr x}:Px fr (Qx x):=Ca (λs:Int=>nN x s) 0 λ_=>Lak G
def Rx(x:List Time):TA Bool Unit:=.s (Qx x) nE (λ_=>.l (.n ())) nE nE
def Oak:=λx=>(Rx x).val
def U3:=λx=>(Rx x).ob
def Sx:=λx=>fa.mk (Oak x) (U3 x) [0,1] [(0,.S .time x)] mN (λ_=>[]) nE nE nE
theorem Pak(G:Gd zp){fr x}:Px fr (Sx x):=ia G [([0,1,0,1],λe=>⟨Qx (gL .time e 0 0)⟩)] ⟨λ_=>⟨rfl,Nak G⟩,trivial⟩ [(1,[0,3])] (Rx x)
def Tx(x:List Time):TN Bool:=.s (Sx x) (λ_=>.l (.r true)) nE nE nE
def V3:=λx=>(Tx x).val
def oN:=λx=>(Tx x).ob
def Qak:=λx=>fa.mk (V3 x) (oN x) [] [(0,.S .time x)] mN nE nE nE nE
theorem Rak(G:Gd zp){fr x}:Px fr (Qak x):=ia G [([0,1],λe=>⟨Sx (gL .time e 0 0)⟩)] ⟨λ_=>⟨rfl,Pak G⟩,trivial⟩ [(0,[0]),(6,[2])] (Tx x)
def pN(x:List Time):Bool:=ocR (V3 x)
def Ux(x:List Time):Prop:=oN x
def qN:Spec:=⟨[(.lst .time)],.one .fr .bool,false,λx=>(pN x.1,0),λx=>Ux x.1⟩
theorem Sak(G:Gd zp):Con Tryz.prog 125 qN:=va (pts:=[(.lst .time)]) (F:=lN) G λ_ _=>Rak G
def X3:SP:=[(49,Ih)]
abbrev F90:Fnn:=⟨[.tmp 4],.one .fr .bool,none,[]⟩
abbrev Tak:Bool->RV:=rvF F90
abbrev Uak:=@OkF Tryz.prog tt Tryz.f90 F90 Bool
def rN(x y:Time):TN Bool:=.w [vg x,((qe x)&&true)=true->(vg y)] (.l (.r (cond (cond (cond (qe x) (qe y) false) (cmp .leq x.A y.A) false) (cmp .leq x.B y.B) false)))
def Y3:=λx y=>(rN x y).val
def Z3:=λx y=>(rN x y).ob
def Vak:=λx y=>fa.mk (Y3 x y) (Z3 x y) [] [(0,.agg true [.i x.A,.i x.B]),(1,.agg true [.i y.A,.i y.B])] Tak nE nE nE nE
theorem Wak(G:Gd X3){fr x y}:Uak fr (Vak x y):=ma G [(0,[2,3]),(1,[4])] (rN x y)
def Zi(x:Time)(y:Time):Bool:=ocR (Y3 x y)
def Kk(x:Time)(y:Time):Prop:=Z3 x y
def Lk:Spec:=⟨[(.st .time),(.st .time)],.one .fr .bool,false,λx=>(Zi x.1 x.2.1,0),λx=>Kk x.1 x.2.1⟩
theorem Xak(G:Gd X3):Con Tryz.prog 90 Lk:=va (pts:=[(.st .time),(.st .time)]) (F:=F90) G λ_ _=>Wak G
def Id:SP:=[(125,qN),(90,Lk)]
abbrev F92:Fnn:=⟨[.tmp 2],.one (.acc true) (.lst .time),none,[]⟩
abbrev kf:List Time->RV:=rvF F92
abbrev Xd:=@OkF Tryz.prog tt Tryz.f92 F92 (List Time)
def Vx(x _:List Time)(z a:Int)(b:Bool)(y:Int):TA (List Time) Bool:=.w [inb y (ba .time x)] (.c (cmp .eql (rd .time x y).A z&&(cmp .eql (rd .time x y).B a&&true)) (.l (.n true))
 (.l (.n b)))
def sN:=λx y z a b c=>(Vx x y z a b c).val
def tN:=λx y z a b c=>(Vx x y z a b c).ob
def Wx:=λz a x y c b=>fa.mk (sN z a x y c b) (tN z a x y c b) [0,1,0,0,1,0,1,1,0,0,1,0,0,1,0,0,1,0,0,1,0,1,1,1] [(0,.S .time z),(3,.A .time a),(4,.I x),(5,.I y),(6,.B [x,y]),(7,.O c),(8,.I b)] kf (λq=>[(0,.S .time z),(3,.A .time a),(4,.I x),(5,.I y),(6,.B [x,y]),(7,.O q),(8,.I b)]) nE nE nE
theorem Yak(G:Gd Id){fr x y z a b c}:Xd fr (Wx x y z a b c):=ma G [(15,[0,3,4,5,6,7,8,37]),(16,[0,3,4,5,6,7,8])] (Vx x y z a b c)
def Cp(y a:List Time)(b c:Int)(z:Bool)(x:Int):TX (List Time) (Bool×Int) Bool:=.c (cmp .lss x (ba .time y)) (.s (Wx y a b c z x) (λd=>.l (.n (d,(ar .add .i64 x 1)))) nE nE nE)
 (.l (.x z))
def Mk:=λx y z a b c=>(Cp x y z a b c).val
def Ep:=λx y z a b c=>(Cp x y z a b c).ob
def uN:=λz a x y b c=>Ba (Mk z a x y b c) (Ep z a x y b c) [0,0,1,0,1,1,0,0,1,0,0,1,0,0,1,0,0,1,0,1,1,1] (λq=>[(0,.S .time z),(3,.A .time a),(4,.I x),(5,.I y),(6,.B [x,y]),(7,.O q.1),(8,.I q.2)]) (b,c) kf (λq=>(4,[(0,.S .time z),(3,.A .time a),(4,.I x),(5,.I y),(6,.B [x,y]),(7,.O q)])) nE nE
theorem Zak(G:Gd Id){fr x y z a b c}:Xd fr (uN x y z a b c):=ia G [([0,1,0,0,1,0,1,1,0,0,1,0,0,1,0,0,1,0,0,1,0,1,1,1],λe=>⟨Wx (gL .time e 0 0) (gL .time e 3 0) (gI e 4 0) (gI e 5 0) (gB e 7 0) (gI e 8 0)⟩)] ⟨λ_=>⟨rfl,Yak G⟩,trivial⟩ [(13,[0,3,4,5,6,7,8,29]),(14,[0,3,4,5,6,7,8])] (Cp x y z a b c)
def j4:=λx y z a=>lpV (λs:Bool×Int=>da (Mk x y z a s.1 s.2)) (false,0)
def B4:=λx y z a=>LpT (λs:Bool×Int=>da (Mk x y z a s.1 s.2)) (λs=>Ep x y z a s.1 s.2) (false,0)
def Xx:=λx y z a=>lpS (uN x y z a false 0) (j4 x y z a) (B4 x y z a)
theorem aal(G:Gd Id){fr x y z a}:Xd fr (Xx x y z a):=Ca (λs:Bool×Int=>uN x y z a s.1 s.2) (false,0) λ_=>Zak G
def Yx(x y:List Time)(z a:Int):TA (List Time) Bool:=.s (Xx x y z a) nE (λb=>.l (.n b)) nE nE
def vN:=λx y z a=>(Yx x y z a).val
def wN:=λx y z a=>(Yx x y z a).ob
def Zx:=λz a x y=>fa.mk (vN z a x y) (wN z a x y) [0,1,1,0,0,1,0,0,1,0,0,1,0,0,1,0,1,1,1] [(0,.S .time z),(3,.A .time a),(4,.I x),(5,.I y),(6,.B [x,y]),(7,.O false)] kf (λq=>[(0,.S .time z),(3,.A .time a),(4,.I x),(5,.I y),(6,.B [x,y]),(7,.O q)]) nE nE nE
theorem bal(G:Gd Id){fr x y z a}:Xd fr (Zx x y z a):=ia G [([0,1,0,1,1,0,0,1,0,0,1,0,0,1,0,0,1,0,1,1,1],λe=>⟨Xx (gL .time e 0 0) (gL .time e 3 0) (gI e 4 0) (gI e 5 0)⟩)] ⟨λ_=>⟨rfl,aal G⟩,trivial⟩ [(12,[0,3,4,5,6,7,8])] (Yx x y z a)
def ay(x _:List Time)(z a:Int)(b:Bool)(y:Int):TA (List Time) Bool:=.w [inb y (ba .time x),((!(cmp .eql (rd .time x y).A z&&(cmp .eql (rd .time x y).B a&&true)))&&true)=true->inb y (ba .time x),((!(cmp .eql (rd .time x y).A z&&(cmp .eql (rd .time x y).B a&&true)))&&true)=true->(Kk (rd .time x y) (Time.mk z a))] (.c (cond (!(cmp .eql (rd .time x y).A z&&(cmp .eql (rd .time x y).B a&&true))) (Zi (rd .time x y) (Time.mk z a)) false) (.l (.n false))
 (.l (.n b)))
def xN:=λx y z a b c=>(ay x y z a b c).val
def yN:=λx y z a b c=>(ay x y z a b c).ob
def cy:=λz a x y c b=>fa.mk (xN z a x y c b) (yN z a x y c b) [0,1,0,0,1,0,1,1,1,0,0,1,0,0,1,0,0,1,0,0,1,0,1,1,1] [(0,.S .time z),(3,.A .time a),(4,.I x),(5,.I y),(6,.B [x,y]),(7,.O c),(9,.I b)] kf (λq=>[(0,.S .time z),(3,.A .time a),(4,.I x),(5,.I y),(6,.B [x,y]),(7,.O q),(9,.I b)]) nE nE nE
theorem cal(G:Gd Id){fr x y z a b c}:Xd fr (cy x y z a b c):=ma G [(20,[0,3,4,5,6,7,9,57]),(21,[0,3,4,5,6,7,9])] (ay x y z a b c)
def Fp(y a:List Time)(b c:Int)(_ z:Bool)(x:Int):TX (List Time) (Bool×Int) Bool:=.c (cmp .lss x (ba .time y)) (.s (cy y a b c z x) (λd=>.l (.n (d,(ar .add .i64 x 1)))) nE nE nE)
 (.l (.x z))
def Nk:=λx y z a b c d=>(Fp x y z a b c d).val
def Gp:=λx y z a b c d=>(Fp x y z a b c d).ob
def zN:=λz a x y d b c=>Ba (Nk z a x y d b c) (Gp z a x y d b c) [0,0,1,0,1,1,1,0,0,1,0,0,1,0,0,1,0,0,1,0,1,1,1] (λq=>[(0,.S .time z),(3,.A .time a),(4,.I x),(5,.I y),(6,.B [x,y]),(7,.O q.1),(9,.I q.2)]) (b,c) kf (λq=>(6,[(0,.S .time z),(3,.A .time a),(4,.I x),(5,.I y),(6,.B [x,y]),(7,.O q)])) nE nE
theorem dal(G:Gd Id){fr x y z a b c d}:Xd fr (zN x y z a b c d):=ia G [([0,1,0,0,1,0,1,1,1,0,0,1,0,0,1,0,0,1,0,0,1,0,1,1,1],λe=>⟨cy (gL .time e 0 0) (gL .time e 3 0) (gI e 4 0) (gI e 5 0) (gB e 7 0) (gI e 9 0)⟩)] ⟨λ_=>⟨rfl,cal G⟩,trivial⟩ [(18,[0,3,4,5,6,7,9,41]),(19,[0,3,4,5,6,7,9])] (Fp x y z a b c d)
def C4:=λy z a b x=>lpV (λs:Bool×Int=>da (Nk y z a b x s.1 s.2)) (x,0)
def D4:=λy z a b x=>LpT (λs:Bool×Int=>da (Nk y z a b x s.1 s.2)) (λs=>Gp y z a b x s.1 s.2) (x,0)
def dy:=λy z a b x=>lpS (zN y z a b x x 0) (C4 y z a b x) (D4 y z a b x)
theorem eal(G:Gd Id){fr y z a b x}:Xd fr (dy y z a b x):=Ca (λs:Bool×Int=>zN y z a b x s.1 s.2) (x,0) λ_=>dal G
def ey(x y:List Time)(z a:Int)(b:Bool):TA (List Time) Bool:=.s (dy x y z a b) nE (λc=>.l (.n c)) nE nE
def AN:=λx y z a b=>(ey x y z a b).val
def BN:=λx y z a b=>(ey x y z a b).ob
def fy:=λz a x y b=>fa.mk (AN z a x y b) (BN z a x y b) [0,1,1,1,0,0,1,0,0,1,0,0,1,0,0,1,0,1,1,1] [(0,.S .time z),(3,.A .time a),(4,.I x),(5,.I y),(6,.B [x,y]),(7,.O b)] kf (λq=>[(0,.S .time z),(3,.A .time a),(4,.I x),(5,.I y),(6,.B [x,y]),(7,.O q)]) nE nE nE
theorem fal(G:Gd Id){fr x y z a b}:Xd fr (fy x y z a b):=ia G [([0,1,0,1,1,1,0,0,1,0,0,1,0,0,1,0,0,1,0,1,1,1],λe=>⟨dy (gL .time e 0 0) (gL .time e 3 0) (gI e 4 0) (gI e 5 0) (gB e 7 0)⟩)] ⟨λ_=>⟨rfl,eal G⟩,trivial⟩ [(17,[0,3,4,5,6,7,9])] (ey x y z a b)
def iy(a x:List Time)(y z:Int):TA (List Time) ((List Time)):=.s (Zx a x y z) (λb=>.s (fy a x y z b) (λc=>.c c (.w [lim (ba .time x) (ba .time [(Time.mk y z)])] (.l (.n (x++[(Time.mk y z)]))))
 (.l (.n x))) nE nE nE) nE nE nE
def CN:=λx y z a=>(iy x y z a).val
def DN:=λx y z a=>(iy x y z a).ob
def jy:=λx a y z=>fa.mk (CN x a y z) (DN x a y z) [0,1,0,0,1,0,0,1,0,0,1,0,1,1,1] [(0,.S .time x),(3,.A .time a),(4,.I y),(5,.I z)] kf (λq=>[(0,.S .time x),(3,.A .time q),(4,.I y),(5,.I z)]) nE nE nE
theorem gal(G:Gd Id){fr x y z a}:Xd fr (jy x y z a):=ia G [([0,1,1,0,0,1,0,0,1,0,0,1,0,0,1,0,1,1,1],λe=>⟨Zx (gL .time e 0 0) (gL .time e 3 0) (gI e 4 0) (gI e 5 0)⟩),([0,1,1,1,0,0,1,0,0,1,0,0,1,0,0,1,0,1,1,1],λe=>⟨fy (gL .time e 0 0) (gL .time e 3 0) (gI e 4 0) (gI e 5 0) (gB e 7 0)⟩)] ⟨λ_=>⟨rfl,bal G⟩,λ_=>⟨rfl,fal G⟩,trivial⟩ [(10,[0,3,4,5,6]),(11,[0,3,4,5,6,7]),(22,[0,3,4,5,6,58]),(23,[0,3,4,5])] (iy x y z a)
def Hp(z _:List Time)(a:Int)(y:List Time)(x:Int):TX (List Time) ((List Time)×Int) ((List Time)):=.c (cmp .geq x 0) (.s (jy z y a x) (λb=>.l (.n (b,(ar .sub .i64 x 1)))) nE nE nE)
 (.l (.x y))
def Ok:=λx y z a b=>(Hp x y z a b).val
def Ip:=λx y z a b=>(Hp x y z a b).ob
def EN:=λx b y z a=>Ba (Ok x b y z a) (Ip x b y z a) [0,0,1,0,0,1,0,0,1,0,1,1,1] (λq=>[(0,.S .time x),(3,.A .time q.1),(4,.I y),(5,.I q.2)]) (z,a) kf (λq=>(2,[(0,.S .time x),(3,.A .time q),(4,.I y)])) nE nE
theorem ial(G:Gd Id){fr x y z a b}:Xd fr (EN x y z a b):=ia G [([0,1,0,0,1,0,0,1,0,0,1,0,1,1,1],λe=>⟨jy (gL .time e 0 0) (gL .time e 3 0) (gI e 4 0) (gI e 5 0)⟩)] ⟨λ_=>⟨rfl,gal G⟩,trivial⟩ [(8,[0,3,4,5,20]),(9,[0,3,4,5])] (Hp x y z a b)
def E4:=λy x z=>lpV (λs:(List Time)×Int=>da (Ok y x z s.1 s.2)) (x,7)
def H4:=λy x z=>LpT (λs:(List Time)×Int=>da (Ok y x z s.1 s.2)) (λs=>Ip y x z s.1 s.2) (x,7)
def ly:=λy x z=>lpS (EN y x z x 7) (E4 y x z) (H4 y x z)
theorem jal(G:Gd Id){fr y x z}:Xd fr (ly y x z):=Ca (λs:(List Time)×Int=>EN y x z s.1 s.2) (x,7) λ_=>ial G
def my(x y:List Time)(z:Int):TA (List Time) ((List Time)):=.s (ly x y z) nE (λa=>.l (.n a)) nE nE
def FN:=λx y z=>(my x y z).val
def GN:=λx y z=>(my x y z).ob
def ny:=λx z y=>fa.mk (FN x z y) (GN x z y) [0,1,0,0,1,0,1,1,1] [(0,.S .time x),(3,.A .time z),(4,.I y)] kf (λq=>[(0,.S .time x),(3,.A .time q),(4,.I y)]) nE nE nE
theorem kal(G:Gd Id){fr x y z}:Xd fr (ny x y z):=ia G [([0,1,0,0,1,0,0,1,0,1,1,1],λe=>⟨ly (gL .time e 0 0) (gL .time e 3 0) (gI e 4 0)⟩)] ⟨λ_=>⟨rfl,jal G⟩,trivial⟩ [(7,[0,3,4,5])] (my x y z)
def Jp(z y:List Time)(x:Int):TX (List Time) ((List Time)×Int) ((List Time)):=.c (cmp .leq x 7) (.s (ny z y x) (λa=>.l (.n (a,(ar .add .i64 x 1)))) nE nE nE)
 (.l (.x y))
def Qk:=λx y z=>(Jp x y z).val
def Kp:=λx y z=>(Jp x y z).ob
def HN:=λx y z=>Ba (Qk x y z) (Kp x y z) [0,0,1,0,1,1,1] (λq=>[(0,.S .time x),(3,.A .time q.1),(4,.I q.2)]) (y,z) kf (λq=>(0,[(3,.A .time q)])) nE nE
theorem lal(G:Gd Id){fr x y z}:Xd fr (HN x y z):=ia G [([0,1,0,0,1,0,1,1,1],λe=>⟨ny (gL .time e 0 0) (gL .time e 3 0) (gI e 4 0)⟩)] ⟨λ_=>⟨rfl,kal G⟩,trivial⟩ [(5,[0,3,4,16]),(6,[0,3,4])] (Jp x y z)
def I4:=λx=>lpV (λs:(List Time)×Int=>da (Qk x s.1 s.2)) ([],0)
def J4:=λx=>LpT (λs:(List Time)×Int=>da (Qk x s.1 s.2)) (λs=>Kp x s.1 s.2) ([],0)
def qy:=λx=>lpS (HN x [] 0) (I4 x) (J4 x)
theorem mal(G:Gd Id){fr x}:Xd fr (qy x):=Ca (λs:(List Time)×Int=>HN x s.1 s.2) ([],0) λ_=>lal G
def ry(x:List Time):TA (List Time) ((List Time)):=.s (qy x) nE (λy=>.l (.n y)) nE nE
def L4:=λx=>(ry x).val
def P4:=λx=>(ry x).ob
def sy:=λx=>fa.mk (L4 x) (P4 x) [0,1,1,1] [(0,.S .time x),(3,.A .time [])] kf (λq=>[(3,.A .time q)]) nE nE nE
theorem nal(G:Gd Id){fr x}:Xd fr (sy x):=ia G [([0,1,0,1,1,1],λe=>⟨qy (gL .time e 0 0)⟩)] ⟨λ_=>⟨rfl,mal G⟩,trivial⟩ [(4,[0,3,4])] (ry x)
def uy(x:List Time):TN (List Time):=.w [Ux x] (.c (!(pN x)) (.l (.r []))
 (.s (sy x) (λy=>.l (.r y)) nE nE nE))
def JN:=λx=>(uy x).val
def LN:=λx=>(uy x).ob
def oal:=λx=>fa.mk (JN x) (LN x) [] [(0,.S .time x)] kf nE nE nE nE
theorem pal(G:Gd Id){fr x}:Xd fr (oal x):=ia G [([0,1,1,1],λe=>⟨sy (gL .time e 0 0)⟩)] ⟨λ_=>⟨rfl,nal G⟩,trivial⟩ [(0,[0]),(1,[0,3]),(2,[0,3,13]),(3,[2]),(24,[2])] (uy x)
def Mp(x:List Time):List Time:=ocR (JN x)
def Np(x:List Time):Prop:=LN x
def wy:Spec:=⟨[(.lst .time)],.one (.acc true) (.lst .time),false,λx=>(Mp x.1,0),λx=>Np x.1⟩
theorem qal(G:Gd Id):Con Tryz.prog 92 wy:=va (pts:=[(.lst .time)]) (F:=F92) G λ_ _=>pal G
def R4:SP:=[(128,jN),(92,wy)]
abbrev F97:Fnn:=⟨[.tmp 2],.one (.acc true) (.lst .time),some 0,[]⟩
abbrev ral:LB->(List Time)×Int->RV:=rvR F97
abbrev sal:=@OkF Tryz.prog tt Tryz.f97 F97 ((List Time)×Int)
def xy(x:(LB×Int)):TN ((List Time)×Int):=.k (Yi (x.1,x.2) 4) λy=>.w [Ox (x.1,x.2) 4,Np y.1] (.l (.r ((Mp y.1),y.2)))
def MN:=λx=>(xy x).val
def NN:=λx=>(xy x).ob
def tal:=λx=>fa.mk (MN x) (NN x) [] [(0,.R x.1 x.2)] (ral x.1) nE nE nE nE
theorem ual(G:Gd R4){fr x}:sal fr (tal x):=ma G [(0,[0]),(1,[0,2])] (xy x)
def Sg(x:(LB×Int)):(List Time)×Int:=ocR (MN x)
def zy(x:(LB×Int)):Prop:=NN x
def PN:Spec:=⟨[.rdr],.one (.acc true) (.lst .time),true,λx=>Sg x.1,λx=>zy x.1⟩
theorem wal(G:Gd R4):Con Tryz.prog 97 PN:=Ze (pts:=[.rdr]) (F:=F97) G (λx=>x.1.1) λ_ _=>ual G
def Pp:SP:=[(49,Ih)]
abbrev F57:Fnn:=⟨[.tmp 2],.one .fr .bool,none,[]⟩
abbrev QN:Bool->RV:=rvF F57
abbrev Ay:=@OkF Tryz.prog tt Tryz.f57 F57 Bool
def Rk(y:List Time)(x:Int):TX Bool Int Unit:=.c (cmp .lss x (ba .time y)) (.k (qe (rd .time y x)) λz=>.w [inb x (ba .time y),vg (rd .time y x),((cmp .gtr x 0)&&((!(!z))&&true))=true->inb (ar .sub .i64 x 1) (ba .time y),((cmp .gtr x 0)&&((!(!z))&&true))=true->inb x (ba .time y),((!(cmp .geq (rd .time y (ar .sub .i64 x 1)).A (rd .time y x).A))&&((cmp .gtr x 0)&&((!(!z))&&true)))=true->inb (ar .sub .i64 x 1) (ba .time y),((!(cmp .geq (rd .time y (ar .sub .i64 x 1)).A (rd .time y x).A))&&((cmp .gtr x 0)&&((!(!z))&&true)))=true->inb x (ba .time y)] (.c (cond (!z) true (cond (cmp .gtr x 0) (cond (cmp .geq (rd .time y (ar .sub .i64 x 1)).A (rd .time y x).A) true (cmp .leq (rd .time y (ar .sub .i64 x 1)).B (rd .time y x).B)) false)) (.l (.r false))
 (.l (.n (ar .add .i64 x 1)))))
 (.l (.x ()))
def aj:=λx y=>(Rk x y).val
def Sk:=λx y=>(Rk x y).ob
def RN:=λx y=>Ba (aj x y) (Sk x y) [0,0,1,0,1] (λq=>[(0,.S .time x),(3,.I q)]) y QN (λ_=>(0,[])) nE nE
theorem xal(G:Gd Pp){fr x y}:Ay fr (RN x y):=ma G [(2,[0,3,7]),(3,[0,3]),(4,[0,3,47]),(5,[2])] (Rk x y)
def U4:=λx=>lpV (λs:Int=>da (aj x s)) 0
def V4:=λx=>LpT (λs:Int=>da (aj x s)) (λs=>Sk x s) 0
def By:=λx=>lpS (RN x 0) (U4 x) (V4 x)
theorem yal(G:Gd Pp){fr x}:Ay fr (By x):=Ca (λs:Int=>RN x s) 0 λ_=>xal G
def Cy(x:List Time):TA Bool Unit:=.s (By x) nE (λ_=>.l (.n ())) nE nE
def X4:=λx=>(Cy x).val
def Y4:=λx=>(Cy x).ob
def Dy:=λx=>fa.mk (X4 x) (Y4 x) [0,1] [(0,.S .time x)] QN (λ_=>[]) nE nE nE
theorem zal(G:Gd Pp){fr x}:Ay fr (Dy x):=ia G [([0,1,0,1],λe=>⟨By (gL .time e 0 0)⟩)] ⟨λ_=>⟨rfl,yal G⟩,trivial⟩ [(1,[0,3])] (Cy x)
def Ey(x:List Time):TN Bool:=.s (Dy x) (λ_=>.l (.r true)) nE nE nE
def SN:=λx=>(Ey x).val
def UN:=λx=>(Ey x).ob
def Aal:=λx=>fa.mk (SN x) (UN x) [] [(0,.S .time x)] QN nE nE nE nE
theorem Bal(G:Gd Pp){fr x}:Ay fr (Aal x):=ia G [([0,1],λe=>⟨Dy (gL .time e 0 0)⟩)] ⟨λ_=>⟨rfl,zal G⟩,trivial⟩ [(0,[0]),(6,[2])] (Ey x)
def mf(x:List Time):Bool:=ocR (SN x)
def Ug(x:List Time):Prop:=UN x
def bj:Spec:=⟨[(.lst .time)],.one .fr .bool,false,λx=>(mf x.1,0),λx=>Ug x.1⟩
theorem Cal(G:Gd Pp):Con Tryz.prog 57 bj:=va (pts:=[(.lst .time)]) (F:=F57) G λ_ _=>Bal G
def Z4:SP:=[(49,Ih)]
abbrev F91:Fnn:=⟨[.cell 4 32],.one .fr (.st .time),none,[]⟩
abbrev Dal:Time->RV:=rvF F91
abbrev Eal:=@OkF Tryz.prog tt Tryz.f91 F91 Time
def Qp(x y:Time):TN Time:=.w [vg x,((!(!(qe x)))&&true)=true->(vg y)] (.c (cond (!(qe x)) true (!(qe y))) (.l (.r (Time.mk 0 0)))
 (.l (.r (Time.mk (mx x.A y.A) (mx x.B y.B)))))
def VN:=λx y=>(Qp x y).val
def Fy:=λx y=>(Qp x y).ob
def Fal:=λx y=>fa.mk (VN x y) (Fy x y) [] [(0,.agg true [.i x.A,.i x.B]),(1,.agg true [.i y.A,.i y.B])] Dal nE nE nE nE
theorem Gal(G:Gd Z4){fr x y}:Eal fr (Fal x y):=ma G [(0,[2,3,4]),(1,[2,3,4,12]),(2,[4]),(3,[4])] (Qp x y)
def cj(x:Time)(y:Time):Time:=ocR (VN x y)
def Vg(x:Time)(y:Time):Prop:=Fy x y
def Uk:Spec:=⟨[(.st .time),(.st .time)],.one .fr (.st .time),false,λx=>(cj x.1 x.2.1,0),λx=>Vg x.1 x.2.1⟩
theorem Hal(G:Gd Z4):Con Tryz.prog 91 Uk:=va (pts:=[(.st .time),(.st .time)]) (F:=F91) G λ_ _=>Gal G
def Jh:SP:=[(57,bj),(91,Uk),(92,wy)]
abbrev F47:Fnn:=⟨[.tmp 4],.one (.acc true) (.lst .time),none,[]⟩
abbrev Rp:List Time->RV:=rvF F47
abbrev ej:=@OkF Tryz.prog tt Tryz.f47 F47 (List Time)
def Sp(z y _:List Time)(a:Int)(b:List Time)(x:Int):TX (List Time) ((List Time)×Int) ((List Time)):=.c (cmp .lss x (ba .time y)) (.k (cj (rd .time z a) (rd .time y x)) λc=>.w [inb a (ba .time z),inb x (ba .time y),Vg (rd .time z a) (rd .time y x),lim (ba .time b) (ba .time [c])] (.l (.n ((b++[c]),(ar .add .i64 x 1)))))
 (.l (.x b))
def Vk:=λx y z a b c=>(Sp x y z a b c).val
def Tp:=λx y z a b c=>(Sp x y z a b c).ob
def WN:=λx y c z a b=>Ba (Vk x y c z a b) (Tp x y c z a b) [0,0,1,0,0,1,0,0,1,0,1,1,1] (λq=>[(0,.S .time x),(1,.S .time y),(5,.A .time q.1),(6,.I z),(7,.I q.2)]) (a,b) Rp (λq=>(2,[(0,.S .time x),(1,.S .time y),(5,.A .time q),(6,.I z)])) nE nE
theorem Ial(G:Gd Jh){fr x y z a b c}:ej fr (WN x y z a b c):=ma G [(8,[0,1,5,6,7,27]),(9,[0,1,5,6,7]),(10,[0,1,5,6,7])] (Sp x y z a b c)
def j5:=λy z x a=>lpV (λs:(List Time)×Int=>da (Vk y z x a s.1 s.2)) (x,0)
def l5:=λy z x a=>LpT (λs:(List Time)×Int=>da (Vk y z x a s.1 s.2)) (λs=>Tp y z x a s.1 s.2) (x,0)
def Gy:=λy z x a=>lpS (WN y z x a x 0) (j5 y z x a) (l5 y z x a)
theorem Jal(G:Gd Jh){fr y z x a}:ej fr (Gy y z x a):=Ca (λs:(List Time)×Int=>WN y z x a s.1 s.2) (x,0) λ_=>Ial G
def Hy(x y z:List Time)(a:Int):TA (List Time) ((List Time)):=.s (Gy x y z a) nE (λb=>.l (.n b)) nE nE
def w5:=λx y z a=>(Hy x y z a).val
def B5:=λx y z a=>(Hy x y z a).ob
def Iy:=λx y a z=>fa.mk (w5 x y a z) (B5 x y a z) [0,1,0,0,1,0,1,1,1] [(0,.S .time x),(1,.S .time y),(5,.A .time a),(6,.I z)] Rp (λq=>[(0,.S .time x),(1,.S .time y),(5,.A .time q),(6,.I z)]) nE nE nE
theorem Kal(G:Gd Jh){fr x y z a}:ej fr (Iy x y z a):=ia G [([0,1,0,0,1,0,0,1,0,1,1,1],λe=>⟨Gy (gL .time e 0 0) (gL .time e 1 0) (gL .time e 5 0) (gI e 6 0)⟩)] ⟨λ_=>⟨rfl,Jal G⟩,trivial⟩ [(7,[0,1,5,6,7])] (Hy x y z a)
def Up(y a z:List Time)(x:Int):TX (List Time) ((List Time)×Int) ((List Time)):=.c (cmp .lss x (ba .time y)) (.s (Iy y a z x) (λb=>.l (.n (b,(ar .add .i64 x 1)))) nE nE nE)
 (.l (.x z))
def Xk:=λx y z a=>(Up x y z a).val
def Vp:=λx y z a=>(Up x y z a).ob
def XN:=λx y z a=>Ba (Xk x y z a) (Vp x y z a) [0,0,1,0,1,1,1] (λq=>[(0,.S .time x),(1,.S .time y),(5,.A .time q.1),(6,.I q.2)]) (z,a) Rp (λq=>(0,[(5,.A .time q)])) nE nE
theorem Lal(G:Gd Jh){fr x y z a}:ej fr (XN x y z a):=ia G [([0,1,0,0,1,0,1,1,1],λe=>⟨Iy (gL .time e 0 0) (gL .time e 1 0) (gL .time e 5 0) (gI e 6 0)⟩)] ⟨λ_=>⟨rfl,Kal G⟩,trivial⟩ [(5,[0,1,5,6,21]),(6,[0,1,5,6])] (Up x y z a)
def C5:=λx y=>lpV (λs:(List Time)×Int=>da (Xk x y s.1 s.2)) ([],0)
def D5:=λx y=>LpT (λs:(List Time)×Int=>da (Xk x y s.1 s.2)) (λs=>Vp x y s.1 s.2) ([],0)
def Jy:=λx y=>lpS (XN x y [] 0) (C5 x y) (D5 x y)
theorem Mal(G:Gd Jh){fr x y}:ej fr (Jy x y):=Ca (λs:(List Time)×Int=>XN x y s.1 s.2) ([],0) λ_=>Lal G
def Ky(x y:List Time):TA (List Time) ((List Time)):=.s (Jy x y) nE (λz=>.l (.n z)) nE nE
def E5:=λx y=>(Ky x y).val
def H5:=λx y=>(Ky x y).ob
def Ly:=λx y=>fa.mk (E5 x y) (H5 x y) [0,1,1,1] [(0,.S .time x),(1,.S .time y),(5,.A .time [])] Rp (λq=>[(5,.A .time q)]) nE nE nE
theorem Nal(G:Gd Jh){fr x y}:ej fr (Ly x y):=ia G [([0,1,0,1,1,1],λe=>⟨Jy (gL .time e 0 0) (gL .time e 1 0)⟩)] ⟨λ_=>⟨rfl,Mal G⟩,trivial⟩ [(4,[0,1,5,6])] (Ky x y)
def My(x y:List Time):TN (List Time):=.w [Ug x,((!(!(mf x)))&&true)=true->(Ug y)] (.c (cond (!(mf x)) true (!(mf y))) (.l (.r []))
 (.s (Ly x y) (λz=>.w [Np z] (.l (.r (Mp z)))) nE nE nE))
def YN:=λx y=>(My x y).val
def ZN:=λx y=>(My x y).ob
def Oal:=λx y=>fa.mk (YN x y) (ZN x y) [] [(0,.S .time x),(1,.S .time y)] Rp nE nE nE nE
theorem Pal(G:Gd Jh){fr x y}:ej fr (Oal x y):=ia G [([0,1,1,1],λe=>⟨Ly (gL .time e 0 0) (gL .time e 1 0)⟩)] ⟨λ_=>⟨rfl,Nal G⟩,trivial⟩ [(0,[0,1]),(1,[0,1,5]),(2,[0,1,5,16]),(3,[4]),(11,[4])] (My x y)
def Ny(x:List Time)(y:List Time):List Time:=ocR (YN x y)
def Oy(x:List Time)(y:List Time):Prop:=ZN x y
def aO:Spec:=⟨[(.lst .time),(.lst .time)],.one (.acc true) (.lst .time),false,λx=>(Ny x.1 x.2.1,0),λx=>Oy x.1 x.2.1⟩
theorem Qal(G:Gd Jh):Con Tryz.prog 47 aO:=va (pts:=[(.lst .time),(.lst .time)]) (F:=F47) G λ_ _=>Pal G
def I5:SP:=[(97,PN),(44,Pf),(47,aO)]
abbrev F56:Fnn:=⟨[.tmp 4],.one (.acc true) (.lst .time),some 0,[]⟩
abbrev Ral:LB->(List Time)×Int->RV:=rvR F56
abbrev Sal:=@OkF Tryz.prog tt Tryz.f56 F56 ((List Time)×Int)
def Py(x:(LB×Int))(a:Sess):TN ((List Time)×Int):=.k (Sg (x.1,x.2)) λy=>.w [zy (x.1,x.2)] (.k (la (x.1,y.2) 10) λz=>.w [Ob (x.1,y.2) 10] (.c (cmp .eql z.1 0) (.l (.r (y.1,z.2)))
 (.w [Oy a.Front y.1] (.l (.r ((Ny a.Front y.1),z.2))))))
def bO:=λx y=>(Py x y).val
def cO:=λx y=>(Py x y).ob
def Tal:=λy x=>fa.mk (bO y x) (cO y x) [] [(0,.R y.1 y.2),(1,.agg false [.i x.Plan.Kind,.i x.Plan.Num,.lst .plan x.Plan.Kids,.lst .lrow x.Ins,.lst .time x.Front,.lst .row x.Told])] (Ral y.1) nE nE nE nE
theorem Ual(G:Gd I5){fr x y}:Sal fr (Tal x y):=ma G [(0,[0,3]),(1,[0,3,5]),(2,[0,3,5,10]),(3,[0,4]),(4,[0,4])] (Py x y)
def Yd(x:(LB×Int))(y:Sess):(List Time)×Int:=ocR (bO x y)
def Qy(x:(LB×Int))(y:Sess):Prop:=cO x y
def dO:Spec:=⟨[.rdr,(.st .sess)],.one (.acc true) (.lst .time),true,λx=>Yd x.1 x.2.1,λx=>Qy x.1 x.2.1⟩
theorem Wal(G:Gd I5):Con Tryz.prog 56 dO:=Ze (pts:=[.rdr,(.st .sess)]) (F:=F56) G (λx=>x.1.1) λ_ _=>Ual G
def L5:SP:=[(77,Ak),(49,Ih)]
abbrev eO:Fnn:=⟨[.tmp 2],.one .fr .bool,none,[]⟩
abbrev Xal:Bool->RV:=rvF eO
abbrev Yal:=@OkF Tryz.prog tt Tryz.f126 eO Bool
def fO(x:Row):TN Bool:=.k (Hd x.Key 0 3) λy=>.k (Hd x.Val 0 99) λz=>.k (qe x.At) λa=>.w [ug x.Key 0 3,(y&&true)=true->(ug x.Val 0 99),((cond y z false)&&true)=true->(vg x.At),((cond (cond y z false) a false)&&true)=true->(ug x.Diff (-99999) 99999)] (.l (.r (cond (cond (cond y z false) a false) (Hd x.Diff (-99999) 99999) false)))
def O5:=λx=>(fO x).val
def P5:=λx=>(fO x).ob
def Zal:=λx=>fa.mk (O5 x) (P5 x) [] [(0,.agg true [.i x.Key,.i x.Val,.i x.At.A,.i x.At.B,.i x.Diff])] Xal nE nE nE nE
theorem aam(G:Gd L5){fr x}:Yal fr (Zal x):=ma G [(0,[1]),(1,[2])] (fO x)
def gO(x:Row):Bool:=ocR (O5 x)
def iO(x:Row):Prop:=P5 x
def jO:Spec:=⟨[(.st .row)],.one .fr .bool,false,λx=>(gO x.1,0),λx=>iO x.1⟩
theorem bam(G:Gd L5):Con Tryz.prog 126 jO:=va (pts:=[(.st .row)]) (F:=eO) G λ_ _=>aam G
def Wp:SP:=[(126,jO)]
abbrev F93:Fnn:=⟨[.tmp 2],.one .fr .bool,none,[]⟩
abbrev kO:Bool->RV:=rvF F93
abbrev Ry:=@OkF Tryz.prog tt Tryz.f93 F93 Bool
def Xp(y:LR)(x:Int):TX Bool Int Unit:=.c (cmp .lss x (ba .row y)) (.w [inb x (ba .row y),iO (rd .row y x)] (.c (!(gO (rd .row y x))) (.l (.r false))
 (.l (.n (ar .add .i64 x 1)))))
 (.l (.x ()))
def Yk:=λx y=>(Xp x y).val
def Yp:=λx y=>(Xp x y).ob
def lO:=λx y=>Ba (Yk x y) (Yp x y) [0,0,1,0,1,1] (λq=>[(0,.S .row x),(3,.I q)]) y kO (λ_=>(0,[])) nE nE
theorem cam(G:Gd Wp){fr x y}:Ry fr (lO x y):=ma G [(4,[0,3,10]),(5,[0,3]),(6,[0,3,18]),(7,[2])] (Xp x y)
def R5:=λx=>lpV (λs:Int=>da (Yk x s)) 0
def U5:=λx=>LpT (λs:Int=>da (Yk x s)) (λs=>Yp x s) 0
def Sy:=λx=>lpS (lO x 0) (R5 x) (U5 x)
theorem dam(G:Gd Wp){fr x}:Ry fr (Sy x):=Ca (λs:Int=>lO x s) 0 λ_=>cam G
def Uy(x:LR):TA Bool Unit:=.s (Sy x) nE (λ_=>.l (.n ())) nE nE
def X5:=λx=>(Uy x).val
def Y5:=λx=>(Uy x).ob
def Vy:=λx=>fa.mk (X5 x) (Y5 x) [0,1,1] [(0,.S .row x)] kO (λ_=>[]) nE nE nE
theorem eam(G:Gd Wp){fr x}:Ry fr (Vy x):=ia G [([0,1,0,1,1],λe=>⟨Sy (gL .row e 0 0)⟩)] ⟨λ_=>⟨rfl,dam G⟩,trivial⟩ [(3,[0,3])] (Uy x)
def Wy(x:LR):TN Bool:=.c (cmp .gtr (ba .row x) 400) (.l (.r false))
 (.s (Vy x) (λ_=>.l (.r true)) nE nE nE)
def mO:=λx=>(Wy x).val
def nO:=λx=>(Wy x).ob
def fam:=λx=>fa.mk (mO x) (nO x) [] [(0,.S .row x)] kO nE nE nE nE
theorem gam(G:Gd Wp){fr x}:Ry fr (fam x):=ia G [([0,1,1],λe=>⟨Vy (gL .row e 0 0)⟩)] ⟨λ_=>⟨rfl,eam G⟩,trivial⟩ [(0,[0]),(1,[0,6]),(2,[2]),(8,[2])] (Wy x)
def Wg(x:LR):Bool:=ocR (mO x)
def Kh(x:LR):Prop:=nO x
def fj:Spec:=⟨[(.lst .row)],.one .fr .bool,false,λx=>(Wg x.1,0),λx=>Kh x.1⟩
theorem ham(G:Gd Wp):Con Tryz.prog 93 fj:=va (pts:=[(.lst .row)]) (F:=F93) G λ_ _=>gam G
def Zp:SP:=[]
abbrev oO:Fnn:=⟨[.tmp 4],.one .fr (.int .i64),none,[]⟩
abbrev pO:Int->RV:=rvF oO
abbrev Xy:=@OkF Tryz.prog tt Tryz.f113 oO Int
def gj(y z:LB)(x:Int):TX Int Int Unit:=.c (cmp .lss x (ba .int y)) (.w [inb x (ba .int y),inb x (ba .int z)] (.c (cmp .lss (rd .int y x) (rd .int z x)) (.l (.r (-1)))
 (.w [inb x (ba .int y),inb x (ba .int z)] (.c (cmp .gtr (rd .int y x) (rd .int z x)) (.l (.r 1))
 (.l (.n (ar .add .i64 x 1)))))))
 (.l (.x ()))
def Xg:=λx y z=>(gj x y z).val
def aq:=λx y z=>(gj x y z).ob
def qO:=λx y z=>Ba (Xg x y z) (aq x y z) [0,0,1,0,1,1,1] (λq=>[(5,.A .int x),(6,.A .int y),(7,.I q)]) z pO (λ_=>(0,[])) nE nE
theorem iam(G:Gd Zp){fr x y z}:Xy fr (qO x y z):=ma G [(4,[5,6,7,33]),(5,[5,6,7]),(6,[5,6,7,44]),(7,[4]),(8,[5,6,7,53]),(9,[4])] (gj x y z)
def Z5:=λx y=>lpV (λs:Int=>da (Xg x y s)) 0
def d6:=λx y=>LpT (λs:Int=>da (Xg x y s)) (λs=>aq x y s) 0
def Yy:=λx y=>lpS (qO x y 0) (Z5 x y) (d6 x y)
theorem jam(G:Gd Zp){fr x y}:Xy fr (Yy x y):=Ca (λs:Int=>qO x y s) 0 λ_=>iam G
def Zy(x y:LB):TA Int Unit:=.s (Yy x y) nE (λ_=>.l (.n ())) nE nE
def i6:=λx y=>(Zy x y).val
def j6:=λx y=>(Zy x y).ob
def az:=λx y=>fa.mk (i6 x y) (j6 x y) [0,1,1,1] [(5,.A .int x),(6,.A .int y)] pO (λ_=>[]) nE nE nE
theorem kam(G:Gd Zp){fr x y}:Xy fr (az x y):=ia G [([0,1,0,1,1,1],λe=>⟨Yy (gL .int e 5 0) (gL .int e 6 0)⟩)] ⟨λ_=>⟨rfl,jam G⟩,trivial⟩ [(3,[5,6,7])] (Zy x y)
def bz(x y:Row):TN Int:=.s (az [x.Key,x.Val,x.At.A,x.At.B] [y.Key,y.Val,y.At.A,y.At.B]) (λ_=>.l (.r 0)) nE nE nE
def rO:=λx y=>(bz x y).val
def sO:=λx y=>(bz x y).ob
def lam:=λx y=>fa.mk (rO x y) (sO x y) [] [(0,.agg true [.i x.Key,.i x.Val,.i x.At.A,.i x.At.B,.i x.Diff]),(1,.agg true [.i y.Key,.i y.Val,.i y.At.A,.i y.At.B,.i y.Diff])] pO nE nE nE nE
theorem mam(G:Gd Zp){fr x y}:Xy fr (lam x y):=ia G [([0,1,1,1],λe=>⟨az (gL .int e 5 0) (gL .int e 6 0)⟩)] ⟨λ_=>⟨rfl,kam G⟩,trivial⟩ [(0,[2,3]),(1,[3,5]),(2,[5,6]),(10,[4])] (bz x y)
def ij(x:Row)(y:Row):Int:=ocR (rO x y)
def bq(x:Row)(y:Row):Prop:=sO x y
def cz:Spec:=⟨[(.st .row),(.st .row)],.one .fr (.int .i64),false,λx=>(ij x.1 x.2.1,0),λx=>bq x.1 x.2.1⟩
theorem nam(G:Gd Zp):Con Tryz.prog 113 cz:=va (pts:=[(.st .row),(.st .row)]) (F:=oO) G λ_ _=>mam G
def dq:SP:=[(93,fj),(113,cz)]
abbrev F78:Fnn:=⟨[.tmp 2],.one .fr .bool,none,[]⟩
abbrev tO:Bool->RV:=rvF F78
abbrev dz:=@OkF Tryz.prog tt Tryz.f78 F78 Bool
def Zk(y:LR)(x:Int):TX Bool Int Unit:=.c (cmp .lss x (ba .row y)) (.w [inb x (ba .row y),((cmp .gtr x 0)&&((!(cmp .eql (rd .row y x).Diff 0))&&true))=true->inb (ar .sub .i64 x 1) (ba .row y),((cmp .gtr x 0)&&((!(cmp .eql (rd .row y x).Diff 0))&&true))=true->inb x (ba .row y),((cmp .gtr x 0)&&((!(cmp .eql (rd .row y x).Diff 0))&&true))=true->(bq (rd .row y (ar .sub .i64 x 1)) (rd .row y x))] (.c (cond (cmp .eql (rd .row y x).Diff 0) true (cond (cmp .gtr x 0) (cmp .geq (ij (rd .row y (ar .sub .i64 x 1)) (rd .row y x)) 0) false)) (.l (.r false))
 (.l (.n (ar .add .i64 x 1)))))
 (.l (.x ()))
def jj:=λx y=>(Zk x y).val
def al:=λx y=>(Zk x y).ob
def uO:=λx y=>Ba (jj x y) (al x y) [0,0,1,0,1,1] (λq=>[(0,.S .row x),(3,.I q)]) y tO (λ_=>(0,[])) nE nE
theorem oam(G:Gd dq){fr x y}:dz fr (uO x y):=ma G [(4,[0,3,10]),(5,[0,3]),(6,[0,3,35]),(7,[2])] (Zk x y)
def l6:=λx=>lpV (λs:Int=>da (jj x s)) 0
def t6:=λx=>LpT (λs:Int=>da (jj x s)) (λs=>al x s) 0
def ez:=λx=>lpS (uO x 0) (l6 x) (t6 x)
theorem pam(G:Gd dq){fr x}:dz fr (ez x):=Ca (λs:Int=>uO x s) 0 λ_=>oam G
def gz(x:LR):TA Bool Unit:=.s (ez x) nE (λ_=>.l (.n ())) nE nE
def v6:=λx=>(gz x).val
def w6:=λx=>(gz x).ob
def iz:=λx=>fa.mk (v6 x) (w6 x) [0,1,1] [(0,.S .row x)] tO (λ_=>[]) nE nE nE
theorem qam(G:Gd dq){fr x}:dz fr (iz x):=ia G [([0,1,0,1,1],λe=>⟨ez (gL .row e 0 0)⟩)] ⟨λ_=>⟨rfl,pam G⟩,trivial⟩ [(3,[0,3])] (gz x)
def jz(x:LR):TN Bool:=.w [Kh x] (.c (!(Wg x)) (.l (.r false))
 (.s (iz x) (λ_=>.l (.r true)) nE nE nE))
def vO:=λx=>(jz x).val
def wO:=λx=>(jz x).ob
def ram:=λx=>fa.mk (vO x) (wO x) [] [(0,.S .row x)] tO nE nE nE nE
theorem sam(G:Gd dq){fr x}:dz fr (ram x):=ia G [([0,1,1],λe=>⟨iz (gL .row e 0 0)⟩)] ⟨λ_=>⟨rfl,qam G⟩,trivial⟩ [(0,[0]),(1,[0,6]),(2,[2]),(8,[2])] (jz x)
def Yg(x:LR):Bool:=ocR (vO x)
def Lh(x:LR):Prop:=wO x
def cl:Spec:=⟨[(.lst .row)],.one .fr .bool,false,λx=>(Yg x.1,0),λx=>Lh x.1⟩
theorem tam(G:Gd dq):Con Tryz.prog 78 cl:=va (pts:=[(.lst .row)]) (F:=F78) G λ_ _=>sam G
def z6:SP:=[]
abbrev xO:Fnn:=⟨[.tmp 6,.tmp 7,.tmp 8],.tup [(true,(.int .i64)),(true,(.int .i64)),(true,.bool)],none,[]⟩
abbrev uam:Int×Int×Bool×Unit->RV:=rvF xO
abbrev vam:=@OkF Tryz.prog tt Tryz.f162 xO (Int×Int×Bool×Unit)
def lz(y x z:Int):TN (Int×Int×Bool×Unit):=.c (cmp .eql z 1) (.w [(4:Int)≠0,(4:Int)≠0] (.l (.r ((ar .rem .i64 x 4),((ar .add .i64 (ar .mul .i64 (ar .quo .i64 x 4) 4) y),(true,()))))))
 (.c (cmp .eql z 2) (.w [(100:Int)≠0] (.l (.r (y,((ar .rem .i64 (ar .add .i64 x 1) 100),(true,()))))))
 (.c (cmp .eql z 3) (.w [(4:Int)≠0] (.l (.r ((ar .rem .i64 x 4),(x,(true,()))))))
 (.c (cmp .eql z 4) (.l (.r (0,(x,(true,())))))
 (.c (cmp .eql z 5) (.w [(2:Int)≠0] (.l (.r (y,(x,((cmp .eql (ar .rem .i64 x 2) 0),()))))))
 (.c (cmp .eql z 6) (.w [(2:Int)≠0] (.l (.r (y,(x,((cmp .eql (ar .rem .i64 y 2) 0),()))))))
 (.l (.r (y,(x,((cmp .lss x 10),()))))))))))
def yO:=λx y z=>(lz x y z).val
def zO:=λx y z=>(lz x y z).ob
def wam:=λx y z=>fa.mk (yO x y z) (zO x y z) [] [(0,.I x),(1,.I y),(2,.I z)] uam nE nE nE nE
theorem xam(G:Gd z6){fr x y z}:vam fr (wam x y z):=ma G [(0,[0,1,2]),(1,[0,1,9]),(2,[0,1,9,10]),(3,[6,7,8]),(4,[0,1,9,19]),(5,[6,7,8]),(6,[0,1,9,25]),(7,[6,7,8]),(8,[0,1,9,30]),(9,[6,7,8]),(10,[0,1,9,33]),(11,[6,7,8]),(12,[0,1,40]),(13,[6,7,8]),(14,[6,7,8])] (lz x y z)
def mz(x:Int)(y:Int)(z:Int):Int×Int×Bool×Unit:=ocR (yO x y z)
def nz(x:Int)(y:Int)(z:Int):Prop:=zO x y z
def AO:Spec:=⟨[(.int .i64),(.int .i64),(.int .i64)],.tup [(true,(.int .i64)),(true,(.int .i64)),(true,.bool)],false,λx=>(mz x.1 x.2.1 x.2.2.1,0),λx=>nz x.1 x.2.1 x.2.2.1⟩
theorem yam(G:Gd z6):Con Tryz.prog 162 AO:=va (pts:=[(.int .i64),(.int .i64),(.int .i64)]) (F:=xO) G λ_ _=>xam G
def Mh:SP:=[(113,cz)]
abbrev BO:Fnn:=⟨[.tmp 4],.one (.acc true) (.lst .row),none,[]⟩
abbrev dl:LR->RV:=rvF BO
abbrev lj:=@OkF Tryz.prog tt Tryz.f101 BO LR
def oz(_:LR)(y z a b c:Int)(x:LR)(d:Bool)(_ f:Int):TA LR (LR×Bool):=.c (cond (!d) (cmp .gtr f 0) false) (.w [lim (ba .row x) (ba .row [(Row.mk y z (Time.mk a b) c)])] (.l (.n ((x++[(Row.mk y z (Time.mk a b) c)]),true))))
 (.l (.n (x,d)))
def A6:=λx y z a b c d f g h=>(oz x y z a b c d f g h).val
def B6:=λx y z a b c d f g h=>(oz x y z a b c d f g h).ob
def qz:=λx y z a b c g h d f=>fa.mk (A6 x y z a b c g h d f) (B6 x y z a b c g h d f) [0,1,0,0,1,0,0,1,0,1,1,1] [(0,.S .row x),(3,.B [y,z,a,b,c]),(5,.A .row g),(6,.O h),(7,.I d),(8,.I f)] dl (λq=>[(0,.S .row x),(3,.B [y,z,a,b,c]),(5,.A .row q.1),(6,.O q.2),(7,.I d),(8,.I f)]) nE nE nE
theorem zam(G:Gd Mh){fr x y z a b c d f g h}:lj fr (qz x y z a b c d f g h):=ma G [(7,[0,3,5,6,7,8,27]),(8,[0,3,5,7,8]),(9,[0,3,5,6,7,8])] (oz x y z a b c d f g h)
def rz(x:LR)(b c d f z:Int)(h:LR)(i:Bool)(y:Int):TA LR (Int×LR×Bool):=.k (ij (rd .row x y) (Row.mk b c (Time.mk d f) z)) λg=>.w [inb y (ba .row x),bq (rd .row x y) (Row.mk b c (Time.mk d f) z)] (.s (qz x b c d f z h i y g) (λa=>.c (cond (!a.2) (cmp .eql g 0) false) (.w [inb y (ba .row x)] (.w [lim (ba .row a.1) (ba .row [(Row.mk b c (Time.mk d f) (ar .add .i64 z (rd .row x y).Diff))])] (.l (.n ((ar .add .i64 z (rd .row x y).Diff),(a.1++[(Row.mk b c (Time.mk d f) (ar .add .i64 z (rd .row x y).Diff))]),true)))))
 (.w [inb y (ba .row x),lim (ba .row a.1) (ba .row [(rd .row x y)])] (.l (.n (z,(a.1++[(rd .row x y)]),a.2))))) nE nE nE)
def C6:=λx y z a b c d f g=>(rz x y z a b c d f g).val
def D6:=λx y z a b c d f g=>(rz x y z a b c d f g).ob
def fq:=λx y z a b d f g c=>fa.mk (C6 x y z a b d f g c) (D6 x y z a b d f g c) [0,1,0,0,1,0,1,1,1] [(0,.S .row x),(3,.B [y,z,a,b,d]),(5,.A .row f),(6,.O g),(7,.I c)] dl (λq=>[(0,.S .row x),(3,.B [y,z,a,b,q.1]),(5,.A .row q.2.1),(6,.O q.2.2),(7,.I c)]) nE nE nE
theorem Aam(G:Gd Mh){fr x y z a b c d f g}:lj fr (fq x y z a b c d f g):=ia G [([0,1,0,0,1,0,0,1,0,1,1,1],λe=>⟨qz (gL .row e 0 0) (gI e 3 0) (gI e 3 1) (gI e 3 2) (gI e 3 3) (gI e 3 4) (gL .row e 5 0) (gB e 6 0) (gI e 7 0) (gI e 8 0)⟩)] ⟨λ_=>⟨rfl,zam G⟩,trivial⟩ [(6,[0,3,5,6,7,8]),(10,[0,3,5,6,7,37]),(11,[0,3,5,7]),(12,[0,3,5,7]),(13,[0,3,5,6,7]),(14,[0,3,5,6,7])] (rz x y z a b c d f g)
def gq(a:LR)(x:Row)(b:Int)(c:LR)(d:Bool)(y:Int):TX LR (Int×LR×Bool×Int) (Int×LR×Bool):=.c (cmp .lss y (ba .row a)) (.s (fq a x.Key x.Val x.At.A x.At.B b c d y) (λz=>.l (.n (z.1,z.2.1,z.2.2,(ar .add .i64 y 1)))) nE nE nE)
 (.l (.x (b,c,d)))
def Nh:=λx y z a b c=>(gq x y z a b c).val
def mj:=λx y z a b c=>(gq x y z a b c).ob
def CO:=λy x z a b c=>Ba (Nh y x z a b c) (mj y x z a b c) [0,0,1,0,1,1,1] (λq=>[(0,.S .row y),(3,.B [x.Key,x.Val,x.At.A,x.At.B,q.1]),(5,.A .row q.2.1),(6,.O q.2.2.1),(7,.I q.2.2.2)]) (z,a,b,c) dl (λq=>(0,[(3,.B [x.Key,x.Val,x.At.A,x.At.B,q.1]),(5,.A .row q.2.1),(6,.O q.2.2)])) nE nE
theorem Bam(G:Gd Mh){fr x y z a b c}:lj fr (CO x y z a b c):=ia G [([0,1,0,0,1,0,1,1,1],λe=>⟨fq (gL .row e 0 0) (gI e 3 0) (gI e 3 1) (gI e 3 2) (gI e 3 3) (gI e 3 4) (gL .row e 5 0) (gB e 6 0) (gI e 7 0)⟩)] ⟨λ_=>⟨rfl,Aam G⟩,trivial⟩ [(4,[0,3,5,6,7,13]),(5,[0,3,5,6,7])] (gq x y z a b c)
def E6:=λy x=>lpV (λs:Int×LR×Bool×Int=>da (Nh y x s.1 s.2.1 s.2.2.1 s.2.2.2)) (x.Diff,[],false,0)
def G6:=λy x=>LpT (λs:Int×LR×Bool×Int=>da (Nh y x s.1 s.2.1 s.2.2.1 s.2.2.2)) (λs=>mj y x s.1 s.2.1 s.2.2.1 s.2.2.2) (x.Diff,[],false,0)
def tz:=λy x=>lpS (CO y x x.Diff [] false 0) (E6 y x) (G6 y x)
theorem Cam(G:Gd Mh){fr y x}:lj fr (tz y x):=Ca (λs:Int×LR×Bool×Int=>CO y x s.1 s.2.1 s.2.2.1 s.2.2.2) (x.Diff,[],false,0) λ_=>Bam G
def uz(y:LR)(z:Row):TA LR (Int×LR×Bool):=.s (tz y z) nE (λx=>.l (.n (x.1,x.2.1,x.2.2))) nE nE
def H6:=λx y=>(uz x y).val
def I6:=λx y=>(uz x y).ob
def wz:=λy x=>fa.mk (H6 y x) (I6 y x) [0,1,1,1] [(0,.S .row y),(3,.B [x.Key,x.Val,x.At.A,x.At.B,x.Diff]),(5,.A .row []),(6,.O false)] dl (λq=>[(3,.B [x.Key,x.Val,x.At.A,x.At.B,q.1]),(5,.A .row q.2.1),(6,.O q.2.2)]) nE nE nE
theorem Dam(G:Gd Mh){fr x y}:lj fr (wz x y):=ia G [([0,1,0,1,1,1],λe=>⟨tz (gL .row e 0 0) (gRow e 3)⟩)] ⟨λ_=>⟨rfl,Cam G⟩,trivial⟩ [(3,[0,3,5,6,7])] (uz x y)
def iq(y z a b c:Int)(x:LR)(d:Bool):TA LR LR:=.c (!d) (.w [lim (ba .row x) (ba .row [(Row.mk y z (Time.mk a b) c)])] (.l (.n (x++[(Row.mk y z (Time.mk a b) c)]))))
 (.l (.n x))
def DO:=λx y z a b c d=>(iq x y z a b c d).val
def EO:=λx y z a b c d=>(iq x y z a b c d).ob
def xz:=λx y z a b c d=>fa.mk (DO x y z a b c d) (EO x y z a b c d) [0,1,1,1,1] [(3,.B [x,y,z,a,b]),(5,.A .row c),(6,.O d)] dl (λq=>[(5,.A .row q)]) nE nE nE
theorem Eam(G:Gd Mh){fr x y z a b c d}:lj fr (xz x y z a b c d):=ma G [(15,[3,5,59]),(16,[5])] (iq x y z a b c d)
def yz(z:LR)(x:Row):TN LR:=.s (wz z x) (λy=>.s (xz x.Key x.Val x.At.A x.At.B y.1 y.2.1 y.2.2) (λa=>.l (.r a)) nE nE nE) nE nE nE
def FO:=λx y=>(yz x y).val
def GO:=λx y=>(yz x y).ob
def Fam:=λy x=>fa.mk (FO y x) (GO y x) [] [(0,.S .row y),(1,.agg true [.i x.Key,.i x.Val,.i x.At.A,.i x.At.B,.i x.Diff])] dl nE nE nE nE
theorem Gam(G:Gd Mh){fr x y}:lj fr (Fam x y):=ia G [([0,1,1,1],λe=>⟨wz (gL .row e 0 0) (gRow e 3)⟩),([0,1,1,1,1],λe=>⟨xz (gI e 3 0) (gI e 3 1) (gI e 3 2) (gI e 3 3) (gI e 3 4) (gL .row e 5 0) (gB e 6 0)⟩)] ⟨λ_=>⟨rfl,Dam G⟩,λ_=>⟨rfl,Eam G⟩,trivial⟩ [(0,[0,3]),(1,[0,3,5]),(2,[0,3,5,6]),(17,[4])] (yz x y)
def Az(x:LR)(y:Row):LR:=ocR (FO x y)
def Bz(x:LR)(y:Row):Prop:=GO x y
def JO:Spec:=⟨[(.lst .row),(.st .row)],.one (.acc true) (.lst .row),false,λx=>(Az x.1 x.2.1,0),λx=>Bz x.1 x.2.1⟩
theorem Ham(G:Gd Mh):Con Tryz.prog 101 JO:=va (pts:=[(.lst .row),(.st .row)]) (F:=BO) G λ_ _=>Gam G
def Zg:SP:=[(101,JO)]
abbrev F61:Fnn:=⟨[.tmp 2],.one (.acc true) (.lst .row),none,[]⟩
abbrev fl:LR->RV:=rvF F61
abbrev Oh:=@OkF Tryz.prog tt Tryz.f61 F61 LR
def jq(y z:LR)(x:Int):TX LR (LR×Int) LR:=.c (cmp .lss x (ba .row y)) (.w [inb x (ba .row y),Bz z (rd .row y x)] (.l (.n ((Az z (rd .row y x)),(ar .add .i64 x 1)))))
 (.l (.x z))
def gl:=λx y z=>(jq x y z).val
def lq:=λx y z=>(jq x y z).ob
def LO:=λx y z=>Ba (gl x y z) (lq x y z) [0,0,1,0,1,1] (λq=>[(0,.S .row x),(3,.A .row q.1),(4,.I q.2)]) (y,z) fl (λq=>(0,[(3,.A .row q)])) nE nE
theorem Iam(G:Gd Zg){fr x y z}:Oh fr (LO x y z):=ma G [(3,[0,3,4,11]),(4,[0,3,4]),(5,[0,3,4])] (jq x y z)
def J6:=λx=>lpV (λs:LR×Int=>da (gl x s.1 s.2)) ([],0)
def L6:=λx=>LpT (λs:LR×Int=>da (gl x s.1 s.2)) (λs=>lq x s.1 s.2) ([],0)
def Cz:=λx=>lpS (LO x [] 0) (J6 x) (L6 x)
theorem Jam(G:Gd Zg){fr x}:Oh fr (Cz x):=Ca (λs:LR×Int=>LO x s.1 s.2) ([],0) λ_=>Iam G
def Dz(x:LR):TA LR LR:=.s (Cz x) nE (λy=>.l (.n y)) nE nE
def O6:=λx=>(Dz x).val
def P6:=λx=>(Dz x).ob
def Ez:=λx=>fa.mk (O6 x) (P6 x) [0,1,1] [(0,.S .row x),(3,.A .row [])] fl (λq=>[(3,.A .row q)]) nE nE nE
theorem Kam(G:Gd Zg){fr x}:Oh fr (Ez x):=ia G [([0,1,0,1,1],λe=>⟨Cz (gL .row e 0 0)⟩)] ⟨λ_=>⟨rfl,Jam G⟩,trivial⟩ [(2,[0,3,4])] (Dz x)
def Gz(x z:LR)(y:Int):TA LR LR:=.w [inb y (ba .row x)] (.c (cmp .neq (rd .row x y).Diff 0) (.w [inb y (ba .row x),lim (ba .row z) (ba .row [(rd .row x y)])] (.l (.n (z++[(rd .row x y)]))))
 (.l (.n z)))
def Q6:=λx y z=>(Gz x y z).val
def R6:=λx y z=>(Gz x y z).ob
def mq:=λx z y=>fa.mk (Q6 x z y) (R6 x z y) [0,1,0,0,1,0,1,1,1,1] [(3,.A .row x),(5,.A .row z),(6,.I y)] fl (λq=>[(3,.A .row x),(5,.A .row q),(6,.I y)]) nE nE nE
theorem Lam(G:Gd Zg){fr x y z}:Oh fr (mq x y z):=ma G [(10,[3,5,6,32]),(11,[3,5,6])] (Gz x y z)
def oq(y z:LR)(x:Int):TX LR (LR×Int) LR:=.c (cmp .lss x (ba .row y)) (.s (mq y z x) (λa=>.l (.n (a,(ar .add .i64 x 1)))) nE nE nE)
 (.l (.x z))
def il:=λx y z=>(oq x y z).val
def pq:=λx y z=>(oq x y z).ob
def MO:=λx y z=>Ba (il x y z) (pq x y z) [0,0,1,0,1,1,1,1] (λq=>[(3,.A .row x),(5,.A .row q.1),(6,.I q.2)]) (y,z) fl (λq=>(2,[(5,.A .row q)])) nE nE
theorem Mam(G:Gd Zg){fr x y z}:Oh fr (MO x y z):=ia G [([0,1,0,0,1,0,1,1,1,1],λe=>⟨mq (gL .row e 3 0) (gL .row e 5 0) (gI e 6 0)⟩)] ⟨λ_=>⟨rfl,Lam G⟩,trivial⟩ [(8,[3,5,6,24]),(9,[3,5,6])] (oq x y z)
def T6:=λx=>lpV (λs:LR×Int=>da (il x s.1 s.2)) ([],0)
def U6:=λx=>LpT (λs:LR×Int=>da (il x s.1 s.2)) (λs=>pq x s.1 s.2) ([],0)
def Hz:=λx=>lpS (MO x [] 0) (T6 x) (U6 x)
theorem Nam(G:Gd Zg){fr x}:Oh fr (Hz x):=Ca (λs:LR×Int=>MO x s.1 s.2) ([],0) λ_=>Mam G
def Iz(x:LR):TA LR LR:=.s (Hz x) nE (λy=>.l (.n y)) nE nE
def V6:=λx=>(Iz x).val
def X6:=λx=>(Iz x).ob
def Jz:=λx=>fa.mk (V6 x) (X6 x) [0,1,1,1,1] [(3,.A .row x),(5,.A .row [])] fl (λq=>[(5,.A .row q)]) nE nE nE
theorem Oam(G:Gd Zg){fr x}:Oh fr (Jz x):=ia G [([0,1,0,1,1,1,1],λe=>⟨Hz (gL .row e 3 0)⟩)] ⟨λ_=>⟨rfl,Nam G⟩,trivial⟩ [(7,[3,5,6])] (Iz x)
def Kz(x:LR):TN LR:=.s (Ez x) (λy=>.s (Jz y) (λz=>.l (.r z)) nE nE nE) nE nE nE
def NO:=λx=>(Kz x).val
def OO:=λx=>(Kz x).ob
def Pam:=λx=>fa.mk (NO x) (OO x) [] [(0,.S .row x)] fl nE nE nE nE
theorem Qam(G:Gd Zg){fr x}:Oh fr (Pam x):=ia G [([0,1,1],λe=>⟨Ez (gL .row e 0 0)⟩),([0,1,1,1,1],λe=>⟨Jz (gL .row e 3 0)⟩)] ⟨λ_=>⟨rfl,Kam G⟩,λ_=>⟨rfl,Oam G⟩,trivial⟩ [(0,[0]),(1,[0,3]),(6,[3,5]),(12,[2])] (Kz x)
def He(x:LR):LR:=ocR (NO x)
def nf(x:LR):Prop:=OO x
def Qf:Spec:=⟨[(.lst .row)],.one (.acc true) (.lst .row),false,λx=>(He x.1,0),λx=>nf x.1⟩
theorem Ram(G:Gd Zg):Con Tryz.prog 61 Qf:=va (pts:=[(.lst .row)]) (F:=F61) G λ_ _=>Qam G
def jl:SP:=[(162,AO),(61,Qf)]
abbrev PO:Fnn:=⟨[.tmp 4],.one (.acc true) (.lst .row),none,[]⟩
abbrev Lz:LR->RV:=rvF PO
abbrev qq:=@OkF Tryz.prog tt Tryz.f130 PO LR
def Mz(x:LR)(b:Int)(a:LR)(y:Int):TA LR LR:=.k (mz (rd .row x y).Key (rd .row x y).Val b) λz=>.w [inb y (ba .row x),inb y (ba .row x),nz (rd .row x y).Key (rd .row x y).Val b] (.c z.2.2.1 (.w [inb y (ba .row x),inb y (ba .row x),lim (ba .row a) (ba .row [(Row.mk z.1 z.2.1 (rd .row x y).At (rd .row x y).Diff)])] (.l (.n (a++[(Row.mk z.1 z.2.1 (rd .row x y).At (rd .row x y).Diff)]))))
 (.l (.n a)))
def Y6:=λx y z a=>(Mz x y z a).val
def Z6:=λx y z a=>(Mz x y z a).ob
def Nz:=λx y a z=>fa.mk (Y6 x y a z) (Z6 x y a z) [0,1,0,0,1,0,1,1] [(0,.S .row x),(1,.I y),(5,.A .row a),(6,.I z)] Lz (λq=>[(0,.S .row x),(1,.I y),(5,.A .row q),(6,.I z)]) nE nE nE
theorem Sam(G:Gd jl){fr x y z a}:qq fr (Nz x y z a):=ma G [(5,[0,1,5,6,7,8,9]),(6,[0,1,5,6,7,8,33]),(7,[0,1,5,6])] (Mz x y z a)
def rq(y:LR)(a:Int)(z:LR)(x:Int):TX LR (LR×Int) LR:=.c (cmp .lss x (ba .row y)) (.s (Nz y a z x) (λb=>.l (.n (b,(ar .add .i64 x 1)))) nE nE nE)
 (.l (.x z))
def kl:=λx y z a=>(rq x y z a).val
def sq:=λx y z a=>(rq x y z a).ob
def QO:=λx y z a=>Ba (kl x y z a) (sq x y z a) [0,0,1,0,1,1] (λq=>[(0,.S .row x),(1,.I y),(5,.A .row q.1),(6,.I q.2)]) (z,a) Lz (λq=>(0,[(5,.A .row q)])) nE nE
theorem Tam(G:Gd jl){fr x y z a}:qq fr (QO x y z a):=ia G [([0,1,0,0,1,0,1,1],λe=>⟨Nz (gL .row e 0 0) (gI e 1 0) (gL .row e 5 0) (gI e 6 0)⟩)] ⟨λ_=>⟨rfl,Sam G⟩,trivial⟩ [(3,[0,1,5,6,14]),(4,[0,1,5,6])] (rq x y z a)
def c7:=λx y=>lpV (λs:LR×Int=>da (kl x y s.1 s.2)) ([],0)
def d7:=λx y=>LpT (λs:LR×Int=>da (kl x y s.1 s.2)) (λs=>sq x y s.1 s.2) ([],0)
def Oz:=λx y=>lpS (QO x y [] 0) (c7 x y) (d7 x y)
theorem Uam(G:Gd jl){fr x y}:qq fr (Oz x y):=Ca (λs:LR×Int=>QO x y s.1 s.2) ([],0) λ_=>Tam G
def Pz(x:LR)(y:Int):TA LR LR:=.s (Oz x y) nE (λz=>.l (.n z)) nE nE
def g7:=λx y=>(Pz x y).val
def i7:=λx y=>(Pz x y).ob
def Qz:=λx y=>fa.mk (g7 x y) (i7 x y) [0,1,1] [(0,.S .row x),(1,.I y),(5,.A .row [])] Lz (λq=>[(5,.A .row q)]) nE nE nE
theorem Vam(G:Gd jl){fr x y}:qq fr (Qz x y):=ia G [([0,1,0,1,1],λe=>⟨Oz (gL .row e 0 0) (gI e 1 0)⟩)] ⟨λ_=>⟨rfl,Uam G⟩,trivial⟩ [(2,[0,1,5,6])] (Pz x y)
def Rz(y:LR)(z:Int):TN LR:=.s (Qz y z) (λx=>.w [nf x] (.l (.r (He x)))) nE nE nE
def RO:=λx y=>(Rz x y).val
def SO:=λx y=>(Rz x y).ob
def Wam:=λx y=>fa.mk (RO x y) (SO x y) [] [(0,.S .row x),(1,.I y)] Lz nE nE nE nE
theorem Xam(G:Gd jl){fr x y}:qq fr (Wam x y):=ia G [([0,1,1],λe=>⟨Qz (gL .row e 0 0) (gI e 1 0)⟩)] ⟨λ_=>⟨rfl,Vam G⟩,trivial⟩ [(0,[0,1]),(1,[0,1,5]),(8,[4])] (Rz x y)
def Sz(x:LR)(y:Int):LR:=ocR (RO x y)
def Tz(x:LR)(y:Int):Prop:=SO x y
def TO:Spec:=⟨[(.lst .row),(.int .i64)],.one (.acc true) (.lst .row),false,λx=>(Sz x.1 x.2.1,0),λx=>Tz x.1 x.2.1⟩
theorem Yam(G:Gd jl):Con Tryz.prog 130 TO:=va (pts:=[(.lst .row),(.int .i64)]) (F:=PO) G λ_ _=>Xam G
def j7:SP:=[(78,cl)]
abbrev UO:Fnn:=⟨[.tmp 2],.one .sh (.lst .row),none,[]⟩
abbrev Zam:LR->RV:=rvF UO
abbrev aan:=@OkF Tryz.prog tt Tryz.f102 UO LR
def Uz(x:LR):TN LR:=.w [Lh x] (.c (!(Yg x)) (.l (.r []))
 (.l (.r x)))
def VO:=λx=>(Uz x).val
def WO:=λx=>(Uz x).ob
def ban:=λx=>fa.mk (VO x) (WO x) [] [(0,.S .row x)] Zam nE nE nE nE
theorem dan(G:Gd j7){fr x}:aan fr (ban x):=ma G [(0,[0]),(1,[0,5]),(2,[2]),(3,[2])] (Uz x)
def tq(x:LR):LR:=ocR (VO x)
def uq(x:LR):Prop:=WO x
def Vz:Spec:=⟨[(.lst .row)],.one .sh (.lst .row),false,λx=>(tq x.1,0),λx=>uq x.1⟩
theorem ean(G:Gd j7):Con Tryz.prog 102 Vz:=va (pts:=[(.lst .row)]) (F:=UO) G λ_ _=>dan G
def vq:SP:=[(93,fj),(61,Qf),(102,Vz)]
abbrev F62:Fnn:=⟨[.tmp 2],.one .sh (.lst .row),none,[]⟩
abbrev XO:LR->RV:=rvF F62
abbrev Wz:=@OkF Tryz.prog tt Tryz.f62 F62 LR
def wq(x z:LR)(y:Int):TX LR (LR×Int) LR:=.w [((cmp .lss y (ba .row x))&&true)=true->(Kh x)] (.c (cond (cmp .lss y (ba .row x)) (Wg x) false) (.w [inb y (ba .row x)] (.w [lim (ba .row z) (ba .row [(Row.mk (rd .row x y).Key (rd .row x y).Val (rd .row x y).At (IntKind.wrap .i64 (0 - (rd .row x y).Diff)))])] (.l (.n ((z++[(Row.mk (rd .row x y).Key (rd .row x y).Val (rd .row x y).At (IntKind.wrap .i64 (0 - (rd .row x y).Diff)))]),(ar .add .i64 y 1))))))
 (.l (.x z)))
def ll:=λx y z=>(wq x y z).val
def xq:=λx y z=>(wq x y z).ob
def YO:=λx y z=>Ba (ll x y z) (xq x y z) [0,0,1,0,1,1] (λq=>[(0,.S .row x),(3,.A .row q.1),(4,.I q.2)]) (y,z) XO (λq=>(0,[(3,.A .row q)])) nE nE
theorem fan(G:Gd vq){fr x y z}:Wz fr (YO x y z):=ma G [(3,[0,3,4,14]),(4,[0,3,4]),(5,[0,3,4,5]),(6,[0,3,4,5]),(7,[0,3,4])] (wq x y z)
def l7:=λx=>lpV (λs:LR×Int=>da (ll x s.1 s.2)) ([],0)
def m7:=λx=>LpT (λs:LR×Int=>da (ll x s.1 s.2)) (λs=>xq x s.1 s.2) ([],0)
def Xz:=λx=>lpS (YO x [] 0) (l7 x) (m7 x)
theorem gan(G:Gd vq){fr x}:Wz fr (Xz x):=Ca (λs:LR×Int=>YO x s.1 s.2) ([],0) λ_=>fan G
def Yz(x:LR):TA LR LR:=.s (Xz x) nE (λy=>.l (.n y)) nE nE
def t7:=λx=>(Yz x).val
def v7:=λx=>(Yz x).ob
def Zz:=λx=>fa.mk (t7 x) (v7 x) [0,1,1] [(0,.S .row x),(3,.A .row [])] XO (λq=>[(3,.A .row q)]) nE nE nE
theorem han(G:Gd vq){fr x}:Wz fr (Zz x):=ia G [([0,1,0,1,1],λe=>⟨Xz (gL .row e 0 0)⟩)] ⟨λ_=>⟨rfl,gan G⟩,trivial⟩ [(2,[0,3,4])] (Yz x)
def aA(y:LR):TN LR:=.s (Zz y) (λx=>.w [nf x,uq (He x)] (.l (.r (tq (He x))))) nE nE nE
def ZO:=λx=>(aA x).val
def aP:=λx=>(aA x).ob
def ian:=λx=>fa.mk (ZO x) (aP x) [] [(0,.S .row x)] XO nE nE nE nE
theorem jan(G:Gd vq){fr x}:Wz fr (ian x):=ia G [([0,1,1],λe=>⟨Zz (gL .row e 0 0)⟩)] ⟨λ_=>⟨rfl,han G⟩,trivial⟩ [(0,[0]),(1,[0,3]),(8,[2])] (aA x)
def nj(x:LR):LR:=ocR (ZO x)
def yq(x:LR):Prop:=aP x
def bA:Spec:=⟨[(.lst .row)],.one .sh (.lst .row),false,λx=>(nj x.1,0),λx=>yq x.1⟩
theorem kan(G:Gd vq):Con Tryz.prog 62 bA:=va (pts:=[(.lst .row)]) (F:=F62) G λ_ _=>jan G
def z7:SP:=[]
abbrev bP:Fnn:=⟨[.tmp 4],.one .fr (.int .i64),none,[]⟩
abbrev lan:Int->RV:=rvF bP
abbrev man:=@OkF Tryz.prog tt Tryz.f163 bP Int
def cP(x y:Int):TN Int:=.w [(100:Int)≠0] (.l (.r (ar .rem .i64 (ar .add .i64 (ar .mul .i64 x 10) y) 100)))
def A7:=λx y=>(cP x y).val
def B7:=λx y=>(cP x y).ob
def nan:=λx y=>fa.mk (A7 x y) (B7 x y) [] [(0,.I x),(1,.I y)] lan nE nE nE nE
theorem oan(G:Gd z7){fr x y}:man fr (nan x y):=ma G [(0,[0,1]),(1,[4])] (cP x y)
def dP(x:Int)(y:Int):Int:=ocR (A7 x y)
def eP(x:Int)(y:Int):Prop:=B7 x y
def fP:Spec:=⟨[(.int .i64),(.int .i64)],.one .fr (.int .i64),false,λx=>(dP x.1 x.2.1,0),λx=>eP x.1 x.2.1⟩
theorem pan(G:Gd z7):Con Tryz.prog 163 fP:=va (pts:=[(.int .i64),(.int .i64)]) (F:=bP) G λ_ _=>oan G
def ah:SP:=[(163,fP),(91,Uk),(61,Qf)]
abbrev gP:Fnn:=⟨[.tmp 4],.one (.acc true) (.lst .row),none,[]⟩
abbrev ml:LR->RV:=rvF gP
abbrev Ph:=@OkF Tryz.prog tt Tryz.f131 gP LR
def cA(x z b:LR)(y a:Int):TA LR LR:=.w [inb y (ba .row x),inb a (ba .row z)] (.c (cmp .eql (rd .row x y).Key (rd .row z a).Key) (.k (dP (rd .row x y).Val (rd .row z a).Val) λc=>.k (cj (rd .row x y).At (rd .row z a).At) λd=>.w [inb y (ba .row x),inb y (ba .row x),inb a (ba .row z),eP (rd .row x y).Val (rd .row z a).Val,inb y (ba .row x),inb a (ba .row z),Vg (rd .row x y).At (rd .row z a).At,inb y (ba .row x),inb a (ba .row z),lim (ba .row b) (ba .row [(Row.mk (rd .row x y).Key c d (ar .mul .i64 (rd .row x y).Diff (rd .row z a).Diff))])] (.l (.n (b++[(Row.mk (rd .row x y).Key c d (ar .mul .i64 (rd .row x y).Diff (rd .row z a).Diff))]))))
 (.l (.n b)))
def G7:=λx y z a b=>(cA x y z a b).val
def H7:=λx y z a b=>(cA x y z a b).ob
def eA:=λx y b z a=>fa.mk (G7 x y b z a) (H7 x y b z a) [0,1,0,0,1,0,0,1,0,0,1,0,1,1] [(0,.S .row x),(1,.S .row y),(5,.A .row b),(6,.I z),(7,.I a)] ml (λq=>[(0,.S .row x),(1,.S .row y),(5,.A .row q),(6,.I z),(7,.I a)]) nE nE nE
theorem qan(G:Gd ah){fr x y z a b}:Ph fr (eA x y z a b):=ma G [(8,[0,1,5,6,7,31]),(9,[0,1,5,6,7])] (cA x y z a b)
def zq(a y _:LR)(b:Int)(z:LR)(x:Int):TX LR (LR×Int) LR:=.c (cmp .lss x (ba .row y)) (.s (eA a y z b x) (λc=>.l (.n (c,(ar .add .i64 x 1)))) nE nE nE)
 (.l (.x z))
def ol:=λx y z a b c=>(zq x y z a b c).val
def Aq:=λx y z a b c=>(zq x y z a b c).ob
def iP:=λx y c z a b=>Ba (ol x y c z a b) (Aq x y c z a b) [0,0,1,0,0,1,0,0,1,0,1,1] (λq=>[(0,.S .row x),(1,.S .row y),(5,.A .row q.1),(6,.I z),(7,.I q.2)]) (a,b) ml (λq=>(2,[(0,.S .row x),(1,.S .row y),(5,.A .row q),(6,.I z)])) nE nE
theorem ran(G:Gd ah){fr x y z a b c}:Ph fr (iP x y z a b c):=ia G [([0,1,0,0,1,0,0,1,0,0,1,0,1,1],λe=>⟨eA (gL .row e 0 0) (gL .row e 1 0) (gL .row e 5 0) (gI e 6 0) (gI e 7 0)⟩)] ⟨λ_=>⟨rfl,qan G⟩,trivial⟩ [(6,[0,1,5,6,7,18]),(7,[0,1,5,6,7])] (zq x y z a b c)
def I7:=λy z x a=>lpV (λs:LR×Int=>da (ol y z x a s.1 s.2)) (x,0)
def J7:=λy z x a=>LpT (λs:LR×Int=>da (ol y z x a s.1 s.2)) (λs=>Aq y z x a s.1 s.2) (x,0)
def fA:=λy z x a=>lpS (iP y z x a x 0) (I7 y z x a) (J7 y z x a)
theorem san(G:Gd ah){fr y z x a}:Ph fr (fA y z x a):=Ca (λs:LR×Int=>iP y z x a s.1 s.2) (x,0) λ_=>ran G
def gA(x y z:LR)(a:Int):TA LR LR:=.s (fA x y z a) nE (λb=>.l (.n b)) nE nE
def L7:=λx y z a=>(gA x y z a).val
def O7:=λx y z a=>(gA x y z a).ob
def iA:=λx y a z=>fa.mk (L7 x y a z) (O7 x y a z) [0,1,0,0,1,0,1,1] [(0,.S .row x),(1,.S .row y),(5,.A .row a),(6,.I z)] ml (λq=>[(0,.S .row x),(1,.S .row y),(5,.A .row q),(6,.I z)]) nE nE nE
theorem tan(G:Gd ah){fr x y z a}:Ph fr (iA x y z a):=ia G [([0,1,0,0,1,0,0,1,0,1,1],λe=>⟨fA (gL .row e 0 0) (gL .row e 1 0) (gL .row e 5 0) (gI e 6 0)⟩)] ⟨λ_=>⟨rfl,san G⟩,trivial⟩ [(5,[0,1,5,6,7])] (gA x y z a)
def Bq(y a z:LR)(x:Int):TX LR (LR×Int) LR:=.c (cmp .lss x (ba .row y)) (.s (iA y a z x) (λb=>.l (.n (b,(ar .add .i64 x 1)))) nE nE nE)
 (.l (.x z))
def ql:=λx y z a=>(Bq x y z a).val
def Cq:=λx y z a=>(Bq x y z a).ob
def jP:=λx y z a=>Ba (ql x y z a) (Cq x y z a) [0,0,1,0,1,1] (λq=>[(0,.S .row x),(1,.S .row y),(5,.A .row q.1),(6,.I q.2)]) (z,a) ml (λq=>(0,[(5,.A .row q)])) nE nE
theorem uan(G:Gd ah){fr x y z a}:Ph fr (jP x y z a):=ia G [([0,1,0,0,1,0,1,1],λe=>⟨iA (gL .row e 0 0) (gL .row e 1 0) (gL .row e 5 0) (gI e 6 0)⟩)] ⟨λ_=>⟨rfl,tan G⟩,trivial⟩ [(3,[0,1,5,6,12]),(4,[0,1,5,6])] (Bq x y z a)
def P7:=λx y=>lpV (λs:LR×Int=>da (ql x y s.1 s.2)) ([],0)
def Q7:=λx y=>LpT (λs:LR×Int=>da (ql x y s.1 s.2)) (λs=>Cq x y s.1 s.2) ([],0)
def jA:=λx y=>lpS (jP x y [] 0) (P7 x y) (Q7 x y)
theorem van(G:Gd ah){fr x y}:Ph fr (jA x y):=Ca (λs:LR×Int=>jP x y s.1 s.2) ([],0) λ_=>uan G
def kA(x y:LR):TA LR LR:=.s (jA x y) nE (λz=>.l (.n z)) nE nE
def R7:=λx y=>(kA x y).val
def T7:=λx y=>(kA x y).ob
def lA:=λx y=>fa.mk (R7 x y) (T7 x y) [0,1,1] [(0,.S .row x),(1,.S .row y),(5,.A .row [])] ml (λq=>[(5,.A .row q)]) nE nE nE
theorem wan(G:Gd ah){fr x y}:Ph fr (lA x y):=ia G [([0,1,0,1,1],λe=>⟨jA (gL .row e 0 0) (gL .row e 1 0)⟩)] ⟨λ_=>⟨rfl,van G⟩,trivial⟩ [(2,[0,1,5,6])] (kA x y)
def mA(y z:LR):TN LR:=.s (lA y z) (λx=>.w [nf x] (.l (.r (He x)))) nE nE nE
def kP:=λx y=>(mA x y).val
def lP:=λx y=>(mA x y).ob
def xan:=λx y=>fa.mk (kP x y) (lP x y) [] [(0,.S .row x),(1,.S .row y)] ml nE nE nE nE
theorem yan(G:Gd ah){fr x y}:Ph fr (xan x y):=ia G [([0,1,1],λe=>⟨lA (gL .row e 0 0) (gL .row e 1 0)⟩)] ⟨λ_=>⟨rfl,wan G⟩,trivial⟩ [(0,[0,1]),(1,[0,1,5]),(10,[4])] (mA x y)
def nA(x:LR)(y:LR):LR:=ocR (kP x y)
def oA(x:LR)(y:LR):Prop:=lP x y
def mP:Spec:=⟨[(.lst .row),(.lst .row)],.one (.acc true) (.lst .row),false,λx=>(nA x.1 x.2.1,0),λx=>oA x.1 x.2.1⟩
theorem zan(G:Gd ah):Con Tryz.prog 131 mP:=va (pts:=[(.lst .row),(.lst .row)]) (F:=gP) G λ_ _=>yan G
def Dq:SP:=[]
abbrev nP:Fnn:=⟨[.tmp 4],.one .fr .bool,none,[]⟩
abbrev oP:Bool->RV:=rvF nP
abbrev pA:=@OkF Tryz.prog tt Tryz.f174 nP Bool
def Eq(y:List Time)(z:Time)(x:Int):TX Bool Int Unit:=.c (cmp .lss x (ba .time y)) (.w [inb x (ba .time y)] (.c (cmp .eql (rd .time y x).A z.A&&(cmp .eql (rd .time y x).B z.B&&true)) (.l (.r true))
 (.l (.n (ar .add .i64 x 1)))))
 (.l (.x ()))
def rl:=λx y z=>(Eq x y z).val
def Fq:=λx y z=>(Eq x y z).ob
def pP:=λy x z=>Ba (rl y x z) (Fq y x z) [0,0,1,0,1] (λq=>[(0,.S .time y),(3,.B [x.A,x.B]),(5,.I q)]) z oP (λ_=>(0,[])) nE nE
theorem Aan(G:Gd Dq){fr x y z}:pA fr (pP x y z):=ma G [(2,[0,3,5,9]),(3,[0,3,5]),(4,[0,3,5,17]),(5,[4])] (Eq x y z)
def U7:=λx y=>lpV (λs:Int=>da (rl x y s)) 0
def V7:=λx y=>LpT (λs:Int=>da (rl x y s)) (λs=>Fq x y s) 0
def qA:=λx y=>lpS (pP x y 0) (U7 x y) (V7 x y)
theorem Ban(G:Gd Dq){fr x y}:pA fr (qA x y):=Ca (λs:Int=>pP x y s) 0 λ_=>Aan G
def rA(x:List Time)(y:Time):TA Bool Unit:=.s (qA x y) nE (λ_=>.l (.n ())) nE nE
def X7:=λx y=>(rA x y).val
def Y7:=λx y=>(rA x y).ob
def sA:=λy x=>fa.mk (X7 y x) (Y7 y x) [0,1] [(0,.S .time y),(3,.B [x.A,x.B])] oP (λ_=>[]) nE nE nE
theorem Can(G:Gd Dq){fr x y}:pA fr (sA x y):=ia G [([0,1,0,1],λe=>⟨qA (gL .time e 0 0) (Uc e 3)⟩)] ⟨λ_=>⟨rfl,Ban G⟩,trivial⟩ [(1,[0,3,5])] (rA x y)
def tA(x:List Time)(y:Time):TN Bool:=.s (sA x y) (λ_=>.l (.r false)) nE nE nE
def qP:=λx y=>(tA x y).val
def rP:=λx y=>(tA x y).ob
def Dan:=λy x=>fa.mk (qP y x) (rP y x) [] [(0,.S .time y),(1,.agg true [.i x.A,.i x.B])] oP nE nE nE nE
theorem Ean(G:Gd Dq){fr x y}:pA fr (Dan x y):=ia G [([0,1],λe=>⟨sA (gL .time e 0 0) (Uc e 3)⟩)] ⟨λ_=>⟨rfl,Can G⟩,trivial⟩ [(0,[0,3]),(6,[4])] (tA x y)
def tl(x:List Time)(y:Time):Bool:=ocR (qP x y)
def ul(x:List Time)(y:Time):Prop:=rP x y
def sP:Spec:=⟨[(.lst .time),(.st .time)],.one .fr .bool,false,λx=>(tl x.1 x.2.1,0),λx=>ul x.1 x.2.1⟩
theorem Fan(G:Gd Dq):Con Tryz.prog 174 sP:=va (pts:=[(.lst .time),(.st .time)]) (F:=nP) G λ_ _=>Ean G
def Yc:SP:=[(93,fj),(174,sP),(91,Uk)]
abbrev tP:Fnn:=⟨[.tmp 4],.one (.acc true) (.lst .time),none,[]⟩
abbrev Ie:List Time->RV:=rvF tP
abbrev fd:=@OkF Tryz.prog tt Tryz.f171 tP (List Time)
def uA(x:LR)(a:Int)(z:List Time)(y:Int):TA (List Time) ((List Time)):=.w [inb y (ba .row x),((cmp .eql (rd .row x y).Key a)&&true)=true->inb y (ba .row x),((cmp .eql (rd .row x y).Key a)&&true)=true->(ul z (rd .row x y).At)] (.c (cond (cmp .eql (rd .row x y).Key a) (!(tl z (rd .row x y).At)) false) (.w [inb y (ba .row x),lim (ba .time z) (ba .time [(rd .row x y).At])] (.l (.n (z++[(rd .row x y).At]))))
 (.l (.n z)))
def Z7:=λx y z a=>(uA x y z a).val
def c8:=λx y z a=>(uA x y z a).ob
def vA:=λx y a z=>fa.mk (Z7 x y a z) (c8 x y a z) [0,1,0,0,1,0,1,1] [(0,.S .row x),(1,.I y),(5,.A .time a),(6,.I z)] Ie (λq=>[(0,.S .row x),(1,.I y),(5,.A .time q),(6,.I z)]) nE nE nE
theorem Gan(G:Gd Yc){fr x y z a}:fd fr (vA x y z a):=ma G [(5,[0,1,5,6,40]),(6,[0,1,5,6])] (uA x y z a)
def Gq(x:LR)(a:Int)(z:List Time)(y:Int):TX (List Time) ((List Time)×Int) ((List Time)):=.w [((cmp .lss y (ba .row x))&&true)=true->(Kh x)] (.c (cond (cmp .lss y (ba .row x)) (Wg x) false) (.s (vA x a z y) (λb=>.l (.n (b,(ar .add .i64 y 1)))) nE nE nE)
 (.l (.x z)))
def vl:=λx y z a=>(Gq x y z a).val
def Hq:=λx y z a=>(Gq x y z a).ob
def uP:=λx y z a=>Ba (vl x y z a) (Hq x y z a) [0,0,1,0,1,1] (λq=>[(0,.S .row x),(1,.I y),(5,.A .time q.1),(6,.I q.2)]) (z,a) Ie (λq=>(0,[(5,.A .time q)])) nE nE
theorem Han(G:Gd Yc){fr x y z a}:fd fr (uP x y z a):=ia G [([0,1,0,0,1,0,1,1],λe=>⟨vA (gL .row e 0 0) (gI e 1 0) (gL .time e 5 0) (gI e 6 0)⟩)] ⟨λ_=>⟨rfl,Gan G⟩,trivial⟩ [(3,[0,1,5,6,21]),(4,[0,1,5,6])] (Gq x y z a)
def d8:=λx y=>lpV (λs:(List Time)×Int=>da (vl x y s.1 s.2)) ([],0)
def g8:=λx y=>LpT (λs:(List Time)×Int=>da (vl x y s.1 s.2)) (λs=>Hq x y s.1 s.2) ([],0)
def wA:=λx y=>lpS (uP x y [] 0) (d8 x y) (g8 x y)
theorem Ian(G:Gd Yc){fr x y}:fd fr (wA x y):=Ca (λs:(List Time)×Int=>uP x y s.1 s.2) ([],0) λ_=>Han G
def xA(x:LR)(y:Int):TA (List Time) ((List Time)):=.s (wA x y) nE (λz=>.l (.n z)) nE nE
def j8:=λx y=>(xA x y).val
def l8:=λx y=>(xA x y).ob
def yA:=λx y=>fa.mk (j8 x y) (l8 x y) [0,1,1] [(0,.S .row x),(1,.I y),(5,.A .time [])] Ie (λq=>[(5,.A .time q)]) nE nE nE
theorem Jan(G:Gd Yc){fr x y}:fd fr (yA x y):=ia G [([0,1,0,1,1],λe=>⟨wA (gL .row e 0 0) (gI e 1 0)⟩)] ⟨λ_=>⟨rfl,Ian G⟩,trivial⟩ [(2,[0,1,5,6])] (xA x y)
def zA(x:List Time)(z a:Int):TA (List Time) ((List Time)):=.k (cj (rd .time x z) (rd .time x a)) λy=>.w [inb z (ba .time x),inb a (ba .time x),Vg (rd .time x z) (rd .time x a)] (.w [ul x y] (.c (!(tl x y)) (.w [lim (ba .time x) (ba .time [y])] (.l (.n (x++[y]))))
 (.l (.n x))))
def m8:=λx y z=>(zA x y z).val
def n8:=λx y z=>(zA x y z).ob
def AA:=λz x y=>fa.mk (m8 z x y) (n8 z x y) [0,1,0,0,1,0,0,1,0,0,1,0,1,1,1] [(5,.A .time z),(7,.I x),(8,.I y)] Ie (λq=>[(5,.A .time q),(7,.I x),(8,.I y)]) nE nE nE
theorem Kan(G:Gd Yc){fr x y z}:fd fr (AA x y z):=ma G [(13,[5,7,8,9]),(14,[5,7,8,9,72]),(15,[5,7,8])] (zA x y z)
def Iq(_:List Time)(y:Int)(z:List Time)(x:Int):TX (List Time) ((List Time)×Int) ((List Time)):=.c (cmp .lss x y) (.s (AA z y x) (λa=>.l (.n (a,(ar .add .i64 x 1)))) nE nE nE)
 (.l (.x z))
def wl:=λx y z a=>(Iq x y z a).val
def Jq:=λx y z a=>(Iq x y z a).ob
def vP:=λa x y z=>Ba (wl a x y z) (Jq a x y z) [0,0,1,0,0,1,0,0,1,0,1,1,1] (λq=>[(5,.A .time q.1),(7,.I x),(8,.I q.2)]) (y,z) Ie (λq=>(4,[(5,.A .time q),(7,.I x)])) nE nE
theorem Lan(G:Gd Yc){fr x y z a}:fd fr (vP x y z a):=ia G [([0,1,0,0,1,0,0,1,0,0,1,0,1,1,1],λe=>⟨AA (gL .time e 5 0) (gI e 7 0) (gI e 8 0)⟩)] ⟨λ_=>⟨rfl,Kan G⟩,trivial⟩ [(11,[5,7,8,57]),(12,[5,7,8])] (Iq x y z a)
def t8:=λx y=>lpV (λs:(List Time)×Int=>da (wl x y s.1 s.2)) (x,0)
def v8:=λx y=>LpT (λs:(List Time)×Int=>da (wl x y s.1 s.2)) (λs=>Jq x y s.1 s.2) (x,0)
def BA:=λx y=>lpS (vP x y x 0) (t8 x y) (v8 x y)
theorem Man(G:Gd Yc){fr x y}:fd fr (BA x y):=Ca (λs:(List Time)×Int=>vP x y s.1 s.2) (x,0) λ_=>Lan G
def CA(x:List Time)(y:Int):TA (List Time) ((List Time)):=.s (BA x y) nE (λz=>.l (.n z)) nE nE
def z8:=λx y=>(CA x y).val
def A8:=λx y=>(CA x y).ob
def FA:=λy x=>fa.mk (z8 y x) (A8 y x) [0,1,0,0,1,0,1,1,1] [(5,.A .time y),(7,.I x)] Ie (λq=>[(5,.A .time q),(7,.I x)]) nE nE nE
theorem Nan(G:Gd Yc){fr x y}:fd fr (FA x y):=ia G [([0,1,0,0,1,0,0,1,0,1,1,1],λe=>⟨BA (gL .time e 5 0) (gI e 7 0)⟩)] ⟨λ_=>⟨rfl,Man G⟩,trivial⟩ [(10,[5,7,8])] (CA x y)
def Kq(_ x:List Time)(y:Int):TX (List Time) ((List Time)×Int) ((List Time)):=.c (cmp .lss y (ba .time x)) (.s (FA x y) (λz=>.l (.n (z,(ar .add .i64 y 1)))) nE nE nE)
 (.l (.x x))
def xl:=λx y z=>(Kq x y z).val
def Lq:=λx y z=>(Kq x y z).ob
def wP:=λz x y=>Ba (xl z x y) (Lq z x y) [0,0,1,0,1,1,1] (λq=>[(5,.A .time q.1),(7,.I q.2)]) (x,y) Ie (λq=>(2,[(5,.A .time q)])) nE nE
theorem Oan(G:Gd Yc){fr x y z}:fd fr (wP x y z):=ia G [([0,1,0,0,1,0,1,1,1],λe=>⟨FA (gL .time e 5 0) (gI e 7 0)⟩)] ⟨λ_=>⟨rfl,Nan G⟩,trivial⟩ [(8,[5,7,52]),(9,[5,7])] (Kq x y z)
def B8:=λx=>lpV (λs:(List Time)×Int=>da (xl x s.1 s.2)) (x,0)
def D8:=λx=>LpT (λs:(List Time)×Int=>da (xl x s.1 s.2)) (λs=>Lq x s.1 s.2) (x,0)
def GA:=λx=>lpS (wP x x 0) (B8 x) (D8 x)
theorem Pan(G:Gd Yc){fr x}:fd fr (GA x):=Ca (λs:(List Time)×Int=>wP x s.1 s.2) (x,0) λ_=>Oan G
def HA(x:List Time):TA (List Time) ((List Time)):=.s (GA x) nE (λy=>.l (.n y)) nE nE
def E8:=λx=>(HA x).val
def G8:=λx=>(HA x).ob
def IA:=λx=>fa.mk (E8 x) (G8 x) [0,1,1,1] [(5,.A .time x)] Ie (λq=>[(5,.A .time q)]) nE nE nE
theorem Qan(G:Gd Yc){fr x}:fd fr (IA x):=ia G [([0,1,0,1,1,1],λe=>⟨GA (gL .time e 5 0)⟩)] ⟨λ_=>⟨rfl,Pan G⟩,trivial⟩ [(7,[5,7])] (HA x)
def JA(a z:List Time)(x y:Int):TA (List Time) ((List Time)):=.w [ul a (Time.mk x y)] (.c (tl a (Time.mk x y)) (.w [lim (ba .time z) (ba .time [(Time.mk x y)])] (.l (.n (z++[(Time.mk x y)]))))
 (.l (.n z)))
def H8:=λx y z a=>(JA x y z a).val
def I8:=λx y z a=>(JA x y z a).ob
def PA:=λx a y z=>fa.mk (H8 x a y z) (I8 x a y z) [0,1,0,0,1,0,0,1,0,0,1,0,1,1,1,1,1] [(5,.A .time x),(10,.A .time a),(11,.I y),(12,.I z)] Ie (λq=>[(5,.A .time x),(10,.A .time q),(11,.I y),(12,.I z)]) nE nE nE
theorem Ran(G:Gd Yc){fr x y z a}:fd fr (PA x y z a):=ma G [(23,[5,10,11,12,90]),(24,[5,10,11,12])] (JA x y z a)
def Mq(z _:List Time)(a:Int)(y:List Time)(x:Int):TX (List Time) ((List Time)×Int) ((List Time)):=.c (cmp .leq x 7) (.s (PA z y a x) (λb=>.l (.n (b,(ar .add .i64 x 1)))) nE nE nE)
 (.l (.x y))
def pj:=λx y z a b=>(Mq x y z a b).val
def yl:=λx y z a b=>(Mq x y z a b).ob
def xP:=λx b y z a=>Ba (pj x b y z a) (yl x b y z a) [0,0,1,0,0,1,0,0,1,0,1,1,1,1,1] (λq=>[(5,.A .time x),(10,.A .time q.1),(11,.I y),(12,.I q.2)]) (z,a) Ie (λq=>(8,[(5,.A .time x),(10,.A .time q),(11,.I y)])) nE nE
theorem San(G:Gd Yc){fr x y z a b}:fd fr (xP x y z a b):=ia G [([0,1,0,0,1,0,0,1,0,0,1,0,1,1,1,1,1],λe=>⟨PA (gL .time e 5 0) (gL .time e 10 0) (gI e 11 0) (gI e 12 0)⟩)] ⟨λ_=>⟨rfl,Ran G⟩,trivial⟩ [(21,[5,10,11,12,83]),(22,[5,10,11,12])] (Mq x y z a b)
def J8:=λy x z=>lpV (λs:(List Time)×Int=>da (pj y x z s.1 s.2)) (x,0)
def L8:=λy x z=>LpT (λs:(List Time)×Int=>da (pj y x z s.1 s.2)) (λs=>yl y x z s.1 s.2) (x,0)
def RA:=λy x z=>lpS (xP y x z x 0) (J8 y x z) (L8 y x z)
theorem Tan(G:Gd Yc){fr y x z}:fd fr (RA y x z):=Ca (λs:(List Time)×Int=>xP y x z s.1 s.2) (x,0) λ_=>San G
def SA(x y:List Time)(z:Int):TA (List Time) ((List Time)):=.s (RA x y z) nE (λa=>.l (.n a)) nE nE
def M8:=λx y z=>(SA x y z).val
def O8:=λx y z=>(SA x y z).ob
def UA:=λx z y=>fa.mk (M8 x z y) (O8 x z y) [0,1,0,0,1,0,1,1,1,1,1] [(5,.A .time x),(10,.A .time z),(11,.I y)] Ie (λq=>[(5,.A .time x),(10,.A .time q),(11,.I y)]) nE nE nE
theorem Uan(G:Gd Yc){fr x y z}:fd fr (UA x y z):=ia G [([0,1,0,0,1,0,0,1,0,1,1,1,1,1],λe=>⟨RA (gL .time e 5 0) (gL .time e 10 0) (gI e 11 0)⟩)] ⟨λ_=>⟨rfl,Tan G⟩,trivial⟩ [(20,[5,10,11,12])] (SA x y z)
def Nq(z y:List Time)(x:Int):TX (List Time) ((List Time)×Int) ((List Time)):=.c (cmp .leq x 7) (.s (UA z y x) (λa=>.l (.n (a,(ar .add .i64 x 1)))) nE nE nE)
 (.l (.x y))
def zl:=λx y z=>(Nq x y z).val
def Oq:=λx y z=>(Nq x y z).ob
def yP:=λx y z=>Ba (zl x y z) (Oq x y z) [0,0,1,0,1,1,1,1,1] (λq=>[(5,.A .time x),(10,.A .time q.1),(11,.I q.2)]) (y,z) Ie (λq=>(6,[(10,.A .time q)])) nE nE
theorem Van(G:Gd Yc){fr x y z}:fd fr (yP x y z):=ia G [([0,1,0,0,1,0,1,1,1,1,1],λe=>⟨UA (gL .time e 5 0) (gL .time e 10 0) (gI e 11 0)⟩)] ⟨λ_=>⟨rfl,Uan G⟩,trivial⟩ [(18,[5,10,11,79]),(19,[5,10,11])] (Nq x y z)
def P8:=λx=>lpV (λs:(List Time)×Int=>da (zl x s.1 s.2)) ([],0)
def Q8:=λx=>LpT (λs:(List Time)×Int=>da (zl x s.1 s.2)) (λs=>Oq x s.1 s.2) ([],0)
def VA:=λx=>lpS (yP x [] 0) (P8 x) (Q8 x)
theorem Wan(G:Gd Yc){fr x}:fd fr (VA x):=Ca (λs:(List Time)×Int=>yP x s.1 s.2) ([],0) λ_=>Van G
def WA(x:List Time):TA (List Time) ((List Time)):=.s (VA x) nE (λy=>.l (.n y)) nE nE
def R8:=λx=>(WA x).val
def S8:=λx=>(WA x).ob
def XA:=λx=>fa.mk (R8 x) (S8 x) [0,1,1,1,1,1] [(5,.A .time x),(10,.A .time [])] Ie (λq=>[(10,.A .time q)]) nE nE nE
theorem Xan(G:Gd Yc){fr x}:fd fr (XA x):=ia G [([0,1,0,1,1,1,1,1],λe=>⟨VA (gL .time e 5 0)⟩)] ⟨λ_=>⟨rfl,Wan G⟩,trivial⟩ [(17,[5,10,11])] (WA x)
def YA(x:LR)(y:Int):TN (List Time):=.s (yA x y) (λz=>.s (IA z) (λa=>.s (XA a) (λb=>.l (.r b)) nE nE nE) nE nE nE) nE nE nE
def zP:=λx y=>(YA x y).val
def AP:=λx y=>(YA x y).ob
def Yan:=λx y=>fa.mk (zP x y) (AP x y) [] [(0,.S .row x),(1,.I y)] Ie nE nE nE nE
theorem Zan(G:Gd Yc){fr x y}:fd fr (Yan x y):=ia G [([0,1,1],λe=>⟨yA (gL .row e 0 0) (gI e 1 0)⟩),([0,1,1,1],λe=>⟨IA (gL .time e 5 0)⟩),([0,1,1,1,1,1],λe=>⟨XA (gL .time e 5 0)⟩)] ⟨λ_=>⟨rfl,Jan G⟩,λ_=>⟨rfl,Qan G⟩,λ_=>⟨rfl,Xan G⟩,trivial⟩ [(0,[0,1]),(1,[0,1,5]),(16,[5,10]),(25,[4])] (YA x y)
def ZA(x:LR)(y:Int):List Time:=ocR (zP x y)
def aB(x:LR)(y:Int):Prop:=AP x y
def BP:Spec:=⟨[(.lst .row),(.int .i64)],.one (.acc true) (.lst .time),false,λx=>(ZA x.1 x.2.1,0),λx=>aB x.1 x.2.1⟩
theorem aao(G:Gd Yc):Con Tryz.prog 171 BP:=va (pts:=[(.lst .row),(.int .i64)]) (F:=tP) G λ_ _=>Zan G
def Qh:SP:=[(61,Qf)]
abbrev F94:Fnn:=⟨[.tmp 2],.one (.acc true) (.lst .item),none,[]⟩
abbrev Pq:LI->RV:=rvF F94
abbrev qj:=@OkF Tryz.prog tt Tryz.f94 F94 LI
def Qq(y:LI)(z:LR)(x:Int):TX LI (LR×Int) LR:=.c (cmp .lss x (ba .item y)) (.w [inb x (ba .item y),inb x (ba .item y),inb x (ba .item y),lim (ba .row z) (ba .row [(Row.mk (rd .item y x).Key (rd .item y x).Val (Time.mk 0 0) (rd .item y x).Count)])] (.l (.n ((z++[(Row.mk (rd .item y x).Key (rd .item y x).Val (Time.mk 0 0) (rd .item y x).Count)]),(ar .add .i64 x 1)))))
 (.l (.x z))
def Al:=λx y z=>(Qq x y z).val
def Rq:=λx y z=>(Qq x y z).ob
def CP:=λx y z=>Ba (Al x y z) (Rq x y z) [0,0,1,0,1,1] (λq=>[(0,.S .item x),(3,.A .row q.1),(4,.I q.2)]) (y,z) Pq (λq=>(0,[(3,.A .row q)])) nE nE
theorem bao(G:Gd Qh){fr x y z}:qj fr (CP x y z):=ma G [(3,[0,3,4,12]),(4,[0,3,4]),(5,[0,3,4])] (Qq x y z)
def U8:=λx=>lpV (λs:LR×Int=>da (Al x s.1 s.2)) ([],0)
def V8:=λx=>LpT (λs:LR×Int=>da (Al x s.1 s.2)) (λs=>Rq x s.1 s.2) ([],0)
def bB:=λx=>lpS (CP x [] 0) (U8 x) (V8 x)
theorem cao(G:Gd Qh){fr x}:qj fr (bB x):=Ca (λs:LR×Int=>CP x s.1 s.2) ([],0) λ_=>bao G
def cB(x:LI):TA LI LR:=.s (bB x) nE (λy=>.l (.n y)) nE nE
def X8:=λx=>(cB x).val
def Y8:=λx=>(cB x).ob
def dB:=λx=>fa.mk (X8 x) (Y8 x) [0,1,1] [(0,.S .item x),(3,.A .row [])] Pq (λq=>[(3,.A .row q)]) nE nE nE
theorem dao(G:Gd Qh){fr x}:qj fr (dB x):=ia G [([0,1,0,1,1],λe=>⟨bB (gL .item e 0 0)⟩)] ⟨λ_=>⟨rfl,cao G⟩,trivial⟩ [(2,[0,3,4])] (cB x)
def Sq(y:LR)(z:LI)(x:Int):TX LI (LI×Int) LI:=.c (cmp .lss x (ba .row y)) (.w [inb x (ba .row y),inb x (ba .row y),inb x (ba .row y),lim (ba .item z) (ba .item [(Item.mk (rd .row y x).Key (rd .row y x).Val (rd .row y x).Diff)])] (.l (.n ((z++[(Item.mk (rd .row y x).Key (rd .row y x).Val (rd .row y x).Diff)]),(ar .add .i64 x 1)))))
 (.l (.x z))
def Bl:=λx y z=>(Sq x y z).val
def Tq:=λx y z=>(Sq x y z).ob
def FP:=λx y z=>Ba (Bl x y z) (Tq x y z) [0,0,1,0,1,1,1,1,1] (λq=>[(5,.A .row x),(6,.A .item q.1),(7,.I q.2)]) (y,z) Pq (λq=>(2,[(6,.A .item q)])) nE nE
theorem eao(G:Gd Qh){fr x y z}:qj fr (FP x y z):=ma G [(9,[5,6,7,40]),(10,[5,6,7]),(11,[5,6,7])] (Sq x y z)
def Z8:=λx=>lpV (λs:LI×Int=>da (Bl x s.1 s.2)) ([],0)
def b9:=λx=>LpT (λs:LI×Int=>da (Bl x s.1 s.2)) (λs=>Tq x s.1 s.2) ([],0)
def eB:=λx=>lpS (FP x [] 0) (Z8 x) (b9 x)
theorem fao(G:Gd Qh){fr x}:qj fr (eB x):=Ca (λs:LI×Int=>FP x s.1 s.2) ([],0) λ_=>eao G
def fB(x:LR):TA LI LI:=.s (eB x) nE (λy=>.l (.n y)) nE nE
def c9:=λx=>(fB x).val
def d9:=λx=>(fB x).ob
def iB:=λx=>fa.mk (c9 x) (d9 x) [0,1,1,1,1,1] [(5,.A .row x),(6,.A .item [])] Pq (λq=>[(6,.A .item q)]) nE nE nE
theorem gao(G:Gd Qh){fr x}:qj fr (iB x):=ia G [([0,1,0,1,1,1,1,1],λe=>⟨eB (gL .row e 5 0)⟩)] ⟨λ_=>⟨rfl,fao G⟩,trivial⟩ [(8,[5,6,7])] (fB x)
def jB(y:LI):TN LI:=.s (dB y) (λx=>.w [nf x] (.s (iB (He x)) (λz=>.l (.r z)) nE nE nE)) nE nE nE
def GP:=λx=>(jB x).val
def HP:=λx=>(jB x).ob
def hao:=λx=>fa.mk (GP x) (HP x) [] [(0,.S .item x)] Pq nE nE nE nE
theorem iao(G:Gd Qh){fr x}:qj fr (hao x):=ia G [([0,1,1],λe=>⟨dB (gL .item e 0 0)⟩),([0,1,1,1,1,1],λe=>⟨iB (gL .row e 5 0)⟩)] ⟨λ_=>⟨rfl,dao G⟩,λ_=>⟨rfl,gao G⟩,trivial⟩ [(0,[0]),(1,[0,3]),(6,[5]),(7,[5,6]),(12,[2])] (jB x)
def Uq(x:LI):LI:=ocR (GP x)
def Vq(x:LI):Prop:=HP x
def kB:Spec:=⟨[(.lst .item)],.one (.acc true) (.lst .item),false,λx=>(Uq x.1,0),λx=>Vq x.1⟩
theorem jao(G:Gd Qh):Con Tryz.prog 94 kB:=va (pts:=[(.lst .item)]) (F:=F94) G λ_ _=>iao G
def Cl:SP:=[(93,fj),(49,Ih),(90,Lk),(94,kB)]
abbrev F50:Fnn:=⟨[.tmp 4],.one (.acc true) (.lst .item),none,[]⟩
abbrev lB:LI->RV:=rvF F50
abbrev Wq:=@OkF Tryz.prog tt Tryz.f50 F50 LI
def mB(x:LR)(a:Time)(z:LI)(y:Int):TA LI LI:=.w [inb y (ba .row x),Kk (rd .row x y).At a] (.c (Zi (rd .row x y).At a) (.w [inb y (ba .row x),inb y (ba .row x),inb y (ba .row x),lim (ba .item z) (ba .item [(Item.mk (rd .row x y).Key (rd .row x y).Val (rd .row x y).Diff)])] (.l (.n (z++[(Item.mk (rd .row x y).Key (rd .row x y).Val (rd .row x y).Diff)]))))
 (.l (.n z)))
def g9:=λx y z a=>(mB x y z a).val
def j9:=λx y z a=>(mB x y z a).ob
def nB:=λy x a z=>fa.mk (g9 y x a z) (j9 y x a z) [0,1,0,0,1,0,1,1,1] [(0,.S .row y),(3,.B [x.A,x.B]),(5,.A .item a),(6,.I z)] lB (λq=>[(0,.S .row y),(3,.B [x.A,x.B]),(5,.A .item q),(6,.I z)]) nE nE nE
theorem kao(G:Gd Cl){fr x y z a}:Wq fr (nB x y z a):=ma G [(7,[0,3,5,6,29]),(8,[0,3,5,6])] (mB x y z a)
def Xq(y:LR)(a:Time)(z:LI)(x:Int):TX LI (LI×Int) LI:=.c (cmp .lss x (ba .row y)) (.s (nB y a z x) (λb=>.l (.n (b,(ar .add .i64 x 1)))) nE nE nE)
 (.l (.x z))
def Dl:=λx y z a=>(Xq x y z a).val
def Yq:=λx y z a=>(Xq x y z a).ob
def IP:=λy x z a=>Ba (Dl y x z a) (Yq y x z a) [0,0,1,0,1,1,1] (λq=>[(0,.S .row y),(3,.B [x.A,x.B]),(5,.A .item q.1),(6,.I q.2)]) (z,a) lB (λq=>(0,[(5,.A .item q)])) nE nE
theorem lao(G:Gd Cl){fr x y z a}:Wq fr (IP x y z a):=ia G [([0,1,0,0,1,0,1,1,1],λe=>⟨nB (gL .row e 0 0) (Uc e 3) (gL .item e 5 0) (gI e 6 0)⟩)] ⟨λ_=>⟨rfl,kao G⟩,trivial⟩ [(5,[0,3,5,6,20]),(6,[0,3,5,6])] (Xq x y z a)
def l9:=λx y=>lpV (λs:LI×Int=>da (Dl x y s.1 s.2)) ([],0)
def m9:=λx y=>LpT (λs:LI×Int=>da (Dl x y s.1 s.2)) (λs=>Yq x y s.1 s.2) ([],0)
def oB:=λx y=>lpS (IP x y [] 0) (l9 x y) (m9 x y)
theorem mao(G:Gd Cl){fr x y}:Wq fr (oB x y):=Ca (λs:LI×Int=>IP x y s.1 s.2) ([],0) λ_=>lao G
def pB(x:LR)(y:Time):TA LI LI:=.s (oB x y) nE (λz=>.l (.n z)) nE nE
def n9:=λx y=>(pB x y).val
def r9:=λx y=>(pB x y).ob
def qB:=λy x=>fa.mk (n9 y x) (r9 y x) [0,1,1,1] [(0,.S .row y),(3,.B [x.A,x.B]),(5,.A .item [])] lB (λq=>[(5,.A .item q)]) nE nE nE
theorem nao(G:Gd Cl){fr x y}:Wq fr (qB x y):=ia G [([0,1,0,1,1,1],λe=>⟨oB (gL .row e 0 0) (Uc e 3)⟩)] ⟨λ_=>⟨rfl,mao G⟩,trivial⟩ [(4,[0,3,5,6])] (pB x y)
def rB(x:LR)(y:Time):TN LI:=.w [Kh x,((!(!(Wg x)))&&true)=true->(vg y)] (.c (cond (!(Wg x)) true (!(qe y))) (.l (.r []))
 (.s (qB x y) (λz=>.w [Vq z] (.l (.r (Uq z)))) nE nE nE))
def JP:=λx y=>(rB x y).val
def OP:=λx y=>(rB x y).ob
def oao:=λy x=>fa.mk (JP y x) (OP y x) [] [(0,.S .row y),(1,.agg true [.i x.A,.i x.B])] lB nE nE nE nE
theorem pao(G:Gd Cl){fr x y}:Wq fr (oao x y):=ia G [([0,1,1,1],λe=>⟨qB (gL .row e 0 0) (Uc e 3)⟩)] ⟨λ_=>⟨rfl,nao G⟩,trivial⟩ [(0,[0,3]),(1,[0,3,5]),(2,[0,3,5,15]),(3,[4]),(9,[4])] (rB x y)
def sB(x:LR)(y:Time):LI:=ocR (JP x y)
def tB(x:LR)(y:Time):Prop:=OP x y
def PP:Spec:=⟨[(.lst .row),(.st .time)],.one (.acc true) (.lst .item),false,λx=>(sB x.1 x.2.1,0),λx=>tB x.1 x.2.1⟩
theorem qao(G:Gd Cl):Con Tryz.prog 50 PP:=va (pts:=[(.lst .row),(.st .time)]) (F:=F50) G λ_ _=>pao G
def w9:SP:=[]
abbrev QP:Fnn:=⟨[.tmp 2],.one .fr (.int .i64),none,[]⟩
abbrev rao:Int->RV:=rvF QP
abbrev sao:=@OkF Tryz.prog tt Tryz.f175 QP Int
def TP(x:Int):TN Int:=.w [(100:Int)≠0,(100:Int)≠0] (.l (.r (ar .rem .i64 (ar .add .i64 (ar .rem .i64 x 100) 100) 100)))
def A9:=λx=>(TP x).val
def B9:=λx=>(TP x).ob
def tao:=λx=>fa.mk (A9 x) (B9 x) [] [(0,.I x)] rao nE nE nE nE
theorem uao(G:Gd w9){fr x}:sao fr (tao x):=ma G [(0,[0]),(1,[2])] (TP x)
def uB(x:Int):Int:=ocR (A9 x)
def UP(x:Int):Prop:=B9 x
def VP:Spec:=⟨[(.int .i64)],.one .fr (.int .i64),false,λx=>(uB x.1,0),λx=>UP x.1⟩
theorem vao(G:Gd w9):Con Tryz.prog 175 VP:=va (pts:=[(.int .i64)]) (F:=QP) G λ_ _=>uao G
def rj:SP:=[(175,VP)]
abbrev WP:Fnn:=⟨[.tmp 6],.one (.acc true) (.lst .item),none,[]⟩
abbrev Zq:LI->RV:=rvF WP
abbrev El:=@OkF Tryz.prog tt Tryz.f172 WP LI
def vB(x:LI)(a c:Int)(z:LI)(b y:Int):TA LI (LI×Int):=.w [inb y (ba .item x)] (.c (cmp .neq (rd .item x y).Key a) (.l (.n (z,b)))
 (.w [inb y (ba .item x)] (.w [inb y (ba .item x)] (.c (cond (cmp .gtr (rd .item x y).Count 0) (cond (cmp .eql c 2) true (cond (cmp .eql c 3) (cmp .eql (ba .item z) 0) false)) false) (.w [inb y (ba .item x),lim (ba .item z) (ba .item [(Item.mk a (rd .item x y).Val 1)])] (.l (.n ((z++[(Item.mk a (rd .item x y).Val 1)]),(ar .add .i64 b (rd .item x y).Count)))))
 (.l (.n (z,(ar .add .i64 b (rd .item x y).Count))))))))
def C9:=λx y z a b c=>(vB x y z a b c).val
def E9:=λx y z a b c=>(vB x y z a b c).ob
def wB:=λx y z b c a=>fa.mk (C9 x y z b c a) (E9 x y z b c a) [0,1,0,0,1,0,1,1,1] [(0,.S .item x),(1,.I y),(2,.I z),(7,.A .item b),(8,.I c),(9,.I a)] Zq (λq=>[(0,.S .item x),(1,.I y),(2,.I z),(7,.A .item q.1),(8,.I q.2),(9,.I a)]) nE nE nE
theorem wao(G:Gd rj){fr x y z a b c}:El fr (wB x y z a b c):=ma G [(6,[0,1,2,7,8,9,23]),(7,[0,1,2,7,8,9]),(8,[0,1,2,7,8,9,49]),(9,[0,1,2,7,8,9])] (vB x y z a b c)
def br(y:LI)(c d:Int)(z:LI)(a x:Int):TX LI (LI×Int×Int) (LI×Int):=.c (cmp .lss x (ba .item y)) (.s (wB y c d z a x) (λb=>.l (.n (b.1,b.2,(ar .add .i64 x 1)))) nE nE nE)
 (.l (.x (z,a)))
def Fl:=λx y z a b c=>(br x y z a b c).val
def gr:=λx y z a b c=>(br x y z a b c).ob
def aQ:=λz x y a b c=>Ba (Fl z x y a b c) (gr z x y a b c) [0,0,1,0,1,1,1] (λq=>[(0,.S .item z),(1,.I x),(2,.I y),(7,.A .item q.1),(8,.I q.2.1),(9,.I q.2.2)]) (a,b,c) Zq (λq=>(0,[(1,.I x),(2,.I y),(7,.A .item q.1),(8,.I q.2)])) nE nE
theorem xao(G:Gd rj){fr x y z a b c}:El fr (aQ x y z a b c):=ia G [([0,1,0,0,1,0,1,1,1],λe=>⟨wB (gL .item e 0 0) (gI e 1 0) (gI e 2 0) (gL .item e 7 0) (gI e 8 0) (gI e 9 0)⟩)] ⟨λ_=>⟨rfl,wao G⟩,trivial⟩ [(4,[0,1,2,7,8,9,14]),(5,[0,1,2,7,8,9])] (br x y z a b c)
def H9:=λx y z=>lpV (λs:LI×Int×Int=>da (Fl x y z s.1 s.2.1 s.2.2)) ([],0,0)
def I9:=λx y z=>LpT (λs:LI×Int×Int=>da (Fl x y z s.1 s.2.1 s.2.2)) (λs=>gr x y z s.1 s.2.1 s.2.2) ([],0,0)
def xB:=λx y z=>lpS (aQ x y z [] 0 0) (H9 x y z) (I9 x y z)
theorem yao(G:Gd rj){fr x y z}:El fr (xB x y z):=Ca (λs:LI×Int×Int=>aQ x y z s.1 s.2.1 s.2.2) ([],0,0) λ_=>xao G
def yB(y:LI)(z a:Int):TA LI (LI×Int):=.s (xB y z a) nE (λx=>.l (.n (x.1,x.2))) nE nE
def J9:=λx y z=>(yB x y z).val
def L9:=λx y z=>(yB x y z).ob
def zB:=λz x y=>fa.mk (J9 z x y) (L9 z x y) [0,1,1,1] [(0,.S .item z),(1,.I x),(2,.I y),(7,.A .item []),(8,.I 0)] Zq (λq=>[(1,.I x),(2,.I y),(7,.A .item q.1),(8,.I q.2)]) nE nE nE
theorem zao(G:Gd rj){fr x y z}:El fr (zB x y z):=ia G [([0,1,0,1,1,1],λe=>⟨xB (gL .item e 0 0) (gI e 1 0) (gI e 2 0)⟩)] ⟨λ_=>⟨rfl,yao G⟩,trivial⟩ [(3,[0,1,2,7,8,9])] (yB x y z)
def AB(z a:Int)(y:LI)(x:Int):TA LI LI:=.c (cond (cmp .eql a 1) (cmp .neq x 0) false) (.w [UP x,lim (ba .item y) (ba .item [(Item.mk z (uB x) 1)])] (.l (.n (y++[(Item.mk z (uB x) 1)]))))
 (.l (.n y))
def M9:=λx y z a=>(AB x y z a).val
def O9:=λx y z a=>(AB x y z a).ob
def BB:=λx y z a=>fa.mk (M9 x y z a) (O9 x y z a) [0,1,1,1,1] [(1,.I x),(2,.I y),(7,.A .item z),(8,.I a)] Zq (λq=>[(7,.A .item q)]) nE nE nE
theorem Aao(G:Gd rj){fr x y z a}:El fr (BB x y z a):=ma G [(10,[1,7,8,65]),(11,[7])] (AB x y z a)
def CB(a:LI)(x y:Int):TN LI:=.s (zB a x y) (λz=>.s (BB x y z.1 z.2) (λb=>.l (.r b)) nE nE nE) nE nE nE
def bQ:=λx y z=>(CB x y z).val
def cQ:=λx y z=>(CB x y z).ob
def Bao:=λx y z=>fa.mk (bQ x y z) (cQ x y z) [] [(0,.S .item x),(1,.I y),(2,.I z)] Zq nE nE nE nE
theorem Cao(G:Gd rj){fr x y z}:El fr (Bao x y z):=ia G [([0,1,1,1],λe=>⟨zB (gL .item e 0 0) (gI e 1 0) (gI e 2 0)⟩),([0,1,1,1,1],λe=>⟨BB (gI e 1 0) (gI e 2 0) (gL .item e 7 0) (gI e 8 0)⟩)] ⟨λ_=>⟨rfl,zao G⟩,λ_=>⟨rfl,Aao G⟩,trivial⟩ [(0,[0,1,2]),(1,[0,1,2,7]),(2,[0,1,2,7,8]),(12,[6])] (CB x y z)
def DB(x:LI)(y:Int)(z:Int):LI:=ocR (bQ x y z)
def FB(x:LI)(y:Int)(z:Int):Prop:=cQ x y z
def dQ:Spec:=⟨[(.lst .item),(.int .i64),(.int .i64)],.one (.acc true) (.lst .item),false,λx=>(DB x.1 x.2.1 x.2.2.1,0),λx=>FB x.1 x.2.1 x.2.2.1⟩
theorem Dao(G:Gd rj):Con Tryz.prog 172 dQ:=va (pts:=[(.lst .item),(.int .i64),(.int .i64)]) (F:=WP) G λ_ _=>Cao G
def Zd:SP:=[(171,BP),(50,PP),(172,dQ),(90,Lk),(94,kB)]
abbrev eQ:Fnn:=⟨[.tmp 6],.one (.acc true) (.lst .row),none,[]⟩
abbrev Rf:LR->RV:=rvF eQ
abbrev re:=@OkF Tryz.prog tt Tryz.f164 eQ LR
def GB(x:LR)(a _:Int)(z:LR)(y:Int):TA LR LR:=.w [inb y (ba .row x)] (.c (cmp .eql (rd .row x y).Key a) (.w [inb y (ba .row x),lim (ba .row z) (ba .row [(rd .row x y)])] (.l (.n (z++[(rd .row x y)]))))
 (.l (.n z)))
def P9:=λx y z a b=>(GB x y z a b).val
def Q9:=λx y z a b=>(GB x y z a b).ob
def HB:=λx y z b a=>fa.mk (P9 x y z b a) (Q9 x y z b a) [0,1,0,0,1,0,1,1] [(0,.S .row x),(1,.I y),(2,.I z),(7,.A .row b),(8,.I a)] Rf (λq=>[(0,.S .row x),(1,.I y),(2,.I z),(7,.A .row q),(8,.I a)]) nE nE nE
theorem Eao(G:Gd Zd){fr x y z a b}:re fr (HB x y z a b):=ma G [(5,[0,1,2,7,8,29]),(6,[0,1,2,7,8])] (GB x y z a b)
def ir(y:LR)(a b:Int)(z:LR)(x:Int):TX LR (LR×Int) LR:=.c (cmp .lss x (ba .row y)) (.s (HB y a b z x) (λc=>.l (.n (c,(ar .add .i64 x 1)))) nE nE nE)
 (.l (.x z))
def Gl:=λx y z a b=>(ir x y z a b).val
def jr:=λx y z a b=>(ir x y z a b).ob
def fQ:=λx y z a b=>Ba (Gl x y z a b) (jr x y z a b) [0,0,1,0,1,1] (λq=>[(0,.S .row x),(1,.I y),(2,.I z),(7,.A .row q.1),(8,.I q.2)]) (a,b) Rf (λq=>(0,[(0,.S .row x),(1,.I y),(2,.I z),(7,.A .row q)])) nE nE
theorem Fao(G:Gd Zd){fr x y z a b}:re fr (fQ x y z a b):=ia G [([0,1,0,0,1,0,1,1],λe=>⟨HB (gL .row e 0 0) (gI e 1 0) (gI e 2 0) (gL .row e 7 0) (gI e 8 0)⟩)] ⟨λ_=>⟨rfl,Eao G⟩,trivial⟩ [(3,[0,1,2,7,8,20]),(4,[0,1,2,7,8])] (ir x y z a b)
def R9:=λx y z=>lpV (λs:LR×Int=>da (Gl x y z s.1 s.2)) ([],0)
def S9:=λx y z=>LpT (λs:LR×Int=>da (Gl x y z s.1 s.2)) (λs=>jr x y z s.1 s.2) ([],0)
def IB:=λx y z=>lpS (fQ x y z [] 0) (R9 x y z) (S9 x y z)
theorem Gao(G:Gd Zd){fr x y z}:re fr (IB x y z):=Ca (λs:LR×Int=>fQ x y z s.1 s.2) ([],0) λ_=>Fao G
def JB(x:LR)(y z:Int):TA LR LR:=.s (IB x y z) nE (λa=>.l (.n a)) nE nE
def T9:=λx y z=>(JB x y z).val
def U9:=λx y z=>(JB x y z).ob
def MB:=λx y z=>fa.mk (T9 x y z) (U9 x y z) [0,1,1] [(0,.S .row x),(1,.I y),(2,.I z),(7,.A .row [])] Rf (λq=>[(0,.S .row x),(1,.I y),(2,.I z),(7,.A .row q)]) nE nE nE
theorem Hao(G:Gd Zd){fr x y z}:re fr (MB x y z):=ia G [([0,1,0,1,1],λe=>⟨IB (gL .row e 0 0) (gI e 1 0) (gI e 2 0)⟩)] ⟨λ_=>⟨rfl,Gao G⟩,trivial⟩ [(2,[0,1,2,7,8])] (JB x y z)
def PB(a _:Int)(_ x:LR)(_:List Time)(_:Int)(b:Time)(z:LI)(y:Int):TA LR LI:=.w [inb y (ba .row x),Kk (rd .row x y).At b] (.c (Zi (rd .row x y).At b) (.w [inb y (ba .row x),inb y (ba .row x),lim (ba .item z) (ba .item [(Item.mk a (rd .row x y).Val (IntKind.wrap .i64 (0 - (rd .row x y).Diff)))])] (.l (.n (z++[(Item.mk a (rd .row x y).Val (IntKind.wrap .i64 (0 - (rd .row x y).Diff)))]))))
 (.l (.n z)))
def V9:=λx y z a b c d f g=>(PB x y z a b c d f g).val
def W9:=λx y z a b c d f g=>(PB x y z a b c d f g).ob
def RB:=λy z a b c d x g f=>fa.mk (V9 y z a b c d x g f) (W9 y z a b c d x g f) [0,1,0,0,1,0,1,1,0,0,1,0,0,1,0,1,1,1,1,1] [(1,.I y),(2,.I z),(7,.A .row a),(9,.A .row b),(10,.A .time c),(11,.I d),(12,.B [x.A,x.B]),(13,.A .item g),(14,.I f)] Rf (λq=>[(1,.I y),(2,.I z),(7,.A .row a),(9,.A .row b),(10,.A .time c),(11,.I d),(12,.B [x.A,x.B]),(13,.A .item q),(14,.I f)]) nE nE nE
theorem Iao(G:Gd Zd){fr x y z a b c d f g}:re fr (RB x y z a b c d f g):=ma G [(17,[1,2,7,9,10,11,12,13,14,69]),(18,[1,2,7,9,10,11,12,13,14])] (PB x y z a b c d f g)
def lr(a b:Int)(c y:LR)(d:List Time)(f:Int)(g:Time)(_ z:LI)(x:Int):TX LR (LI×Int) LI:=.c (cmp .lss x (ba .row y)) (.s (RB a b c y d f g z x) (λh=>.l (.n (h,(ar .add .i64 x 1)))) nE nE nE)
 (.l (.x z))
def Hl:=λx y z a b c d f g h=>(lr x y z a b c d f g h).val
def mr:=λx y z a b c d f g h=>(lr x y z a b c d f g h).ob
def gQ:=λy z a b c d x h f g=>Ba (Hl y z a b c d x h f g) (mr y z a b c d x h f g) [0,0,1,0,1,1,0,0,1,0,0,1,0,1,1,1,1,1] (λq=>[(1,.I y),(2,.I z),(7,.A .row a),(9,.A .row b),(10,.A .time c),(11,.I d),(12,.B [x.A,x.B]),(13,.A .item q.1),(14,.I q.2)]) (f,g) Rf (λq=>(4,[(1,.I y),(2,.I z),(7,.A .row a),(9,.A .row b),(10,.A .time c),(11,.I d),(12,.B [x.A,x.B]),(13,.A .item q)])) nE nE
theorem Jao(G:Gd Zd){fr x y z a b c d f g h}:re fr (gQ x y z a b c d f g h):=ia G [([0,1,0,0,1,0,1,1,0,0,1,0,0,1,0,1,1,1,1,1],λe=>⟨RB (gI e 1 0) (gI e 2 0) (gL .row e 7 0) (gL .row e 9 0) (gL .time e 10 0) (gI e 11 0) (Uc e 12) (gL .item e 13 0) (gI e 14 0)⟩)] ⟨λ_=>⟨rfl,Iao G⟩,trivial⟩ [(15,[1,2,7,9,10,11,12,13,14,60]),(16,[1,2,7,9,10,11,12,13,14])] (lr x y z a b c d f g h)
def X9:=λy z a b c d f x=>lpV (λs:LI×Int=>da (Hl y z a b c d f x s.1 s.2)) (x,0)
def Y9:=λy z a b c d f x=>LpT (λs:LI×Int=>da (Hl y z a b c d f x s.1 s.2)) (λs=>mr y z a b c d f x s.1 s.2) (x,0)
def SB:=λy z a b c d f x=>lpS (gQ y z a b c d f x x 0) (X9 y z a b c d f x) (Y9 y z a b c d f x)
theorem Kao(G:Gd Zd){fr y z a b c d f x}:re fr (SB y z a b c d f x):=Ca (λs:LI×Int=>gQ y z a b c d f x s.1 s.2) (x,0) λ_=>Jao G
def TB(x y:Int)(z a:LR)(b:List Time)(c:Int)(d:Time)(f:LI):TA LR LI:=.s (SB x y z a b c d f) nE (λg=>.l (.n g)) nE nE
def Z9:=λx y z a b c d f=>(TB x y z a b c d f).val
def aaa:=λx y z a b c d f=>(TB x y z a b c d f).ob
def UB:=λy z a b c d x f=>fa.mk (Z9 y z a b c d x f) (aaa y z a b c d x f) [0,1,1,0,0,1,0,0,1,0,1,1,1,1,1] [(1,.I y),(2,.I z),(7,.A .row a),(9,.A .row b),(10,.A .time c),(11,.I d),(12,.B [x.A,x.B]),(13,.A .item f)] Rf (λq=>[(1,.I y),(2,.I z),(7,.A .row a),(9,.A .row b),(10,.A .time c),(11,.I d),(12,.B [x.A,x.B]),(13,.A .item q)]) nE nE nE
theorem Lao(G:Gd Zd){fr x y z a b c d f}:re fr (UB x y z a b c d f):=ia G [([0,1,0,1,1,0,0,1,0,0,1,0,1,1,1,1,1],λe=>⟨SB (gI e 1 0) (gI e 2 0) (gL .row e 7 0) (gL .row e 9 0) (gL .time e 10 0) (gI e 11 0) (Uc e 12) (gL .item e 13 0)⟩)] ⟨λ_=>⟨rfl,Kao G⟩,trivial⟩ [(14,[1,2,7,9,10,11,12,13,14])] (TB x y z a b c d f)
def nr(a _:Int)(_ _:LR)(_:List Time)(_:Int)(b:Time)(y:LI)(z:LR)(x:Int):TX LR (LR×Int) LR:=.c (cmp .lss x (ba .item y)) (.w [inb x (ba .item y),inb x (ba .item y),lim (ba .row z) (ba .row [(Row.mk a (rd .item y x).Val b (rd .item y x).Count)])] (.l (.n ((z++[(Row.mk a (rd .item y x).Val b (rd .item y x).Count)]),(ar .add .i64 x 1)))))
 (.l (.x z))
def Il:=λx y z a b c d f g h=>(nr x y z a b c d f g h).val
def pr:=λx y z a b c d f g h=>(nr x y z a b c d f g h).ob
def iQ:=λx y z h a b c d f g=>Ba (Il x y z h a b c d f g) (pr x y z h a b c d f g) [0,0,1,1,1,1,1,0,0,1,0,0,1,0,1,1,1,1,1] (λq=>[(1,.I x),(2,.I y),(7,.A .row z),(9,.A .row q.1),(10,.A .time a),(11,.I b),(12,.B [c.A,c.B]),(13,.A .item d),(15,.I q.2)]) (f,g) Rf (λq=>(6,[(1,.I x),(2,.I y),(7,.A .row z),(9,.A .row q),(10,.A .time a),(11,.I b)])) nE nE
theorem Mao(G:Gd Zd){fr x y z a b c d f g h}:re fr (iQ x y z a b c d f g h):=ma G [(21,[1,2,7,9,10,11,12,13,15,91]),(22,[1,2,7,9,10,11,12,13,15]),(23,[1,2,7,9,10,11,12,13,15])] (nr x y z a b c d f g h)
def baa:=λy z a x b c d f=>lpV (λs:LR×Int=>da (Il y z a x b c d f s.1 s.2)) (x,0)
def caa:=λy z a x b c d f=>LpT (λs:LR×Int=>da (Il y z a x b c d f s.1 s.2)) (λs=>pr y z a x b c d f s.1 s.2) (x,0)
def VB:=λy z a x b c d f=>lpS (iQ y z a x b c d f x 0) (baa y z a x b c d f) (caa y z a x b c d f)
theorem Nao(G:Gd Zd){fr y z a x b c d f}:re fr (VB y z a x b c d f):=Ca (λs:LR×Int=>iQ y z a x b c d f s.1 s.2) (x,0) λ_=>Mao G
def WB(z a:Int)(b c:LR)(x:List Time)(y:Int):TA LR LR:=.w [inb y (ba .time x)] (.k (sB b (rd .time x y)) λd=>.w [tB b (rd .time x y),FB d z a] (.s (UB z a b c x y (rd .time x y) (DB d z a)) (λf=>.w [Vq f] (.s (VB z a b c x y (rd .time x y) (Uq f)) nE (λg=>.l (.n g)) nE nE)) nE nE nE))
def jQ:=λx y z a b c=>(WB x y z a b c).val
def kQ:=λx y z a b c=>(WB x y z a b c).ob
def XB:=λx y z c a b=>fa.mk (jQ x y z c a b) (kQ x y z c a b) [0,1,0,0,1,0,1,1,1,1,1] [(1,.I x),(2,.I y),(7,.A .row z),(9,.A .row c),(10,.A .time a),(11,.I b)] Rf (λq=>[(1,.I x),(2,.I y),(7,.A .row z),(9,.A .row q),(10,.A .time a),(11,.I b)]) nE nE nE
theorem Oao(G:Gd Zd){fr x y z a b c}:re fr (XB x y z a b c):=ia G [([0,1,1,0,0,1,0,0,1,0,1,1,1,1,1],λe=>⟨UB (gI e 1 0) (gI e 2 0) (gL .row e 7 0) (gL .row e 9 0) (gL .time e 10 0) (gI e 11 0) (Uc e 12) (gL .item e 13 0)⟩),([0,1,1,1,1,1,0,0,1,0,0,1,0,1,1,1,1,1],λe=>⟨VB (gI e 1 0) (gI e 2 0) (gL .row e 7 0) (gL .row e 9 0) (gL .time e 10 0) (gI e 11 0) (Uc e 12) (gL .item e 13 0)⟩)] ⟨λ_=>⟨rfl,Lao G⟩,λ_=>⟨rfl,Nao G⟩,trivial⟩ [(12,[1,2,7,9,10,11,12]),(13,[1,2,7,9,10,11,12,13]),(19,[1,2,7,9,10,11,12,13]),(20,[1,2,7,9,10,11,12,13,15])] (WB x y z a b c)
def qr(a b:Int)(c:LR)(y:List Time)(z:LR)(x:Int):TX LR (LR×Int) LR:=.c (cmp .lss x (ba .time y)) (.s (XB a b c z y x) (λd=>.l (.n (d,(ar .add .i64 x 1)))) nE nE nE)
 (.l (.x z))
def Jl:=λx y z a b c=>(qr x y z a b c).val
def rr:=λx y z a b c=>(qr x y z a b c).ob
def lQ:=λx y z a b c=>Ba (Jl x y z a b c) (rr x y z a b c) [0,0,1,0,1,1,1,1,1] (λq=>[(1,.I x),(2,.I y),(7,.A .row z),(9,.A .row q.1),(10,.A .time a),(11,.I q.2)]) (b,c) Rf (λq=>(2,[(9,.A .row q)])) nE nE
theorem Pao(G:Gd Zd){fr x y z a b c}:re fr (lQ x y z a b c):=ia G [([0,1,0,0,1,0,1,1,1,1,1],λe=>⟨XB (gI e 1 0) (gI e 2 0) (gL .row e 7 0) (gL .row e 9 0) (gL .time e 10 0) (gI e 11 0)⟩)] ⟨λ_=>⟨rfl,Oao G⟩,trivial⟩ [(10,[1,2,7,9,10,11,44]),(11,[1,2,7,9,10,11])] (qr x y z a b c)
def daa:=λx y z a=>lpV (λs:LR×Int=>da (Jl x y z a s.1 s.2)) ([],0)
def eaa:=λx y z a=>LpT (λs:LR×Int=>da (Jl x y z a s.1 s.2)) (λs=>rr x y z a s.1 s.2) ([],0)
def YB:=λx y z a=>lpS (lQ x y z a [] 0) (daa x y z a) (eaa x y z a)
theorem Qao(G:Gd Zd){fr x y z a}:re fr (YB x y z a):=Ca (λs:LR×Int=>lQ x y z a s.1 s.2) ([],0) λ_=>Pao G
def ZB(x y:Int)(z:LR)(a:List Time):TA LR LR:=.s (YB x y z a) nE (λb=>.l (.n b)) nE nE
def faa:=λx y z a=>(ZB x y z a).val
def gaa:=λx y z a=>(ZB x y z a).ob
def aC:=λx y z a=>fa.mk (faa x y z a) (gaa x y z a) [0,1,1,1,1,1] [(1,.I x),(2,.I y),(7,.A .row z),(9,.A .row []),(10,.A .time a)] Rf (λq=>[(9,.A .row q)]) nE nE nE
theorem Rao(G:Gd Zd){fr x y z a}:re fr (aC x y z a):=ia G [([0,1,0,1,1,1,1,1],λe=>⟨YB (gI e 1 0) (gI e 2 0) (gL .row e 7 0) (gL .time e 10 0)⟩)] ⟨λ_=>⟨rfl,Qao G⟩,trivial⟩ [(9,[1,2,7,9,10,11])] (ZB x y z a)
def bC(y:LR)(x z:Int):TN LR:=.s (MB y x z) (λa=>.w [aB y x] (.s (aC x z a (ZA y x)) (λb=>.l (.r b)) nE nE nE)) nE nE nE
def mQ:=λx y z=>(bC x y z).val
def nQ:=λx y z=>(bC x y z).ob
def Sao:=λx y z=>fa.mk (mQ x y z) (nQ x y z) [] [(0,.S .row x),(1,.I y),(2,.I z)] Rf nE nE nE nE
theorem Tao(G:Gd Zd){fr x y z}:re fr (Sao x y z):=ia G [([0,1,1],λe=>⟨MB (gL .row e 0 0) (gI e 1 0) (gI e 2 0)⟩),([0,1,1,1,1,1],λe=>⟨aC (gI e 1 0) (gI e 2 0) (gL .row e 7 0) (gL .time e 10 0)⟩)] ⟨λ_=>⟨rfl,Hao G⟩,λ_=>⟨rfl,Rao G⟩,trivial⟩ [(0,[0,1,2]),(1,[0,1,2,7]),(7,[0,1,2,7,9]),(8,[1,2,7,9,10]),(24,[6])] (bC x y z)
def cC(x:LR)(y:Int)(z:Int):LR:=ocR (mQ x y z)
def dC(x:LR)(y:Int)(z:Int):Prop:=nQ x y z
def oQ:Spec:=⟨[(.lst .row),(.int .i64),(.int .i64)],.one (.acc true) (.lst .row),false,λx=>(cC x.1 x.2.1 x.2.2.1,0),λx=>dC x.1 x.2.1 x.2.2.1⟩
theorem Uao(G:Gd Zd):Con Tryz.prog 164 oQ:=va (pts:=[(.lst .row),(.int .i64),(.int .i64)]) (F:=eQ) G λ_ _=>Tao G
def ur:SP:=[(164,oQ),(61,Qf)]
abbrev pQ:Fnn:=⟨[.tmp 4],.one (.acc true) (.lst .row),none,[]⟩
abbrev qQ:LR->RV:=rvF pQ
abbrev eC:=@OkF Tryz.prog tt Tryz.f132 pQ LR
def vr(z:LR)(a:Int)(y:LR)(x:Int):TX LR (LR×Int) LR:=.c (cmp .lss x 4) (.k (cC z x a) λb=>.w [dC z x a,lim (ba .row y) (ba .row b)] (.l (.n ((y++b),(ar .add .i64 x 1)))))
 (.l (.x y))
def Kl:=λx y z a=>(vr x y z a).val
def yr:=λx y z a=>(vr x y z a).ob
def rQ:=λx y z a=>Ba (Kl x y z a) (yr x y z a) [0,0,1,0,1,1] (λq=>[(0,.S .row x),(1,.I y),(5,.A .row q.1),(6,.I q.2)]) (z,a) qQ (λq=>(0,[(5,.A .row q)])) nE nE
theorem Vao(G:Gd ur){fr x y z a}:eC fr (rQ x y z a):=ma G [(3,[0,1,5,6,9]),(4,[0,1,5,6]),(5,[0,1,5,6])] (vr x y z a)
def haa:=λx y=>lpV (λs:LR×Int=>da (Kl x y s.1 s.2)) ([],0)
def iaa:=λx y=>LpT (λs:LR×Int=>da (Kl x y s.1 s.2)) (λs=>yr x y s.1 s.2) ([],0)
def fC:=λx y=>lpS (rQ x y [] 0) (haa x y) (iaa x y)
theorem Wao(G:Gd ur){fr x y}:eC fr (fC x y):=Ca (λs:LR×Int=>rQ x y s.1 s.2) ([],0) λ_=>Vao G
def gC(x:LR)(y:Int):TA LR LR:=.s (fC x y) nE (λz=>.l (.n z)) nE nE
def jaa:=λx y=>(gC x y).val
def kaa:=λx y=>(gC x y).ob
def iC:=λx y=>fa.mk (jaa x y) (kaa x y) [0,1,1] [(0,.S .row x),(1,.I y),(5,.A .row [])] qQ (λq=>[(5,.A .row q)]) nE nE nE
theorem Xao(G:Gd ur){fr x y}:eC fr (iC x y):=ia G [([0,1,0,1,1],λe=>⟨fC (gL .row e 0 0) (gI e 1 0)⟩)] ⟨λ_=>⟨rfl,Wao G⟩,trivial⟩ [(2,[0,1,5,6])] (gC x y)
def jC(y:LR)(z:Int):TN LR:=.s (iC y z) (λx=>.w [nf x] (.l (.r (He x)))) nE nE nE
def sQ:=λx y=>(jC x y).val
def tQ:=λx y=>(jC x y).ob
def Yao:=λx y=>fa.mk (sQ x y) (tQ x y) [] [(0,.S .row x),(1,.I y)] qQ nE nE nE nE
theorem Zao(G:Gd ur){fr x y}:eC fr (Yao x y):=ia G [([0,1,1],λe=>⟨iC (gL .row e 0 0) (gI e 1 0)⟩)] ⟨λ_=>⟨rfl,Xao G⟩,trivial⟩ [(0,[0,1]),(1,[0,1,5]),(6,[4])] (jC x y)
def lC(x:LR)(y:Int):LR:=ocR (sQ x y)
def mC(x:LR)(y:Int):Prop:=tQ x y
def uQ:Spec:=⟨[(.lst .row),(.int .i64)],.one (.acc true) (.lst .row),false,λx=>(lC x.1 x.2.1,0),λx=>mC x.1 x.2.1⟩
theorem aap(G:Gd ur):Con Tryz.prog 132 uQ:=va (pts:=[(.lst .row),(.int .i64)]) (F:=pQ) G λ_ _=>Zao G
abbrev ae:=Plan->List LR->LR×Bool×Unit
abbrev ce:=Plan->List LR->Prop
def nC(v:ae)(p:ce):Spec:=⟨[(.st .plan),(.lst .lrow)],.tup [(false,(.lst .row)),(true,.bool)],false,λx=>(v x.1 x.2.1,0),λx=>p x.1 x.2.1⟩
def sj(r100V:ae)(r100P:ce):SP:=[(100,nC r100V r100P),(130,TO),(61,Qf),(62,bA),(131,mP),(132,uQ),(78,cl)]
abbrev vQ:Fnn:=⟨[.tmp 4,.tmp 5],.tup [(false,(.lst .row)),(true,.bool)],none,[]⟩
abbrev zr:LR×Bool×Unit->RV:=rvF vQ
abbrev Ll:=@OkF Tryz.prog tt Tryz.f100 vQ (LR×Bool×Unit)
def Ar(r100V:ae)(r100P:ce)(b:List LR)(_ _:Int)(y:LP)(z:List LR)(x:Int):TX (LR×Bool×Unit) ((List LR)×Int) ((List LR)):=.c (cmp .lss x (ba .plan y)) (.k (r100V (Plan.mk (rd .plan y x).Kind (rd .plan y x).Num (rd .plan y x).Kids) b) λa=>.w [inb x (ba .plan y),r100P (Plan.mk (rd .plan y x).Kind (rd .plan y x).Num (rd .plan y x).Kids) b] (.c (!a.2.1) (.l (.r ([],(false,()))))
 (.w [lim (ba .lrow z) (ba .lrow [a.1])] (.l (.n ((z++[a.1]),(ar .add .i64 x 1)))))))
 (.l (.x z))
def Ml:=λr100V r100P x y z a b c=>(Ar r100V r100P x y z a b c).val
def Br:=λr100V r100P x y z a b c=>(Ar r100V r100P x y z a b c).ob
def wQ:=λr100V r100P x y z a b c=>Ba (Ml r100V r100P x y z a b c) (Br r100V r100P x y z a b c) [0,0,1,0,1,1] (λq=>[(1,.S .lrow x),(2,.box [(.fr,.i y),(.fr,.i z),(.sh,.lst .plan a)]),(6,.v (.acc false) (.lst .lrow q.1)),(7,.I q.2)]) (b,c) zr (λq=>(0,[(1,.S .lrow x),(2,.box [(.fr,.i y),(.fr,.i z),(.sh,.lst .plan a)]),(6,.v (.acc false) (.lst .lrow q))])) nE nE
theorem bap{r100V:ae}{r100P:ce}(G:Gd (sj r100V r100P)){fr x y z a b c}:Ll fr (wQ r100V r100P x y z a b c):=ma G [(3,[1,2,6,7,16]),(4,[1,2,6,7]),(5,[1,2,6,7,8,9]),(6,[1,2,6,7,8,30]),(7,[4,5]),(8,[1,2,6,7])] (Ar r100V r100P x y z a b c)
def laa:=λr100V r100P x y z a=>lpV (λs:(List LR)×Int=>da (Ml r100V r100P x y z a s.1 s.2)) ([],0)
def maa:=λr100V r100P x y z a=>LpT (λs:(List LR)×Int=>da (Ml r100V r100P x y z a s.1 s.2)) (λs=>Br r100V r100P x y z a s.1 s.2) ([],0)
def oC:=λr100V r100P x y z a=>lpS (wQ r100V r100P x y z a [] 0) (laa r100V r100P x y z a) (maa r100V r100P x y z a)
theorem dap{r100V:ae}{r100P:ce}(G:Gd (sj r100V r100P)){fr x y z a}:Ll fr (oC r100V r100P x y z a):=Ca (λs:(List LR)×Int=>wQ r100V r100P x y z a s.1 s.2) ([],0) λ_=>bap G
def pC(r100V:ae)(r100P:ce)(x:List LR)(y z:Int)(a:LP):TA (LR×Bool×Unit) ((List LR)):=.s (oC r100V r100P x y z a) nE (λb=>.l (.n b)) nE nE
def naa:=λr100V r100P x y z a=>(pC r100V r100P x y z a).val
def oaa:=λr100V r100P x y z a=>(pC r100V r100P x y z a).ob
def qC:=λr100V r100P x y z a=>fa.mk (naa r100V r100P x y z a) (oaa r100V r100P x y z a) [0,1,1] [(1,.S .lrow x),(2,.box [(.fr,.i y),(.fr,.i z),(.sh,.lst .plan a)]),(6,.A .lrow [])] zr (λq=>[(1,.S .lrow x),(2,.box [(.fr,.i y),(.fr,.i z),(.sh,.lst .plan a)]),(6,.v (.acc false) (.lst .lrow q))]) nE nE nE
theorem eap{r100V:ae}{r100P:ce}(G:Gd (sj r100V r100P)){fr x y z a}:Ll fr (qC r100V r100P x y z a):=ia G [([0,1,0,1,1],λe=>⟨oC r100V r100P (gL .lrow e 1 0) (gI e 2 0) (gI e 2 1) (gL .plan e 2 2)⟩)] ⟨λ_=>⟨rfl,dap G⟩,trivial⟩ [(2,[1,2,6,7])] (pC r100V r100P x y z a)
def rC(_r100V:ae)(_r100P:ce)(x:List LR):TA (LR×Bool×Unit) LR:=.w [inb 0 (ba .lrow x),lim (ba .row []) (ba .row (rd .lrow x 0)),inb 1 (ba .lrow x),lim (ba .row ([]++(rd .lrow x 0))) (ba .row (rd .lrow x 1)),nf (([]++(rd .lrow x 0))++(rd .lrow x 1))] (.l (.n (He (([]++(rd .lrow x 0))++(rd .lrow x 1)))))
def paa:=λr100V r100P x=>(rC r100V r100P x).val
def qaa:=λr100V r100P x=>(rC r100V r100P x).ob
def sC:=λr100V r100P x=>fa.mk (paa r100V r100P x) (qaa r100V r100P x) [0,1,1,1,1,1,0,1,0,1,1,1,1] [(6,.v (.acc false) (.lst .lrow x))] zr (λq=>[(10,.A .row q)]) nE nE nE
theorem fap{r100V:ae}{r100P:ce}(G:Gd (sj r100V r100P)){fr x}:Ll fr (sC r100V r100P x):=Co G [10] [6,10,64,65,66,67,68,69,70,71,72,73] (rC r100V r100P x)
def tC(r100V:ae)(r100P:ce)(a:List LR)(z y:Int)(_:LP)(x:List LR):TA (LR×Bool×Unit) LR:=.c (cmp .eql z 1) (.w [inb y (ba .lrow a),lim (ba .row []) (ba .row (rd .lrow a y))] (.l (.n ([]++(rd .lrow a y)))))
 (.c (cmp .eql z 2) (.w [inb 0 (ba .lrow x),Tz (rd .lrow x 0) y] (.l (.n (Sz (rd .lrow x 0) y))))
 (.c (cmp .eql z 3) (.s (sC r100V r100P x) (λb=>.l (.n b)) nE nE nE)
 (.c (cmp .eql z 4) (.w [inb 0 (ba .lrow x),yq (rd .lrow x 0)] (.l (.n (nj (rd .lrow x 0)))))
 (.c (cmp .eql z 5) (.w [inb 0 (ba .lrow x),inb 1 (ba .lrow x),oA (rd .lrow x 0) (rd .lrow x 1)] (.l (.n (nA (rd .lrow x 0) (rd .lrow x 1)))))
 (.w [inb 0 (ba .lrow x),mC (rd .lrow x 0) y] (.l (.n (lC (rd .lrow x 0) y))))))))
def xQ:=λr100V r100P x y z a b=>(tC r100V r100P x y z a b).val
def yQ:=λr100V r100P x y z a b=>(tC r100V r100P x y z a b).ob
def uC:=λr100V r100P x y z a b=>fa.mk (xQ r100V r100P x y z a b) (yQ r100V r100P x y z a b) [0,1,1,1,1] [(1,.S .lrow x),(2,.box [(.fr,.i y),(.fr,.i z),(.sh,.lst .plan a)]),(6,.v (.acc false) (.lst .lrow b)),(10,.A .row [])] zr (λq=>[(10,.S .row q)]) nE nE nE
theorem gap{r100V:ae}{r100P:ce}(G:Gd (sj r100V r100P)){fr x y z a b}:Ll fr (uC r100V r100P x y z a b):=ia G [([0,1,1,1,1,1,0,1,0,1,1,1,1],λe=>⟨sC r100V r100P (gL .lrow e 6 0)⟩)] ⟨λ_=>⟨rfl,fap G⟩,trivial⟩ [(10,[1,2,6,10,38]),(11,[10]),(12,[1,2,6,10,38,45]),(13,[10]),(14,[2,6,38,54]),(15,[10]),(16,[2,6,38,62]),(18,[2,6,38,74]),(19,[10]),(20,[2,6,80]),(21,[10])] (tC r100V r100P x y z a b)
def vC(r100V:ae)(r100P:ce)(x:Plan)(z:List LR):TN (LR×Bool×Unit):=.s (qC r100V r100P z x.Kind x.Num x.Kids) (λa=>.s (uC r100V r100P z x.Kind x.Num x.Kids a) (λy=>.w [Lh y] (.l (.r (y,((Yg y),()))))) nE nE nE) nE nE nE
def wC:=λr100V r100P x y=>(vC r100V r100P x y).val
def xC:=λr100V r100P x y=>(vC r100V r100P x y).ob
def iap:=λr100V r100P x y=>fa.mk (wC r100V r100P x y) (xC r100V r100P x y) [] [(0,.agg false [.i x.Kind,.i x.Num,.lst .plan x.Kids]),(1,.S .lrow y)] zr nE nE nE nE
theorem jap{r100V:ae}{r100P:ce}(G:Gd (sj r100V r100P)){fr x y}:Ll fr (iap r100V r100P x y):=ia G [([0,1,1],λe=>⟨qC r100V r100P (gL .lrow e 1 0) (gI e 2 0) (gI e 2 1) (gL .plan e 2 2)⟩),([0,1,1,1,1],λe=>⟨uC r100V r100P (gL .lrow e 1 0) (gI e 2 0) (gI e 2 1) (gL .plan e 2 2) (gL .lrow e 6 0)⟩)] ⟨λ_=>⟨rfl,eap G⟩,λ_=>⟨rfl,gap G⟩,trivial⟩ [(0,[1,2]),(1,[1,2,6]),(9,[1,2,6,10]),(22,[4,5])] (vC r100V r100P x y)
theorem kap{r100V:ae}{r100P:ce}(G:Gd (sj r100V r100P)):Con Tryz.prog 100 (nC (λx y=>ocR (wC r100V r100P x y)) (λx y=>xC r100V r100P x y)):=va (pts:=[(.st .plan),(.lst .lrow)]) (F:=vQ) G λ_ _=>jap G
def Ac:Nat->ae×ce
 |0=>(λ_ _=>default,λ_ _=>False)
 |n+1=>(λx y=>ocR (wC (Ac n).1 (Ac n).2 x y),λx y=>xC (Ac n).1 (Ac n).2 x y)
def zQ:ae:=(Ac Pb).1
def AQ:ce:=(Ac Pb).2
def raa:Spec:=nC zQ AQ
def Cr:SP:=[(99,rx),(78,cl),(100,raa)]
abbrev F59:Fnn:=⟨[.tmp 4,.tmp 5],.tup [(false,(.lst .row)),(true,.bool)],none,[]⟩
abbrev BQ:LR×Bool×Unit->RV:=rvF F59
abbrev yC:=@OkF Tryz.prog tt Tryz.f59 F59 (LR×Bool×Unit)
def Dr(y:List LR)(_ _:Int)(_:LP)(x:Int):TX (LR×Bool×Unit) Int Unit:=.c (cmp .lss x (ba .lrow y)) (.w [inb x (ba .lrow y),Lh (rd .lrow y x)] (.c (!(Yg (rd .lrow y x))) (.l (.r ([],(false,()))))
 (.l (.n (ar .add .i64 x 1)))))
 (.l (.x ()))
def Nl:=λx y z a b=>(Dr x y z a b).val
def Er:=λx y z a b=>(Dr x y z a b).ob
def CQ:=λx y z a b=>Ba (Nl x y z a b) (Er x y z a b) [0,0,1,0,1,1] (λq=>[(1,.S .lrow x),(2,.box [(.fr,.i y),(.fr,.i z),(.sh,.lst .plan a)]),(6,.I q)]) b BQ (λ_=>(0,[(1,.S .lrow x),(2,.box [(.fr,.i y),(.fr,.i z),(.sh,.lst .plan a)])])) nE nE
theorem lap(G:Gd Cr){fr x y z a b}:yC fr (CQ x y z a b):=ma G [(4,[1,2,6,21]),(5,[1,2,6]),(6,[1,2,6,29]),(7,[4,5])] (Dr x y z a b)
def saa:=λx y z a=>lpV (λs:Int=>da (Nl x y z a s)) 0
def taa:=λx y z a=>LpT (λs:Int=>da (Nl x y z a s)) (λs=>Er x y z a s) 0
def zC:=λx y z a=>lpS (CQ x y z a 0) (saa x y z a) (taa x y z a)
theorem nap(G:Gd Cr){fr x y z a}:yC fr (zC x y z a):=Ca (λs:Int=>CQ x y z a s) 0 λ_=>lap G
def AC(x:List LR)(y z:Int)(a:LP):TA (LR×Bool×Unit) Unit:=.s (zC x y z a) nE (λ_=>.l (.n ())) nE nE
def uaa:=λx y z a=>(AC x y z a).val
def vaa:=λx y z a=>(AC x y z a).ob
def BC:=λx y z a=>fa.mk (uaa x y z a) (vaa x y z a) [0,1,1] [(1,.S .lrow x),(2,.box [(.fr,.i y),(.fr,.i z),(.sh,.lst .plan a)])] BQ (λ_=>[(1,.S .lrow x),(2,.box [(.fr,.i y),(.fr,.i z),(.sh,.lst .plan a)])]) nE nE nE
theorem oap(G:Gd Cr){fr x y z a}:yC fr (BC x y z a):=ia G [([0,1,0,1,1],λe=>⟨zC (gL .lrow e 1 0) (gI e 2 0) (gI e 2 1) (gL .plan e 2 2)⟩)] ⟨λ_=>⟨rfl,nap G⟩,trivial⟩ [(3,[1,2,6])] (AC x y z a)
def CC(x:Plan)(y:List LR):TN (LR×Bool×Unit):=.w [jp (Plan.mk x.Kind x.Num x.Kids)] (.c (cond (!(ip (Plan.mk x.Kind x.Num x.Kids))) true (cmp .neq (ba .lrow y) 2)) (.l (.r ([],(false,()))))
 (.s (BC y x.Kind x.Num x.Kids) (λ_=>.k (zQ (Plan.mk x.Kind x.Num x.Kids) y) λz=>.w [AQ (Plan.mk x.Kind x.Num x.Kids) y] (.c (!z.2.1) (.l (.r ([],(false,()))))
 (.l (.r (z.1,(true,())))))) nE nE nE))
def DQ:=λx y=>(CC x y).val
def EQ:=λx y=>(CC x y).ob
def pap:=λx y=>fa.mk (DQ x y) (EQ x y) [] [(0,.agg false [.i x.Kind,.i x.Num,.lst .plan x.Kids]),(1,.S .lrow y)] BQ nE nE nE nE
theorem qap(G:Gd Cr){fr x y}:yC fr (pap x y):=ia G [([0,1,1],λe=>⟨BC (gL .lrow e 1 0) (gI e 2 0) (gI e 2 1) (gL .plan e 2 2)⟩)] ⟨λ_=>⟨rfl,oap G⟩,trivial⟩ [(0,[1,2]),(1,[1,2,16]),(2,[4,5]),(8,[7,8]),(9,[7,38]),(10,[4,5]),(11,[4,5])] (CC x y)
def Gr(x:Plan)(y:List LR):LR×Bool×Unit:=ocR (DQ x y)
def Hr(x:Plan)(y:List LR):Prop:=EQ x y
def DC:Spec:=⟨[(.st .plan),(.lst .lrow)],.tup [(false,(.lst .row)),(true,.bool)],false,λx=>(Gr x.1 x.2.1,0),λx=>Hr x.1 x.2.1⟩
theorem rap(G:Gd Cr):Con Tryz.prog 59 DC:=va (pts:=[(.st .plan),(.lst .lrow)]) (F:=F59) G λ_ _=>qap G
def Ir:SP:=[(57,bj),(90,Lk)]
abbrev F46:Fnn:=⟨[.tmp 4],.one .fr .bool,none,[]⟩
abbrev FQ:Bool->RV:=rvF F46
abbrev EC:=@OkF Tryz.prog tt Tryz.f46 F46 Bool
def Jr(y:List Time)(z:Time)(x:Int):TX Bool Int Unit:=.c (cmp .lss x (ba .time y)) (.w [inb x (ba .time y),Kk (rd .time y x) z] (.c (Zi (rd .time y x) z) (.l (.r true))
 (.l (.n (ar .add .i64 x 1)))))
 (.l (.x ()))
def Ol:=λx y z=>(Jr x y z).val
def Kr:=λx y z=>(Jr x y z).ob
def GQ:=λy x z=>Ba (Ol y x z) (Kr y x z) [0,0,1,0,1,1] (λq=>[(0,.S .time y),(3,.B [x.A,x.B]),(5,.I q)]) z FQ (λ_=>(0,[])) nE nE
theorem sap(G:Gd Ir){fr x y z}:EC fr (GQ x y z):=ma G [(4,[0,3,5,12]),(5,[0,3,5]),(6,[0,3,5,20]),(7,[4])] (Jr x y z)
def waa:=λx y=>lpV (λs:Int=>da (Ol x y s)) 0
def xaa:=λx y=>LpT (λs:Int=>da (Ol x y s)) (λs=>Kr x y s) 0
def FC:=λx y=>lpS (GQ x y 0) (waa x y) (xaa x y)
theorem tap(G:Gd Ir){fr x y}:EC fr (FC x y):=Ca (λs:Int=>GQ x y s) 0 λ_=>sap G
def GC(x:List Time)(y:Time):TA Bool Unit:=.s (FC x y) nE (λ_=>.l (.n ())) nE nE
def yaa:=λx y=>(GC x y).val
def zaa:=λx y=>(GC x y).ob
def HC:=λy x=>fa.mk (yaa y x) (zaa y x) [0,1,1] [(0,.S .time y),(3,.B [x.A,x.B])] FQ (λ_=>[]) nE nE nE
theorem uap(G:Gd Ir){fr x y}:EC fr (HC x y):=ia G [([0,1,0,1,1],λe=>⟨FC (gL .time e 0 0) (Uc e 3)⟩)] ⟨λ_=>⟨rfl,tap G⟩,trivial⟩ [(3,[0,3,5])] (GC x y)
def IC(x:List Time)(y:Time):TN Bool:=.w [Ug x] (.c (!(mf x)) (.l (.r false))
 (.s (HC x y) (λ_=>.l (.r false)) nE nE nE))
def HQ:=λx y=>(IC x y).val
def IQ:=λx y=>(IC x y).ob
def vap:=λy x=>fa.mk (HQ y x) (IQ y x) [] [(0,.S .time y),(1,.agg true [.i x.A,.i x.B])] FQ nE nE nE nE
theorem wap(G:Gd Ir){fr x y}:EC fr (vap x y):=ia G [([0,1,1],λe=>⟨HC (gL .time e 0 0) (Uc e 3)⟩)] ⟨λ_=>⟨rfl,uap G⟩,trivial⟩ [(0,[0,3]),(1,[0,3,8]),(2,[4]),(8,[4])] (IC x y)
def Pl(x:List Time)(y:Time):Bool:=ocR (HQ x y)
def Ql(x:List Time)(y:Time):Prop:=IQ x y
def JC:Spec:=⟨[(.lst .time),(.st .time)],.one .fr .bool,false,λx=>(Pl x.1 x.2.1,0),λx=>Ql x.1 x.2.1⟩
theorem xap(G:Gd Ir):Con Tryz.prog 46 JC:=va (pts:=[(.lst .time),(.st .time)]) (F:=F46) G λ_ _=>wap G
def Rl:SP:=[(46,JC)]
abbrev F60:Fnn:=⟨[.tmp 4],.one .fr (.lst .row),none,[]⟩
abbrev MC:LR->RV:=rvF F60
abbrev Lr:=@OkF Tryz.prog tt Tryz.f60 F60 LR
def PC(x:LR)(a:List Time)(z:LR)(y:Int):TA LR LR:=.w [inb y (ba .row x),Ql a (rd .row x y).At] (.c (!(Pl a (rd .row x y).At)) (.w [inb y (ba .row x),lim (ba .row z) (ba .row [(rd .row x y)])] (.l (.n (z++[(rd .row x y)]))))
 (.l (.n z)))
def JQ:=λx y z a=>(PC x y z a).val
def LQ:=λx y z a=>(PC x y z a).ob
def SC:=λx y a z=>fa.mk (JQ x y a z) (LQ x y a z) [0,1,0,0,1,0,1,1] [(0,.S .row x),(1,.S .time y),(5,.A .row a),(6,.I z)] MC (λq=>[(0,.S .row x),(1,.S .time y),(5,.A .row q),(6,.I z)]) nE nE nE
theorem yap(G:Gd Rl){fr x y z a}:Lr fr (SC x y z a):=ma G [(5,[0,1,5,6,21]),(6,[0,1,5,6])] (PC x y z a)
def Mr(y:LR)(a:List Time)(z:LR)(x:Int):TX LR (LR×Int) LR:=.c (cmp .lss x (ba .row y)) (.s (SC y a z x) (λb=>.l (.n (b,(ar .add .i64 x 1)))) nE nE nE)
 (.l (.x z))
def Sl:=λx y z a=>(Mr x y z a).val
def Nr:=λx y z a=>(Mr x y z a).ob
def MQ:=λx y z a=>Ba (Sl x y z a) (Nr x y z a) [0,0,1,0,1,1] (λq=>[(0,.S .row x),(1,.S .time y),(5,.A .row q.1),(6,.I q.2)]) (z,a) MC (λq=>(0,[(5,.A .row q)])) nE nE
theorem zap(G:Gd Rl){fr x y z a}:Lr fr (MQ x y z a):=ia G [([0,1,0,0,1,0,1,1],λe=>⟨SC (gL .row e 0 0) (gL .time e 1 0) (gL .row e 5 0) (gI e 6 0)⟩)] ⟨λ_=>⟨rfl,yap G⟩,trivial⟩ [(3,[0,1,5,6,11]),(4,[0,1,5,6])] (Mr x y z a)
def Aaa:=λx y=>lpV (λs:LR×Int=>da (Sl x y s.1 s.2)) ([],0)
def Baa:=λx y=>LpT (λs:LR×Int=>da (Sl x y s.1 s.2)) (λs=>Nr x y s.1 s.2) ([],0)
def TC:=λx y=>lpS (MQ x y [] 0) (Aaa x y) (Baa x y)
theorem Aap(G:Gd Rl){fr x y}:Lr fr (TC x y):=Ca (λs:LR×Int=>MQ x y s.1 s.2) ([],0) λ_=>zap G
def UC(x:LR)(y:List Time):TA LR LR:=.s (TC x y) nE (λz=>.l (.n z)) nE nE
def Caa:=λx y=>(UC x y).val
def Daa:=λx y=>(UC x y).ob
def VC:=λx y=>fa.mk (Caa x y) (Daa x y) [0,1,1] [(0,.S .row x),(1,.S .time y),(5,.A .row [])] MC (λq=>[(5,.A .row q)]) nE nE nE
theorem Bap(G:Gd Rl){fr x y}:Lr fr (VC x y):=ia G [([0,1,0,1,1],λe=>⟨TC (gL .row e 0 0) (gL .time e 1 0)⟩)] ⟨λ_=>⟨rfl,Aap G⟩,trivial⟩ [(2,[0,1,5,6])] (UC x y)
def WC(x:LR)(y:List Time):TN LR:=.s (VC x y) (λz=>.l (.r z)) nE nE nE
def NQ:=λx y=>(WC x y).val
def PQ:=λx y=>(WC x y).ob
def Cap:=λx y=>fa.mk (NQ x y) (PQ x y) [] [(0,.S .row x),(1,.S .time y)] MC nE nE nE nE
theorem Dap(G:Gd Rl){fr x y}:Lr fr (Cap x y):=ia G [([0,1,1],λe=>⟨VC (gL .row e 0 0) (gL .time e 1 0)⟩)] ⟨λ_=>⟨rfl,Bap G⟩,trivial⟩ [(0,[0,1]),(1,[0,1,5]),(7,[4])] (WC x y)
def Tl(x:LR)(y:List Time):LR:=ocR (NQ x y)
def Ul(x:LR)(y:List Time):Prop:=PQ x y
def Pr:Spec:=⟨[(.lst .row),(.lst .time)],.one .fr (.lst .row),false,λx=>(Tl x.1 x.2.1,0),λx=>Ul x.1 x.2.1⟩
theorem Eap(G:Gd Rl):Con Tryz.prog 60 Pr:=va (pts:=[(.lst .row),(.lst .time)]) (F:=F60) G λ_ _=>Dap G
def Qr:SP:=[]
abbrev F68:Fnn:=⟨[.tmp 4],.one .fr .bool,none,[]⟩
abbrev RQ:Bool->RV:=rvF F68
abbrev XC:=@OkF Tryz.prog tt Tryz.f68 F68 Bool
def Rr(y z:LR)(x:Int):TX Bool Int Unit:=.c (cmp .lss x (ba .row y)) (.w [inb x (ba .row y),inb x (ba .row z)] (.c (!(cmp .eql (rd .row y x).Key (rd .row z x).Key&&(cmp .eql (rd .row y x).Val (rd .row z x).Val&&(cmp .eql (rd .row y x).At.A (rd .row z x).At.A&&(cmp .eql (rd .row y x).At.B (rd .row z x).At.B&&(cmp .eql (rd .row y x).Diff (rd .row z x).Diff&&true)))))) (.l (.r false))
 (.l (.n (ar .add .i64 x 1)))))
 (.l (.x ()))
def Vl:=λx y z=>(Rr x y z).val
def Ur:=λx y z=>(Rr x y z).ob
def SQ:=λx y z=>Ba (Vl x y z) (Ur x y z) [0,0,1,0,1,1] (λq=>[(0,.S .row x),(1,.S .row y),(5,.I q)]) z RQ (λ_=>(0,[])) nE nE
theorem Fap(G:Gd Qr){fr x y z}:XC fr (SQ x y z):=ma G [(4,[0,1,5,14]),(5,[0,1,5]),(6,[0,1,5,25]),(7,[4])] (Rr x y z)
def TQ:=λx y=>lpV (λs:Int=>da (Vl x y s)) 0
def Eaa:=λx y=>LpT (λs:Int=>da (Vl x y s)) (λs=>Ur x y s) 0
def Vr:=λx y=>lpS (SQ x y 0) (TQ x y) (Eaa x y)
theorem Gap(G:Gd Qr){fr x y}:XC fr (Vr x y):=Ca (λs:Int=>SQ x y s) 0 λ_=>Fap G
def Wr(x y:LR):TA Bool Unit:=.s (Vr x y) nE (λ_=>.l (.n ())) nE nE
def UQ:=λx y=>(Wr x y).val
def VQ:=λx y=>(Wr x y).ob
def Wl:=λx y=>fa.mk (UQ x y) (VQ x y) [0,1,1] [(0,.S .row x),(1,.S .row y)] RQ (λ_=>[]) nE nE nE
theorem Hap(G:Gd Qr){fr x y}:XC fr (Wl x y):=ia G [([0,1,0,1,1],λe=>⟨Vr (gL .row e 0 0) (gL .row e 1 0)⟩)] ⟨λ_=>⟨rfl,Gap G⟩,trivial⟩ [(3,[0,1,5])] (Wr x y)
def Xl(x y:LR):TN Bool:=.c (cmp .neq (ba .row x) (ba .row y)) (.l (.r false))
 (.s (Wl x y) (λ_=>.l (.r true)) nE nE nE)
def Xr:=λx y=>(Xl x y).val
def Yr:=λx y=>(Xl x y).ob
def Iap:=λx y=>fa.mk (Xr x y) (Yr x y) [] [(0,.S .row x),(1,.S .row y)] RQ nE nE nE nE
theorem Jap(G:Gd Qr){fr x y}:XC fr (Iap x y):=ia G [([0,1,1],λe=>⟨Wl (gL .row e 0 0) (gL .row e 1 0)⟩)] ⟨λ_=>⟨rfl,Hap G⟩,trivial⟩ [(0,[0,1]),(1,[0,1,10]),(2,[4]),(8,[4])] (Xl x y)
def Yl(x:LR)(y:LR):Bool:=ocR (Xr x y)
def Zl(x:LR)(y:LR):Prop:=Yr x y
def WQ:Spec:=⟨[(.lst .row),(.lst .row)],.one .fr .bool,false,λx=>(Yl x.1 x.2.1,0),λx=>Zl x.1 x.2.1⟩
theorem Kap(G:Gd Qr):Con Tryz.prog 68 WQ:=va (pts:=[(.lst .row),(.lst .row)]) (F:=F68) G λ_ _=>Jap G
def Faa:SP:=[(57,bj),(59,DC),(60,Pr),(68,WQ)]
abbrev F28:Fnn:=⟨[.tmp 2],.one .fr .bool,none,[]⟩
abbrev Lap:Bool->RV:=rvF F28
abbrev Map:=@OkF Tryz.prog tt Tryz.f28 F28 Bool
def YC(x:Sess):TN Bool:=.w [Ug x.Front] (.c (!(mf x.Front)) (.l (.r false))
 (.k (Gr (Plan.mk x.Plan.Kind x.Plan.Num x.Plan.Kids) x.Ins) λy=>.w [Hr (Plan.mk x.Plan.Kind x.Plan.Num x.Plan.Kids) x.Ins] (.k (Tl y.1 x.Front) λz=>.w [(y.2.1&&true)=true->(Ul y.1 x.Front),(y.2.1&&true)=true->(Zl z x.Told)] (.l (.r (cond y.2.1 (Yl z x.Told) false))))))
def XQ:=λx=>(YC x).val
def YQ:=λx=>(YC x).ob
def Nap:=λx=>fa.mk (XQ x) (YQ x) [] [(0,.agg false [.i x.Plan.Kind,.i x.Plan.Num,.lst .plan x.Plan.Kids,.lst .lrow x.Ins,.lst .time x.Front,.lst .row x.Told])] Lap nE nE nE nE
theorem Oap(G:Gd Faa){fr x}:Map fr (Nap x):=ma G [(0,[1]),(1,[1,8]),(2,[2]),(3,[1,3,4]),(4,[2])] (YC x)
def Rh(x:Sess):Bool:=ocR (XQ x)
def Th(x:Sess):Prop:=YQ x
def ZC:Spec:=⟨[(.st .sess)],.one .fr .bool,false,λx=>(Rh x.1,0),λx=>Th x.1⟩
theorem Pap(G:Gd Faa):Con Tryz.prog 28 ZC:=va (pts:=[(.st .sess)]) (F:=F28) G λ_ _=>Oap G
def Uh:SP:=[(98,XM)]
abbrev F58:Fnn:=⟨[.cell 2 30],.one .sh (.st .sess),none,[]⟩
abbrev Zr:Sess->RV:=rvF F58
abbrev am:=@OkF Tryz.prog tt Tryz.f58 F58 Sess
def es(x y:Int)(z:LP)(_:List LR)(a:List Time)(b:LR):TA Sess (Int×Int×LP×(List Time)×LR):=.w [Dx (Plan.mk x y z),lim (ba .time []) (ba .time a),lim (ba .row []) (ba .row b)] (.l (.n ((pe (Plan.mk x y z)).Kind,(pe (Plan.mk x y z)).Num,(pe (Plan.mk x y z)).Kids,([]++a),([]++b))))
def ZQ:=λx y z a b c=>(es x y z a b c).val
def Gaa:=λx y z a b c=>(es x y z a b c).ob
def js:=λx y z a b c=>fa.mk (ZQ x y z a b c) (Gaa x y z a b c) [0,1] [(1,.box [(.fr,.i x),(.fr,.i y),(.sh,.lst .plan z),(.sh,.lst .lrow a),(.sh,.lst .time b),(.sh,.lst .row c)]),(2,.box [(.fr,.i 0),(.fr,.i 0),(.fr,.nl .plan),(.fr,.nl .lrow),(.fr,.nl .time),(.fr,.nl .row)])] Zr (λq=>[(1,.box [(.fr,.i x),(.fr,.i y),(.sh,.lst .plan z),(.sh,.lst .lrow a),(.sh,.lst .time b),(.sh,.lst .row c)]),(2,.box [(.fr,.i 0),(.fr,.i 0),(.fr,.nl .plan),(.fr,.nl .lrow),(.fr,.nl .time),(.fr,.nl .row)]),(3,.box [(.fr,.i q.1),(.fr,.i q.2.1),(.sh,.lst .plan q.2.2.1),(.sh,.nl .lrow),(.sh,.lst .time q.2.2.2.1),(.sh,.lst .row q.2.2.2.2)])]) nE nE nE
theorem Haa(G:Gd Uh){fr x y z a b c}:am fr (js x y z a b c):=Co G [1,2,3] [1,2,3,5,6,7,8,9,10,11,12,13,14,15,16] (es x y z a b c)
def ns(_ _:Int)(_:LP)(x:List LR)(_:List Time)(_:LR)(_ _:Int)(_:LP)(z:List LR)(_:List Time)(_:LR)(y:Int):TA Sess ((List LR)):=.w [inb y (ba .lrow x),lim (ba .row []) (ba .row (rd .lrow x y)),lim (ba .lrow z) (ba .lrow [([]++(rd .lrow x y))])] (.l (.n (z++[([]++(rd .lrow x y))])))
def aR:=λx y z a b c d f g h i j k=>(ns x y z a b c d f g h i j k).val
def Iaa:=λx y z a b c d f g h i j k=>(ns x y z a b c d f g h i j k).ob
def qs:=λx y z a b c d f g k h i j=>fa.mk (aR x y z a b c d f g k h i j) (Iaa x y z a b c d f g k h i j) [0,0,1,0,0,1,0,1,1] [(1,.box [(.fr,.i x),(.fr,.i y),(.sh,.lst .plan z),(.sh,.lst .lrow a),(.sh,.lst .time b),(.sh,.lst .row c)]),(2,.box [(.fr,.i 0),(.fr,.i 0),(.fr,.nl .plan),(.fr,.nl .lrow),(.fr,.nl .time),(.fr,.nl .row)]),(3,.box [(.fr,.i d),(.fr,.i f),(.sh,.lst .plan g),((.acc false),.lst .lrow k),(.sh,.lst .time h),(.sh,.lst .row i)]),(4,.I j)] Zr (λq=>[(1,.box [(.fr,.i x),(.fr,.i y),(.sh,.lst .plan z),(.sh,.lst .lrow a),(.sh,.lst .time b),(.sh,.lst .row c)]),(2,.box [(.fr,.i 0),(.fr,.i 0),(.fr,.nl .plan),(.fr,.nl .lrow),(.fr,.nl .time),(.fr,.nl .row)]),(3,.box [(.fr,.i d),(.fr,.i f),(.sh,.lst .plan g),((.acc false),.lst .lrow q),(.sh,.lst .time h),(.sh,.lst .row i)]),(4,.I j)]) nE nE nE
theorem Qap(G:Gd Uh){fr x y z a b c d f g h i j k}:am fr (qs x y z a b c d f g h i j k):=Co G [1,2,3,4] [1,2,3,4,24,25,26,27,28,29,30,31,32,33,34,35] (ns x y z a b c d f g h i j k)
def bm(a b:Int)(c:LP)(y:List LR)(d:List Time)(f:LR)(g h:Int)(i:LP)(j:List Time)(k:LR)(z:List LR)(x:Int):TX Sess ((List LR)×Int) ((List LR)):=.c (cmp .lss x (ba .lrow y)) (.s (qs a b c y d f g h i z j k x) (λl=>.l (.n (l,(ar .add .i64 x 1)))) nE nE nE)
 (.l (.x z))
def tj:=λx y z a b c d f g h i j k=>(bm x y z a b c d f g h i j k).val
def ws:=λx y z a b c d f g h i j k=>(bm x y z a b c d f g h i j k).ob
def cR:=λc d f g h i x y z a b j k=>Ba (tj c d f g h i x y z a b j k) (ws c d f g h i x y z a b j k) [0,0,1,0,1,1] (λq=>[(1,.box [(.fr,.i c),(.fr,.i d),(.sh,.lst .plan f),(.sh,.lst .lrow g),(.sh,.lst .time h),(.sh,.lst .row i)]),(2,.box [(.fr,.i 0),(.fr,.i 0),(.fr,.nl .plan),(.fr,.nl .lrow),(.fr,.nl .time),(.fr,.nl .row)]),(3,.box [(.fr,.i x),(.fr,.i y),(.sh,.lst .plan z),((.acc false),.lst .lrow q.1),(.sh,.lst .time a),(.sh,.lst .row b)]),(4,.I q.2)]) (j,k) Zr (λq=>(0,[(2,.box [(.fr,.i 0),(.fr,.i 0),(.fr,.nl .plan),(.fr,.nl .lrow),(.fr,.nl .time),(.fr,.nl .row)]),(3,.box [(.fr,.i x),(.fr,.i y),(.sh,.lst .plan z),((.acc false),.lst .lrow q),(.sh,.lst .time a),(.sh,.lst .row b)])])) nE nE
theorem Rap(G:Gd Uh){fr x y z a b c d f g h i j k}:am fr (cR x y z a b c d f g h i j k):=ia G [([0,0,1,0,0,1,0,1,1],λe=>⟨qs (gI e 1 0) (gI e 1 1) (gL .plan e 1 2) (gL .lrow e 1 3) (gL .time e 1 4) (gL .row e 1 5) (gI e 3 0) (gI e 3 1) (gL .plan e 3 2) (gL .lrow e 3 3) (gL .time e 3 4) (gL .row e 3 5) (gI e 4 0)⟩)] ⟨λ_=>⟨rfl,Qap G⟩,trivial⟩ [(3,[1,2,3,4,21]),(4,[1,2,3,4])] (bm x y z a b c d f g h i j k)
def eR:=λx y z a b c d f g h i=>lpV (λs:(List LR)×Int=>da (tj x y z a b c d f g h i s.1 s.2)) ([],0)
def Jaa:=λx y z a b c d f g h i=>LpT (λs:(List LR)×Int=>da (tj x y z a b c d f g h i s.1 s.2)) (λs=>ws x y z a b c d f g h i s.1 s.2) ([],0)
def As:=λx y z a b c d f g h i=>lpS (cR x y z a b c d f g h i [] 0) (eR x y z a b c d f g h i) (Jaa x y z a b c d f g h i)
theorem Sap(G:Gd Uh){fr x y z a b c d f g h i}:am fr (As x y z a b c d f g h i):=Ca (λs:(List LR)×Int=>cR x y z a b c d f g h i s.1 s.2) ([],0) λ_=>Rap G
def Cs(x y:Int)(z:LP)(a:List LR)(b:List Time)(c:LR)(d f:Int)(g:LP)(h:List Time)(i:LR):TA Sess ((List LR)):=.s (As x y z a b c d f g h i) nE (λj=>.l (.n j)) nE nE
def aD:=λx y z a b c d f g h i=>(Cs x y z a b c d f g h i).val
def Kaa:=λx y z a b c d f g h i=>(Cs x y z a b c d f g h i).ob
def Es:=λc d f g h i x y z a b=>fa.mk (aD c d f g h i x y z a b) (Kaa c d f g h i x y z a b) [0,1,1] [(1,.box [(.fr,.i c),(.fr,.i d),(.sh,.lst .plan f),(.sh,.lst .lrow g),(.sh,.lst .time h),(.sh,.lst .row i)]),(2,.box [(.fr,.i 0),(.fr,.i 0),(.fr,.nl .plan),(.fr,.nl .lrow),(.fr,.nl .time),(.fr,.nl .row)]),(3,.box [(.fr,.i x),(.fr,.i y),(.sh,.lst .plan z),(.sh,.nl .lrow),(.sh,.lst .time a),(.sh,.lst .row b)])] Zr (λq=>[(2,.box [(.fr,.i 0),(.fr,.i 0),(.fr,.nl .plan),(.fr,.nl .lrow),(.fr,.nl .time),(.fr,.nl .row)]),(3,.box [(.fr,.i x),(.fr,.i y),(.sh,.lst .plan z),((.acc false),.lst .lrow q),(.sh,.lst .time a),(.sh,.lst .row b)])]) nE nE nE
theorem Laa(G:Gd Uh){fr x y z a b c d f g h i}:am fr (Es x y z a b c d f g h i):=ia G [([0,1,0,1,1],λe=>⟨As (gI e 1 0) (gI e 1 1) (gL .plan e 1 2) (gL .lrow e 1 3) (gL .time e 1 4) (gL .row e 1 5) (gI e 3 0) (gI e 3 1) (gL .plan e 3 2) (gL .time e 3 4) (gL .row e 3 5)⟩)] ⟨λ_=>⟨rfl,Sap G⟩,trivial⟩ [(2,[1,2,3,4])] (Cs x y z a b c d f g h i)
def cm(x:Sess):TN Sess:=.s (js x.Plan.Kind x.Plan.Num x.Plan.Kids x.Ins x.Front x.Told) (λy=>.s (Es x.Plan.Kind x.Plan.Num x.Plan.Kids x.Ins x.Front x.Told y.1 y.2.1 y.2.2.1 y.2.2.2.1 y.2.2.2.2) (λz=>.l (.r (Sess.mk (Plan.mk y.1 y.2.1 y.2.2.1) z y.2.2.2.1 y.2.2.2.2))) nE nE nE) nE nE nE
def bD:=λx=>(cm x).val
def fR:=λx=>(cm x).ob
def Tap:=λx=>fa.mk (bD x) (fR x) [] [(0,.agg false [.i x.Plan.Kind,.i x.Plan.Num,.lst .plan x.Plan.Kids,.lst .lrow x.Ins,.lst .time x.Front,.lst .row x.Told])] Zr nE nE nE nE
theorem Uap(G:Gd Uh){fr x}:am fr (Tap x):=ia G [([0,1],λe=>⟨js (gI e 1 0) (gI e 1 1) (gL .plan e 1 2) (gL .lrow e 1 3) (gL .time e 1 4) (gL .row e 1 5)⟩),([0,1,1],λe=>⟨Es (gI e 1 0) (gI e 1 1) (gL .plan e 1 2) (gL .lrow e 1 3) (gL .time e 1 4) (gL .row e 1 5) (gI e 3 0) (gI e 3 1) (gL .plan e 3 2) (gL .time e 3 4) (gL .row e 3 5)⟩)] ⟨λ_=>⟨rfl,Haa G⟩,λ_=>⟨rfl,Laa G⟩,trivial⟩ [(0,[1,2]),(6,[2])] (cm x)
def jd(x:Sess):Sess:=ocR (bD x)
def Sf(x:Sess):Prop:=fR x
def cD:Spec:=⟨[(.st .sess)],.one .sh (.st .sess),false,λx=>(jd x.1,0),λx=>Sf x.1⟩
theorem Vap(G:Gd Uh):Con Tryz.prog 58 cD:=va (pts:=[(.st .sess)]) (F:=F58) G λ_ _=>Uap G
def dm:SP:=[(28,ZC),(57,bj),(46,JC),(58,cD),(59,DC),(60,Pr),(62,bA),(61,Qf)]
abbrev F22:Fnn:=⟨[.cell 4 30,.tmp 5,.tmp 6],.tup [(false,(.st .sess)),(false,(.lst .row)),(true,.bool)],none,[]⟩
abbrev dD:Sess×LR×Bool×Unit->RV:=rvF F22
abbrev Fs:=@OkF Tryz.prog tt Tryz.f22 F22 (Sess×LR×Bool×Unit)
def Gs(y:List Time)(_ _:Int)(_:LP)(_:List LR)(z:List Time)(_:LR)(x:Int):TX (Sess×LR×Bool×Unit) Int Unit:=.c (cmp .lss x (ba .time y)) (.w [inb x (ba .time y),Ql z (rd .time y x)] (.c (!(Pl z (rd .time y x))) (.l (.r ((Sess.mk (Plan.mk 0 0 []) [] [] []),([],(false,())))))
 (.l (.n (ar .add .i64 x 1)))))
 (.l (.x ()))
def em:=λx y z a b c d f=>(Gs x y z a b c d f).val
def Hs:=λx y z a b c d f=>(Gs x y z a b c d f).ob
def iR:=λx y z a b c d f=>Ba (em x y z a b c d f) (Hs x y z a b c d f) [0,0,1,0,1,1,1] (λq=>[(1,.S .time x),(2,.box [(.fr,.i y),(.fr,.i z),(.sh,.lst .plan a),(.sh,.lst .lrow b),(.sh,.lst .time c),(.sh,.lst .row d)]),(4,.box [(.fr,.i 0),(.fr,.i 0),(.fr,.nl .plan),(.fr,.nl .lrow),(.fr,.nl .time),(.fr,.nl .row)]),(7,.A .row []),(8,.I q)]) f dD (λ_=>(0,[(1,.S .time x),(2,.box [(.fr,.i y),(.fr,.i z),(.sh,.lst .plan a),(.sh,.lst .lrow b),(.sh,.lst .time c),(.sh,.lst .row d)]),(4,.box [(.fr,.i 0),(.fr,.i 0),(.fr,.nl .plan),(.fr,.nl .lrow),(.fr,.nl .time),(.fr,.nl .row)])])) nE nE
theorem Wap(G:Gd dm){fr x y z a b c d f}:Fs fr (iR x y z a b c d f):=ma G [(5,[1,2,4,7,8,27]),(6,[1,2,4,7,8]),(7,[1,2,4,7,8,37]),(8,[4,5,6])] (Gs x y z a b c d f)
def Maa:=λx y z a b c d=>lpV (λs:Int=>da (em x y z a b c d s)) 0
def Naa:=λx y z a b c d=>LpT (λs:Int=>da (em x y z a b c d s)) (λs=>Hs x y z a b c d s) 0
def eD:=λx y z a b c d=>lpS (iR x y z a b c d 0) (Maa x y z a b c d) (Naa x y z a b c d)
theorem Xap(G:Gd dm){fr x y z a b c d}:Fs fr (eD x y z a b c d):=Ca (λs:Int=>iR x y z a b c d s) 0 λ_=>Wap G
def fD(x:List Time)(y z:Int)(a:LP)(b:List LR)(c:List Time)(d:LR):TA (Sess×LR×Bool×Unit) Unit:=.s (eD x y z a b c d) nE (λ_=>.l (.n ())) nE nE
def Oaa:=λx y z a b c d=>(fD x y z a b c d).val
def Paa:=λx y z a b c d=>(fD x y z a b c d).ob
def gD:=λx y z a b c d=>fa.mk (Oaa x y z a b c d) (Paa x y z a b c d) [0,1,1,1] [(1,.S .time x),(2,.box [(.fr,.i y),(.fr,.i z),(.sh,.lst .plan a),(.sh,.lst .lrow b),(.sh,.lst .time c),(.sh,.lst .row d)]),(4,.box [(.fr,.i 0),(.fr,.i 0),(.fr,.nl .plan),(.fr,.nl .lrow),(.fr,.nl .time),(.fr,.nl .row)]),(7,.A .row [])] dD (λ_=>[(1,.S .time x),(2,.box [(.fr,.i y),(.fr,.i z),(.sh,.lst .plan a),(.sh,.lst .lrow b),(.sh,.lst .time c),(.sh,.lst .row d)]),(4,.box [(.fr,.i 0),(.fr,.i 0),(.fr,.nl .plan),(.fr,.nl .lrow),(.fr,.nl .time),(.fr,.nl .row)])]) nE nE nE
theorem Yap(G:Gd dm){fr x y z a b c d}:Fs fr (gD x y z a b c d):=ia G [([0,1,0,1,1,1],λe=>⟨eD (gL .time e 1 0) (gI e 2 0) (gI e 2 1) (gL .plan e 2 2) (gL .lrow e 2 3) (gL .time e 2 4) (gL .row e 2 5)⟩)] ⟨λ_=>⟨rfl,Xap G⟩,trivial⟩ [(4,[1,2,4,7,8])] (fD x y z a b c d)
def iD(_ _:Int)(_:LP)(_:List LR)(_:List Time)(x:LR)(_ _:Int)(_:LP)(_:List LR)(_:List Time)(y:LR):TA (Sess×LR×Bool×Unit) LR:=.w [lim (ba .row []) (ba .row y),yq x,lim (ba .row ([]++y)) (ba .row (nj x)),nf (([]++y)++(nj x))] (.l (.n (He (([]++y)++(nj x)))))
def Qaa:=λx y z a b c d f g h i j=>(iD x y z a b c d f g h i j).val
def Raa:=λx y z a b c d f g h i j=>(iD x y z a b c d f g h i j).ob
def jD:=λd f g h i j x y z a b c=>fa.mk (Qaa d f g h i j x y z a b c) (Raa d f g h i j x y z a b c) [0,1,1,1,1,1,1,1,1] [(2,.box [(.fr,.i d),(.fr,.i f),(.sh,.lst .plan g),(.sh,.lst .lrow h),(.sh,.lst .time i),(.sh,.lst .row j)]),(4,.box [(.fr,.i 0),(.fr,.i 0),(.fr,.nl .plan),(.fr,.nl .lrow),(.fr,.nl .time),(.fr,.nl .row)]),(9,.box [(.fr,.i x),(.fr,.i y),(.sh,.lst .plan z),(.sh,.lst .lrow a),((.acc false),.lst .time b),(.fr,.lst .row c)])] dD (λq=>[(4,.box [(.fr,.i 0),(.fr,.i 0),(.fr,.nl .plan),(.fr,.nl .lrow),(.fr,.nl .time),(.fr,.nl .row)]),(9,.box [(.fr,.i x),(.fr,.i y),(.sh,.lst .plan z),(.sh,.lst .lrow a),((.acc false),.lst .time b),(.fr,.lst .row c)]),(12,.A .row q)]) nE nE nE
theorem Zap(G:Gd dm){fr x y z a b c d f g h i j}:Fs fr (jD x y z a b c d f g h i j):=any_ok G [4,9,12] 45 (iD x y z a b c d f g h i j) rfl rfl rfl (by kernel_rfl) (by kernel_rfl) (by kernel_rfl)
def kD(x:Sess)(y:List Time):TN (Sess×LR×Bool×Unit):=.k (Rh (Sess.mk (Plan.mk x.Plan.Kind x.Plan.Num x.Plan.Kids) x.Ins x.Front x.Told)) λa=>.w [Th (Sess.mk (Plan.mk x.Plan.Kind x.Plan.Num x.Plan.Kids) x.Ins x.Front x.Told),((!(!a))&&true)=true->(Ug y)] (.c (cond (!a) true (!(mf y))) (.l (.r ((Sess.mk (Plan.mk 0 0 []) [] [] []),([],(false,())))))
 (.s (gD y x.Plan.Kind x.Plan.Num x.Plan.Kids x.Ins x.Front x.Told) (λ_=>.k (jd (Sess.mk (Plan.mk x.Plan.Kind x.Plan.Num x.Plan.Kids) x.Ins x.Front x.Told)) λz=>.w [Sf (Sess.mk (Plan.mk x.Plan.Kind x.Plan.Num x.Plan.Kids) x.Ins x.Front x.Told)] (.k (Gr (Plan.mk x.Plan.Kind x.Plan.Num x.Plan.Kids) x.Ins) λb=>.w [Hr (Plan.mk x.Plan.Kind x.Plan.Num x.Plan.Kids) x.Ins] (.w [lim (ba .time []) (ba .time y)] (.k (Tl b.1 y) λc=>.w [Ul b.1 y] (.s (jD x.Plan.Kind x.Plan.Num x.Plan.Kids x.Ins x.Front x.Told z.Plan.Kind z.Plan.Num z.Plan.Kids z.Ins ([]++y) c) (λd=>.l (.r ((Sess.mk (Plan.mk z.Plan.Kind z.Plan.Num z.Plan.Kids) z.Ins ([]++y) c),(d,(true,()))))) nE nE nE))))) nE nE nE))
def jR:=λx y=>(kD x y).val
def kR:=λx y=>(kD x y).ob
def aaq:=λx y=>fa.mk (jR x y) (kR x y) [] [(0,.agg false [.i x.Plan.Kind,.i x.Plan.Num,.lst .plan x.Plan.Kids,.lst .lrow x.Ins,.lst .time x.Front,.lst .row x.Told]),(1,.S .time y)] dD nE nE nE nE
theorem baq(G:Gd dm){fr x y}:Fs fr (aaq x y):=ia G [([0,1,1,1],λe=>⟨gD (gL .time e 1 0) (gI e 2 0) (gI e 2 1) (gL .plan e 2 2) (gL .lrow e 2 3) (gL .time e 2 4) (gL .row e 2 5)⟩),([0,1,1,1,1,1,1,1,1],λe=>⟨jD (gI e 2 0) (gI e 2 1) (gL .plan e 2 2) (gL .lrow e 2 3) (gL .time e 2 4) (gL .row e 2 5) (gI e 9 0) (gI e 9 1) (gL .plan e 9 2) (gL .lrow e 9 3) (gL .time e 9 4) (gL .row e 9 5)⟩)] ⟨λ_=>⟨rfl,Yap G⟩,λ_=>⟨rfl,Zap G⟩,trivial⟩ [(0,[1,2,4]),(1,[1,2,4,7]),(2,[1,2,4,7,21]),(3,[4,5,6]),(9,[1,2,4,9]),(10,[1,2,4,9,10]),(11,[1,2,4,9,10]),(12,[2,4,9]),(14,[4,5,6])] (kD x y)
def wg(x:Sess)(y:List Time):Sess×LR×Bool×Unit:=ocR (jR x y)
def lD(x:Sess)(y:List Time):Prop:=kR x y
def lR:Spec:=⟨[(.st .sess),(.lst .time)],.tup [(false,(.st .sess)),(false,(.lst .row)),(true,.bool)],false,λx=>(wg x.1 x.2.1,0),λx=>lD x.1 x.2.1⟩
theorem caq(G:Gd dm):Con Tryz.prog 22 lR:=va (pts:=[(.st .sess),(.lst .time)]) (F:=F22) G λ_ _=>baq G
def Saa:SP:=[(44,Pf),(45,tp)]
abbrev F89:Fnn:=⟨[.cell 2 48],.one .fr (.st .row),some 0,[]⟩
abbrev daq:LB->Row×Int->RV:=rvR F89
abbrev eaq:=@OkF Tryz.prog tt Tryz.f89 F89 (Row×Int)
def mD(x:(LB×Int)):TN (Row×Int):=.k (la (x.1,x.2) 4) λz=>.k (la (x.1,z.2) 9) λy=>.k (Hh (x.1,y.2)) λa=>.k (la (x.1,a.2) 8) λb=>.w [Ob (x.1,x.2) 4,Ob (x.1,z.2) 9,inb y.1 (ba .int [0,1,2,3,4,9,10,57,99]),Hk (x.1,y.2),Ob (x.1,a.2) 8,inb b.1 (ba .int [1,1,1,2,(-1),(-1),3,0])] (.l (.r ((Row.mk z.1 (rd .int [0,1,2,3,4,9,10,57,99] y.1) a.1 (rd .int [1,1,1,2,(-1),(-1),3,0] b.1)),b.2)))
def mR:=λx=>(mD x).val
def nR:=λx=>(mD x).ob
def faq:=λx=>fa.mk (mR x) (nR x) [] [(0,.R x.1 x.2)] (daq x.1) nE nE nE nE
theorem gaq(G:Gd Saa){fr x}:eaq fr (faq x):=ma G [(0,[0,2]),(1,[0,2])] (mD x)
def xg(x:(LB×Int)):Row×Int:=ocR (mR x)
def Is(x:(LB×Int)):Prop:=nR x
def nD:Spec:=⟨[.rdr],.one .fr (.st .row),true,λx=>xg x.1,λx=>Is x.1⟩
theorem haq(G:Gd Saa):Con Tryz.prog 89 nD:=Ze (pts:=[.rdr]) (F:=F89) G (λx=>x.1.1) λ_ _=>gaq G
def uj:SP:=[(44,Pf),(89,nD)]
abbrev oR:Fnn:=⟨[.tmp 4],.one (.acc true) (.lst .row),some 0,[]⟩
abbrev Js:LB->LR×Int->RV:=rvR oR
abbrev fm:=@OkF Tryz.prog tt Tryz.f112 oR (LR×Int)
def oD(z:LB)(a:Int)(x:LR)(_:Int)(b:Row):TA (LR×Int) (Int×Int×Int×Int):=.k (la (z,a) 3) λc=>.w [((cmp .gtr (ba .row x) 0)&&true)=true->(Ob (z,a) 3)] (.c (cond (cmp .gtr (ba .row x) 0) (cmp .eql c.1 0) false) (.k (la (z,(cond ((cmp .gtr (ba .row x) 0)&&true) c.2 a)) (ba .row x)) λy=>.w [(Ob (z,(cond ((cmp .gtr (ba .row x) 0)&&true) c.2 a)) (ba .row x)),inb y.1 (ba .row x)] (.k (la (z,y.2) 2) λd=>.w [Ob (z,y.2) 2] (.c (cmp .eql d.1 0) (.l (.n (d.2,(rd .row x y.1).Key,(rd .row x y.1).Val,(IntKind.wrap .i64 (0 - (rd .row x y.1).Diff)))))
 (.l (.n (d.2,(rd .row x y.1).Key,(rd .row x y.1).Val,b.Diff))))))
 (.l (.n ((cond ((cmp .gtr (ba .row x) 0)&&true) c.2 a),b.Key,b.Val,b.Diff))))
def pR:=λx y z a b=>(oD x y z a b).val
def pD:=λx y z a b=>(oD x y z a b).ob
def qD:=λy b z a x=>fa.mk (pR y b z a x) (pD y b z a x) [0,1,0,0,1,0,0,1,0,1,1] [(0,.R y b),(5,.A .row z),(6,.I a),(7,.B [x.Key,x.Val,x.At.A,x.At.B,x.Diff])] (Js y) (λq=>[(0,.R y q.1),(5,.A .row z),(6,.I a),(7,.B [q.2.1,q.2.2.1,x.At.A,x.At.B,q.2.2.2])]) nE nE nE
theorem iaq(G:Gd uj){fr x y z a b}:fm fr (qD x y z a b):=ma G [(6,[0,5,6,7,27]),(7,[0,5,6,7,8]),(8,[0,5,6,7,8]),(9,[0,5,6,7,8]),(10,[0,5,6,7,8,43]),(11,[0,5,6,7])] (oD x y z a b)
def rD(z:LB)(b:Int)(a:LR)(c:Int):TA (LR×Int) (Int×LR):=.k (xg (z,b)) λy=>.w [Is (z,b)] (.s (qD z y.2 a c y.1) (λx=>.w [lim (ba .row a) (ba .row [(Row.mk x.2.1 x.2.2.1 y.1.At x.2.2.2)])] (.l (.n (x.1,(a++[(Row.mk x.2.1 x.2.2.1 y.1.At x.2.2.2)]))))) nE nE nE)
def Taa:=λx y z a=>(rD x y z a).val
def Uaa:=λx y z a=>(rD x y z a).ob
def Ks:=λx z a y=>fa.mk (Taa x z a y) (Uaa x z a y) [0,1,0,0,1,0,1,1] [(0,.R x z),(5,.A .row a),(6,.I y)] (Js x) (λq=>[(0,.R x q.1),(5,.A .row q.2),(6,.I y)]) nE nE nE
theorem jaq(G:Gd uj){fr x y z a}:fm fr (Ks x y z a):=ia G [([0,1,0,0,1,0,0,1,0,1,1],λe=>⟨qD (gL .byte e 0 0) (gI e 0 1) (gL .row e 5 0) (gI e 6 0) (gRow e 7)⟩)] ⟨λ_=>⟨rfl,iaq G⟩,trivial⟩ [(5,[0,5,6,7]),(12,[0,5,6])] (rD x y z a)
def Ls(b:LB)(_ _ y:Int)(z:LR)(x:Int):TX (LR×Int) (Int×LR×Int) (Int×LR):=.c (cmp .gtr x 0) (.s (Ks b y z x) (λa=>.l (.n (a.1,a.2,(ar .sub .i64 x 1)))) nE nE nE)
 (.l (.x (y,z)))
def gm:=λx y z a b c=>(Ls x y z a b c).val
def Ms:=λx y z a b c=>(Ls x y z a b c).ob
def qR:=λx b c y z a=>Ba (gm x b c y z a) (Ms x b c y z a) [0,0,1,0,1,1] (λq=>[(0,.R x q.1),(5,.A .row q.2.1),(6,.I q.2.2)]) (y,z,a) (Js x) (λq=>(0,[(0,.R x q.1),(5,.A .row q.2)])) nE nE
theorem kaq(G:Gd uj){fr x y z a b c}:fm fr (qR x y z a b c):=ia G [([0,1,0,0,1,0,1,1],λe=>⟨Ks (gL .byte e 0 0) (gI e 0 1) (gL .row e 5 0) (gI e 6 0)⟩)] ⟨λ_=>⟨rfl,jaq G⟩,trivial⟩ [(3,[0,5,6,15]),(4,[0,5,6])] (Ls x y z a b c)
def Vaa:=λz x y=>lpV (λs:Int×LR×Int=>da (gm z x y s.1 s.2.1 s.2.2)) (x,[],y)
def Waa:=λz x y=>LpT (λs:Int×LR×Int=>da (gm z x y s.1 s.2.1 s.2.2)) (λs=>Ms z x y s.1 s.2.1 s.2.2) (x,[],y)
def sD:=λz x y=>lpS (qR z x y x [] y) (Vaa z x y) (Waa z x y)
theorem laq(G:Gd uj){fr z x y}:fm fr (sD z x y):=Ca (λs:Int×LR×Int=>qR z x y s.1 s.2.1 s.2.2) (x,[],y) λ_=>kaq G
def tD(x:LB)(y z:Int):TA (LR×Int) (Int×LR):=.k (la (x,y) (ar .add .i64 z 1)) λa=>.w [Ob (x,y) (ar .add .i64 z 1)] (.s (sD x a.2 a.1) nE (λb=>.l (.n (b.1,b.2))) nE nE)
def Xaa:=λx y z=>(tD x y z).val
def Yaa:=λx y z=>(tD x y z).ob
def uD:=λx y z=>fa.mk (Xaa x y z) (Yaa x y z) [0,1,1] [(0,.R x y),(1,.I z),(5,.A .row [])] (Js x) (λq=>[(0,.R x q.1),(5,.A .row q.2)]) nE nE nE
theorem maq(G:Gd uj){fr x y z}:fm fr (uD x y z):=ia G [([0,1,0,1,1],λe=>⟨sD (gL .byte e 0 0) (gI e 0 1) (gI e 6 0)⟩)] ⟨λ_=>⟨rfl,laq G⟩,trivial⟩ [(2,[0,5,6])] (tD x y z)
def vD(x:(LB×Int))(z:Int):TN (LR×Int):=.s (uD x.1 x.2 z) (λy=>.l (.r (y.2,y.1))) nE nE nE
def rR:=λx y=>(vD x y).val
def sR:=λx y=>(vD x y).ob
def naq:=λx y=>fa.mk (rR x y) (sR x y) [] [(0,.R x.1 x.2),(1,.I y)] (Js x.1) nE nE nE nE
theorem oaq(G:Gd uj){fr x y}:fm fr (naq x y):=ia G [([0,1,1],λe=>⟨uD (gL .byte e 0 0) (gI e 0 1) (gI e 1 0)⟩)] ⟨λ_=>⟨rfl,maq G⟩,trivial⟩ [(0,[0,1]),(1,[0,1,5]),(13,[0,4])] (vD x y)
def Vh(x:(LB×Int))(y:Int):LR×Int:=ocR (rR x y)
def wD(x:(LB×Int))(y:Int):Prop:=sR x y
def tR:Spec:=⟨[.rdr,(.int .i64)],.one (.acc true) (.lst .row),true,λx=>Vh x.1 x.2.1,λx=>wD x.1 x.2.1⟩
theorem paq(G:Gd uj):Con Tryz.prog 112 tR:=Ze (pts:=[.rdr,(.int .i64)]) (F:=oR) G (λx=>x.1.1) λ_ _=>oaq G
def Zaa:SP:=[(93,fj),(61,Qf),(102,Vz)]
abbrev uR:Fnn:=⟨[.tmp 2],.one .sh (.lst .row),none,[]⟩
abbrev qaq:LR->RV:=rvF uR
abbrev raq:=@OkF Tryz.prog tt Tryz.f111 uR LR
def xD(x:LR):TN LR:=.w [Kh x] (.c (!(Wg x)) (.l (.r []))
 (.w [nf x,uq (He x)] (.l (.r (tq (He x))))))
def vR:=λx=>(xD x).val
def wR:=λx=>(xD x).ob
def saq:=λx=>fa.mk (vR x) (wR x) [] [(0,.S .row x)] qaq nE nE nE nE
theorem taq(G:Gd Zaa){fr x}:raq fr (saq x):=ma G [(0,[0]),(1,[0,5]),(2,[2]),(3,[2])] (xD x)
def im(x:LR):LR:=ocR (vR x)
def Ns(x:LR):Prop:=wR x
def yD:Spec:=⟨[(.lst .row)],.one .sh (.lst .row),false,λx=>(im x.1,0),λx=>Ns x.1⟩
theorem uaq(G:Gd Zaa):Con Tryz.prog 111 yD:=va (pts:=[(.lst .row)]) (F:=uR) G λ_ _=>taq G
def aab:SP:=[(112,tR),(111,yD)]
abbrev F75:Fnn:=⟨[.tmp 4],.one .sh (.lst .row),some 0,[]⟩
abbrev vaq:LB->LR×Int->RV:=rvR F75
abbrev waq:=@OkF Tryz.prog tt Tryz.f75 F75 (LR×Int)
def zD(x:(LB×Int))(z:Int):TN (LR×Int):=.k (Vh (x.1,x.2) z) λy=>.w [wD (x.1,x.2) z,Ns y.1] (.l (.r ((im y.1),y.2)))
def xR:=λx y=>(zD x y).val
def yR:=λx y=>(zD x y).ob
def xaq:=λx y=>fa.mk (xR x y) (yR x y) [] [(0,.R x.1 x.2),(1,.I y)] (vaq x.1) nE nE nE nE
theorem yaq(G:Gd aab){fr x y}:waq fr (xaq x y):=ma G [(0,[0,1]),(1,[0,4])] (zD x y)
def Qb(x:(LB×Int))(y:Int):LR×Int:=ocR (xR x y)
def AD(x:(LB×Int))(y:Int):Prop:=yR x y
def zR:Spec:=⟨[.rdr,(.int .i64)],.one .sh (.lst .row),true,λx=>Qb x.1 x.2.1,λx=>AD x.1 x.2.1⟩
theorem zaq(G:Gd aab):Con Tryz.prog 75 zR:=Ze (pts:=[.rdr,(.int .i64)]) (F:=F75) G (λx=>x.1.1) λ_ _=>yaq G
def wj:SP:=[(57,bj),(44,Pf),(91,Uk),(111,yD)]
abbrev F76:Fnn:=⟨[.tmp 6],.one .sh (.lst .row),some 0,[]⟩
abbrev Ps:LB->LR×Int->RV:=rvR F76
abbrev jm:=@OkF Tryz.prog tt Tryz.f76 F76 (LR×Int)
def Qs(b:LB)(a:Int)(_:LR)(x:List Time)(_:LR)(_:Int)(y:Row):TA (LR×Int) (Int×Int×Int):=.w [((cmp .gtr (ba .time x) 0)&&true)=true->(Ug x)] (.c (cond (cmp .gtr (ba .time x) 0) (mf x) false) (.k (la (b,a) (ba .time x)) λz=>.k (cj y.At (rd .time x z.1)) λc=>.w [Ob (b,a) (ba .time x),inb z.1 (ba .time x),Vg y.At (rd .time x z.1)] (.l (.n (z.2,c.A,c.B))))
 (.l (.n (a,y.At.A,y.At.B))))
def BD:=λx y z a b c d=>(Qs x y z a b c d).val
def CD:=λx y z a b c d=>(Qs x y z a b c d).ob
def DD:=λy d z a b c x=>fa.mk (BD y d z a b c x) (CD y d z a b c x) [0,1,0,0,1,0,0,1,0,1,1] [(0,.R y d),(1,.S .row z),(2,.S .time a),(7,.A .row b),(8,.I c),(9,.B [x.Key,x.Val,x.At.A,x.At.B,x.Diff])] (Ps y) (λq=>[(0,.R y q.1),(1,.S .row z),(2,.S .time a),(7,.A .row b),(8,.I c),(9,.B [x.Key,x.Val,q.2.1,q.2.2,x.Diff])]) nE nE nE
theorem Aaq(G:Gd wj){fr x y z a b c d}:jm fr (DD x y z a b c d):=ma G [(6,[0,1,2,7,8,9,27]),(7,[0,1,2,7,8,9])] (Qs x y z a b c d)
def ED(b:LB)(c:Int)(x:LR)(d:List Time)(a:LR)(y:Int):TA (LR×Int) (Int×LR):=.w [inb y (ba .row x)] (.s (DD b c x d a y (rd .row x y)) (λz=>.w [lim (ba .row a) (ba .row [(Row.mk (rd .row x y).Key (rd .row x y).Val (Time.mk z.2.1 z.2.2) (rd .row x y).Diff)])] (.l (.n (z.1,(a++[(Row.mk (rd .row x y).Key (rd .row x y).Val (Time.mk z.2.1 z.2.2) (rd .row x y).Diff)]))))) nE nE nE)
def bab:=λx y z a b c=>(ED x y z a b c).val
def cab:=λx y z a b c=>(ED x y z a b c).ob
def FD:=λx b y z c a=>fa.mk (bab x b y z c a) (cab x b y z c a) [0,1,0,0,1,0,1,1] [(0,.R x b),(1,.S .row y),(2,.S .time z),(7,.A .row c),(8,.I a)] (Ps x) (λq=>[(0,.R x q.1),(1,.S .row y),(2,.S .time z),(7,.A .row q.2),(8,.I a)]) nE nE nE
theorem Baq(G:Gd wj){fr x y z a b c}:jm fr (FD x y z a b c):=ia G [([0,1,0,0,1,0,0,1,0,1,1],λe=>⟨DD (gL .byte e 0 0) (gI e 0 1) (gL .row e 1 0) (gL .time e 2 0) (gL .row e 7 0) (gI e 8 0) (gRow e 9)⟩)] ⟨λ_=>⟨rfl,Aaq G⟩,trivial⟩ [(5,[0,1,2,7,8,9]),(8,[0,1,2,7,8])] (ED x y z a b c)
def Rs(c:LB)(_:Int)(y:LR)(d:List Time)(z:Int)(a:LR)(x:Int):TX (LR×Int) (Int×LR×Int) (Int×LR):=.c (cmp .lss x (ba .row y)) (.s (FD c z y d a x) (λb=>.l (.n (b.1,b.2,(ar .add .i64 x 1)))) nE nE nE)
 (.l (.x (z,a)))
def lm:=λx y z a b c d=>(Rs x y z a b c d).val
def Ss:=λx y z a b c d=>(Rs x y z a b c d).ob
def AR:=λx d y z a b c=>Ba (lm x d y z a b c) (Ss x d y z a b c) [0,0,1,0,1,1] (λq=>[(0,.R x q.1),(1,.S .row y),(2,.S .time z),(7,.A .row q.2.1),(8,.I q.2.2)]) (a,b,c) (Ps x) (λq=>(0,[(0,.R x q.1),(7,.A .row q.2)])) nE nE
theorem Caq(G:Gd wj){fr x y z a b c d}:jm fr (AR x y z a b c d):=ia G [([0,1,0,0,1,0,1,1],λe=>⟨FD (gL .byte e 0 0) (gI e 0 1) (gL .row e 1 0) (gL .time e 2 0) (gL .row e 7 0) (gI e 8 0)⟩)] ⟨λ_=>⟨rfl,Baq G⟩,trivial⟩ [(3,[0,1,2,7,8,14]),(4,[0,1,2,7,8])] (Rs x y z a b c d)
def dab:=λy x z a=>lpV (λs:Int×LR×Int=>da (lm y x z a s.1 s.2.1 s.2.2)) (x,[],0)
def eab:=λy x z a=>LpT (λs:Int×LR×Int=>da (lm y x z a s.1 s.2.1 s.2.2)) (λs=>Ss y x z a s.1 s.2.1 s.2.2) (x,[],0)
def GD:=λy x z a=>lpS (AR y x z a x [] 0) (dab y x z a) (eab y x z a)
theorem Daq(G:Gd wj){fr y x z a}:jm fr (GD y x z a):=Ca (λs:Int×LR×Int=>AR y x z a s.1 s.2.1 s.2.2) (x,[],0) λ_=>Caq G
def ID(y:LB)(z:Int)(a:LR)(b:List Time):TA (LR×Int) (Int×LR):=.s (GD y z a b) nE (λx=>.l (.n (x.1,x.2))) nE nE
def fab:=λx y z a=>(ID x y z a).val
def gab:=λx y z a=>(ID x y z a).ob
def JD:=λx y z a=>fa.mk (fab x y z a) (gab x y z a) [0,1,1] [(0,.R x y),(1,.S .row z),(2,.S .time a),(7,.A .row [])] (Ps x) (λq=>[(0,.R x q.1),(7,.A .row q.2)]) nE nE nE
theorem Eaq(G:Gd wj){fr x y z a}:jm fr (JD x y z a):=ia G [([0,1,0,1,1],λe=>⟨GD (gL .byte e 0 0) (gI e 0 1) (gL .row e 1 0) (gL .time e 2 0)⟩)] ⟨λ_=>⟨rfl,Daq G⟩,trivial⟩ [(2,[0,1,2,7,8])] (ID x y z a)
def LD(y:(LB×Int))(z:LR)(a:List Time):TN (LR×Int):=.s (JD y.1 y.2 z a) (λx=>.w [Ns x.2] (.l (.r ((im x.2),x.1)))) nE nE nE
def BR:=λx y z=>(LD x y z).val
def CR:=λx y z=>(LD x y z).ob
def Faq:=λx y z=>fa.mk (BR x y z) (CR x y z) [] [(0,.R x.1 x.2),(1,.S .row y),(2,.S .time z)] (Ps x.1) nE nE nE nE
theorem Gaq(G:Gd wj){fr x y z}:jm fr (Faq x y z):=ia G [([0,1,1],λe=>⟨JD (gL .byte e 0 0) (gI e 0 1) (gL .row e 1 0) (gL .time e 2 0)⟩)] ⟨λ_=>⟨rfl,Eaq G⟩,trivial⟩ [(0,[0,1,2]),(1,[0,1,2,7]),(9,[0,6])] (LD x y z)
def de(x:(LB×Int))(y:LR)(z:List Time):LR×Int:=ocR (BR x y z)
def PD(x:(LB×Int))(y:LR)(z:List Time):Prop:=CR x y z
def DR:Spec:=⟨[.rdr,(.lst .row),(.lst .time)],.one .sh (.lst .row),true,λx=>de x.1 x.2.1 x.2.2.1,λx=>PD x.1 x.2.1 x.2.2.1⟩
theorem Haq(G:Gd wj):Con Tryz.prog 76 DR:=Ze (pts:=[.rdr,(.lst .row),(.lst .time)]) (F:=F76) G (λx=>x.1.1) λ_ _=>Gaq G
def SD:SP:=[(28,ZC),(77,Ak),(78,cl),(60,Pr),(58,cD),(61,Qf)]
abbrev F34:Fnn:=⟨[.cell 6 30,.tmp 7],.tup [(false,(.st .sess)),(true,.bool)],none,[]⟩
abbrev ER:Sess×Bool×Unit->RV:=rvF F34
abbrev FR:=@OkF Tryz.prog tt Tryz.f34 F34 (Sess×Bool×Unit)
def UD(_:Int)(_:LR)(x y:Int)(z:LP)(a:List LR)(b:List Time)(c:LR):TA (Sess×Bool×Unit) (Int×Int×LP×(List LR)×(List Time)×LR):=.w [Sf (Sess.mk (Plan.mk x y z) a b c)] (.l (.n ((jd (Sess.mk (Plan.mk x y z) a b c)).Plan.Kind,(jd (Sess.mk (Plan.mk x y z) a b c)).Plan.Num,(jd (Sess.mk (Plan.mk x y z) a b c)).Plan.Kids,(jd (Sess.mk (Plan.mk x y z) a b c)).Ins,(jd (Sess.mk (Plan.mk x y z) a b c)).Front,(jd (Sess.mk (Plan.mk x y z) a b c)).Told)))
def iab:=λx y z a b c d f=>(UD x y z a b c d f).val
def jab:=λx y z a b c d f=>(UD x y z a b c d f).ob
def VD:=λx y z a b c d f=>fa.mk (iab x y z a b c d f) (jab x y z a b c d f) [0,1,1] [(1,.I x),(2,.S .row y),(3,.box [(.fr,.i z),(.fr,.i a),(.sh,.lst .plan b),(.sh,.lst .lrow c),(.sh,.lst .time d),(.sh,.lst .row f)]),(6,.box [(.fr,.i 0),(.fr,.i 0),(.fr,.nl .plan),(.fr,.nl .lrow),(.fr,.nl .time),(.fr,.nl .row)])] ER (λq=>[(1,.I x),(2,.S .row y),(6,.box [(.fr,.i 0),(.fr,.i 0),(.fr,.nl .plan),(.fr,.nl .lrow),(.fr,.nl .time),(.fr,.nl .row)]),(8,.box [(.fr,.i q.1),(.fr,.i q.2.1),(.sh,.lst .plan q.2.2.1),((.acc false),.lst .lrow q.2.2.2.1),(.sh,.lst .time q.2.2.2.2.1),(.sh,.lst .row q.2.2.2.2.2)])]) nE nE nE
theorem Iaq(G:GdB SD 58 jd Sf){fr f g x z a b c d}:FR fr (VD f g x z a b c d):=Cah G.g G.b 30 3 32 33 8 [(1,.same),(2,.same),(6,.same),(8,.same)] (UD f g x z a b c d) (y:=Sess.mk (Plan.mk x z a) b c d)
def XD(x _ _:Int)(_:LP)(y:List LR)(_:List Time)(_ z:LR):TA (Sess×Bool×Unit) ((List LR)):=.w [inb x (ba .lrow y)] (.l (.n (List.set y (Int.toNat x) z)))
def kab:=λx y z a b c d f=>(XD x y z a b c d f).val
def lab:=λx y z a b c d f=>(XD x y z a b c d f).ob
def YD:=λc x y z d a b f=>fa.mk (kab c x y z d a b f) (lab c x y z d a b f) [0,1,1,1,1,1] [(1,.I c),(6,.box [(.fr,.i 0),(.fr,.i 0),(.fr,.nl .plan),(.fr,.nl .lrow),(.fr,.nl .time),(.fr,.nl .row)]),(8,.box [(.fr,.i x),(.fr,.i y),(.sh,.lst .plan z),((.acc false),.lst .lrow d),(.sh,.lst .time a),(.sh,.lst .row b)]),(9,.A .row f)] ER (λq=>[(6,.box [(.fr,.i 0),(.fr,.i 0),(.fr,.nl .plan),(.fr,.nl .lrow),(.fr,.nl .time),(.fr,.nl .row)]),(8,.box [(.fr,.i x),(.fr,.i y),(.sh,.lst .plan z),((.acc false),.lst .lrow q),(.sh,.lst .time a),(.sh,.lst .row b)])]) nE nE nE
theorem Jaq(G:GdB SD 58 jd Sf){fr h x a b c d f g}:FR fr (YD h x a b c d f g):=Eah G.g 30 26 28 8 1 9 48 49 50 51 52 [(0,3),(3,1),(4,1),(5,1)] 1 [(6,.same),(8,.same)] (XD h x a b c d f g) (y:=Sess.mk (Plan.mk x a b) c d f) (kr:=(.acc true)) (z:=g)
def ZD(y:Sess)(z:Int)(a:LR):TN (Sess×Bool×Unit):=.k (Rh (Sess.mk (Plan.mk y.Plan.Kind y.Plan.Num y.Plan.Kids) y.Ins y.Front y.Told)) λb=>.k (Hd z 0 1) λc=>.w [Th (Sess.mk (Plan.mk y.Plan.Kind y.Plan.Num y.Plan.Kids) y.Ins y.Front y.Told),((!(!b))&&true)=true->(ug z 0 1),((!(cond (!b) true (!c)))&&true)=true->(Lh a),((!(cond (cond (!b) true (!c)) true (!(Yg a))))&&true)=true->(Ul a y.Front)] (.c (cond (cond (cond (!b) true (!c)) true (!(Yg a))) true (cmp .gtr (ba .row (Tl a y.Front)) 0)) (.l (.r ((Sess.mk (Plan.mk 0 0 []) [] [] []),(false,()))))
 (.s (VD z a y.Plan.Kind y.Plan.Num y.Plan.Kids y.Ins y.Front y.Told) (λx=>.k (He (([]++(rd .lrow x.2.2.2.1 z))++a)) λd=>.w [inb z (ba .lrow x.2.2.2.1),lim (ba .row []) (ba .row (rd .lrow x.2.2.2.1 z)),lim (ba .row ([]++(rd .lrow x.2.2.2.1 z))) (ba .row a),nf (([]++(rd .lrow x.2.2.2.1 z))++a)] (.w [Lh d] (.c (!(Yg d)) (.l (.r ((Sess.mk (Plan.mk 0 0 []) [] [] []),(false,()))))
 (.s (YD z x.1 x.2.1 x.2.2.1 x.2.2.2.1 x.2.2.2.2.1 x.2.2.2.2.2 d) (λf=>.w [Th (Sess.mk (Plan.mk x.1 x.2.1 x.2.2.1) f x.2.2.2.2.1 x.2.2.2.2.2)] (.c (!(Rh (Sess.mk (Plan.mk x.1 x.2.1 x.2.2.1) f x.2.2.2.2.1 x.2.2.2.2.2))) (.l (.r ((Sess.mk (Plan.mk 0 0 []) [] [] []),(false,()))))
 (.l (.r ((Sess.mk (Plan.mk x.1 x.2.1 x.2.2.1) f x.2.2.2.2.1 x.2.2.2.2.2),(true,())))))) nE nE nE)))) nE nE nE))
def GR:=λx y z=>(ZD x y z).val
def HR:=λx y z=>(ZD x y z).ob
def Kaq:=λx y z=>fa.mk (GR x y z) (HR x y z) [] [(0,.agg false [.i x.Plan.Kind,.i x.Plan.Num,.lst .plan x.Plan.Kids,.lst .lrow x.Ins,.lst .time x.Front,.lst .row x.Told]),(1,.I y),(2,.S .row z)] ER nE nE nE nE
theorem Laq(G:GdB SD 58 jd Sf){fr x y z}:FR fr (Kaq x y z):=ia G.g [([0,1,1],λe=>⟨VD (gI e 1 0) (gL .row e 2 0) (gI e 3 0) (gI e 3 1) (gL .plan e 3 2) (gL .lrow e 3 3) (gL .time e 3 4) (gL .row e 3 5)⟩),([0,1,1,1,1,1],λe=>⟨YD (gI e 1 0) (gI e 8 0) (gI e 8 1) (gL .plan e 8 2) (gL .lrow e 8 3) (gL .time e 8 4) (gL .row e 8 5) (gL .row e 9 0)⟩)] ⟨λ_=>⟨rfl,Iaq G⟩,λ_=>⟨rfl,Jaq G⟩,trivial⟩ [(0,[1,2,3,6]),(1,[1,2,3,6,30]),(2,[6,7]),(4,[1,6,8,9]),(5,[1,6,8,9,46]),(6,[6,7]),(8,[6,8,55]),(9,[6,7]),(10,[6,7])] (ZD x y z)
def yg(x:Sess)(y:Int)(z:LR):Sess×Bool×Unit:=ocR (GR x y z)
def aE(x:Sess)(y:Int)(z:LR):Prop:=HR x y z
def IR:Spec:=⟨[(.st .sess),(.int .i64),(.lst .row)],.tup [(false,(.st .sess)),(true,.bool)],false,λx=>(yg x.1 x.2.1 x.2.2.1,0),λx=>aE x.1 x.2.1 x.2.2.1⟩
theorem Maq(G:GdB SD 58 jd Sf):Con Tryz.prog 34 IR:=va (pts:=[(.st .sess),(.int .i64),(.lst .row)]) (F:=F34) G.g λ_ _=>Laq G
def JR:SP:=[(45,tp),(44,Pf)]
abbrev F48:Fnn:=⟨[.cell 2 32],.one .fr (.st .time),some 0,[]⟩
abbrev mab:LB->Time×Int->RV:=rvR F48
abbrev nab:=@OkF Tryz.prog tt Tryz.f48 F48 (Time×Int)
def Ts(y:LB)(c:Int)(z:Time):TA (Time×Int) (Int×Int×Int):=.k (la (y,c) 16) λx=>.w [Ob (y,c) 16] (.c (cmp .eql x.1 0) (.k (la (y,x.2) 2) λa=>.w [Ob (y,x.2) 2,inb a.1 (ba .int [(-1),8])] (.l (.n (a.2,(rd .int [(-1),8] a.1),z.B))))
 (.c (cmp .eql x.1 1) (.k (la (y,x.2) 2) λb=>.w [Ob (y,x.2) 2,inb b.1 (ba .int [(-1),8])] (.l (.n (b.2,z.A,(rd .int [(-1),8] b.1)))))
 (.l (.n (x.2,z.A,z.B)))))
def MR:=λx y z=>(Ts x y z).val
def NR:=λx y z=>(Ts x y z).ob
def Us:=λx z y=>fa.mk (MR x z y) (NR x z y) [0,1,1] [(0,.R x z),(2,.B [0,0]),(3,.B [y.A,y.B])] (mab x) (λq=>[(0,.R x q.1),(2,.B [0,0]),(3,.B [q.2.1,q.2.2])]) nE nE nE
theorem Naq(G:Gd JR){fr x y z}:nab fr (Us x y z):=ma G [(2,[0,2,3,7]),(3,[0,2,3,7,8]),(4,[0,2,3]),(5,[0,2,3,16]),(6,[0,2,3])] (Ts x y z)
def Vs(x:(LB×Int)):TN (Time×Int):=.k (Hh (x.1,x.2)) λz=>.w [Hk (x.1,x.2)] (.s (Us x.1 z.2 z.1) (λy=>.l (.r ((Time.mk y.2.1 y.2.2),y.1))) nE nE nE)
def PR:=λx=>(Vs x).val
def QR:=λx=>(Vs x).ob
def Oaq:=λx=>fa.mk (PR x) (QR x) [] [(0,.R x.1 x.2)] (mab x.1) nE nE nE nE
theorem Paq(G:Gd JR){fr x}:nab fr (Oaq x):=ia G [([0,1,1],λe=>⟨Us (gL .byte e 0 0) (gI e 0 1) (Uc e 3)⟩)] ⟨λ_=>⟨rfl,Naq G⟩,trivial⟩ [(0,[0,2]),(1,[0,2,3]),(7,[0,2])] (Vs x)
def Ws(x:(LB×Int)):Time×Int:=ocR (PR x)
def bE(x:(LB×Int)):Prop:=QR x
def RR:Spec:=⟨[.rdr],.one .fr (.st .time),true,λx=>Ws x.1,λx=>bE x.1⟩
theorem Qaq(G:Gd JR):Con Tryz.prog 48 RR:=Ze (pts:=[.rdr]) (F:=F48) G (λx=>x.1.1) λ_ _=>Paq G
end
end Go.Proofs.YtiiidenbemkihaaGreat

namespace Go.Proofs.YtiiidenbemkihaaGreat
open Go
noncomputable section
set_option maxRecDepth 100000
def zg:SP:=[(88,I1),(87,aN),(44,Pf),(56,dO),(22,lR),(75,zR),(76,DR),(34,IR),(89,nD),(48,RR)]
abbrev F43:Fnn:=⟨[.cell 2 30],.one .sh (.st .sess),some 0,[]⟩
abbrev Wh:LB->Sess×Int->RV:=rvR F43
abbrev bh:=@OkF Tryz.prog tt Tryz.f43 F43 (Sess×Int)
def cE(d:LB)(f x y:Int)(z:LP)(a:List LR)(b:List Time)(c:LR)(_:Int):TA (Sess×Int) (Int×Int×Int×LP×(List LR)×(List Time)×LR×Bool):=.w [Qy (d,f) (Sess.mk (Plan.mk x y z) a b c),lD (Sess.mk (Plan.mk x y z) a b c) (Yd (d,f) (Sess.mk (Plan.mk x y z) a b c)).1] (.l (.n ((Yd (d,f) (Sess.mk (Plan.mk x y z) a b c)).2,(wg (Sess.mk (Plan.mk x y z) a b c) (Yd (d,f) (Sess.mk (Plan.mk x y z) a b c)).1).1.Plan.Kind,(wg (Sess.mk (Plan.mk x y z) a b c) (Yd (d,f) (Sess.mk (Plan.mk x y z) a b c)).1).1.Plan.Num,(wg (Sess.mk (Plan.mk x y z) a b c) (Yd (d,f) (Sess.mk (Plan.mk x y z) a b c)).1).1.Plan.Kids,(wg (Sess.mk (Plan.mk x y z) a b c) (Yd (d,f) (Sess.mk (Plan.mk x y z) a b c)).1).1.Ins,(wg (Sess.mk (Plan.mk x y z) a b c) (Yd (d,f) (Sess.mk (Plan.mk x y z) a b c)).1).1.Front,(wg (Sess.mk (Plan.mk x y z) a b c) (Yd (d,f) (Sess.mk (Plan.mk x y z) a b c)).1).1.Told,(wg (Sess.mk (Plan.mk x y z) a b c) (Yd (d,f) (Sess.mk (Plan.mk x y z) a b c)).1).2.2.1)))
def oab:=λx y z a b c d f g=>(cE x y z a b c d f g).val
def pab:=λx y z a b c d f g=>(cE x y z a b c d f g).ob
def dE:=λx g y z a b c d f=>fa.mk (oab x g y z a b c d f) (pab x g y z a b c d f) [0,0,1,0,0,0,1,0,0,1,0,1,1] [(0,.R x g),(2,.box [(.fr,.i 0),(.fr,.i 0),(.fr,.nl .plan),(.fr,.nl .lrow),(.fr,.nl .time),(.fr,.nl .row)]),(3,.box [(.fr,.i y),(.fr,.i z),(.sh,.lst .plan a),(.sh,.lst .lrow b),(.sh,.lst .time c),(.sh,.lst .row d)]),(5,.I f)] (Wh x) (λq=>[(0,.R x q.1),(2,.box [(.fr,.i 0),(.fr,.i 0),(.fr,.nl .plan),(.fr,.nl .lrow),(.fr,.nl .time),(.fr,.nl .row)]),(3,.box [(.fr,.i y),(.fr,.i z),(.sh,.lst .plan a),(.sh,.lst .lrow b),(.sh,.lst .time c),(.sh,.lst .row d)]),(5,.I f),(6,.box [(.fr,.i q.2.1),(.fr,.i q.2.2.1),(.sh,.lst .plan q.2.2.2.1),(.sh,.lst .lrow q.2.2.2.2.1),(.sh,.lst .time q.2.2.2.2.2.1),(.sh,.lst .row q.2.2.2.2.2.2.1)]),(8,.O q.2.2.2.2.2.2.2)]) nE nE nE
theorem Raq(G:Gd zg){fr x y z a b c d f g}:bh fr (dE x y z a b c d f g):=Co G [0,2,3,5,6,8] [0,2,3,5,6,7,8,26,27,28,29,30,31,32,33,34] (cE x y z a b c d f g)
def eE(_:LB)(_ x y:Int)(z:LP)(a:List LR)(b:List Time)(c:LR)(_ d f:Int)(g:LP)(h:List LR)(i:List Time)(j:LR)(k:Bool):TA (Sess×Int) (Int×Int×LP×(List LR)×(List Time)×LR):=.c k (.l (.n (d,f,g,h,i,j)))
 (.l (.n (x,y,z,a,b,c)))
def qab:=λx y z a b c d f g h i j k l m n=>(eE x y z a b c d f g h i j k l m n).val
def rab:=λx y z a b c d f g h i j k l m n=>(eE x y z a b c d f g h i j k l m n).ob
def fE:=λx y a b c d f g z h i j k l m n=>fa.mk (qab x y a b c d f g z h i j k l m n) (rab x y a b c d f g z h i j k l m n) [0,1,0,1,0,0,0,1,0,0,1,0,1,1] [(0,.R x y),(2,.box [(.fr,.i 0),(.fr,.i 0),(.fr,.nl .plan),(.fr,.nl .lrow),(.fr,.nl .time),(.fr,.nl .row)]),(3,.box [(.fr,.i a),(.fr,.i b),(.sh,.lst .plan c),(.sh,.lst .lrow d),(.sh,.lst .time f),(.sh,.lst .row g)]),(5,.I z),(6,.box [(.fr,.i h),(.fr,.i i),(.sh,.lst .plan j),(.sh,.lst .lrow k),(.sh,.lst .time l),(.sh,.lst .row m)]),(8,.O n)] (Wh x) (λq=>[(0,.R x y),(2,.box [(.fr,.i 0),(.fr,.i 0),(.fr,.nl .plan),(.fr,.nl .lrow),(.fr,.nl .time),(.fr,.nl .row)]),(3,.box [(.fr,.i q.1),(.fr,.i q.2.1),(.sh,.lst .plan q.2.2.1),(.sh,.lst .lrow q.2.2.2.1),(.sh,.lst .time q.2.2.2.2.1),(.sh,.lst .row q.2.2.2.2.2)]),(5,.I z)]) nE nE nE
theorem Saq(G:Gd zg){fr x y z a b c d f g h i j k l m n}:bh fr (fE x y z a b c d f g h i j k l m n):=ma G [(7,[0,2,3,5,6,35]),(8,[0,2,3,5])] (eE x y z a b c d f g h i j k l m n)
def gE(x:LB)(y a b:Int)(c:LP)(d:List LR)(z:List Time)(f:LR)(_:Int):TA (Sess×Int) (Int×Int×Int×LP×(List LR)×(List Time)×LR×Bool):=.w [Ob (x,y) 2,(AD (x,(la (x,y) 2).2) 3),(PD (x,(Qb (x,(la (x,y) 2).2) 3).2) (Qb (x,(la (x,y) 2).2) 3).1 z),(aE (Sess.mk (Plan.mk a b c) d z f) (la (x,y) 2).1 (de (x,(Qb (x,(la (x,y) 2).2) 3).2) (Qb (x,(la (x,y) 2).2) 3).1 z).1)] (.l (.n ((de (x,(Qb (x,(la (x,y) 2).2) 3).2) (Qb (x,(la (x,y) 2).2) 3).1 z).2,(yg (Sess.mk (Plan.mk a b c) d z f) (la (x,y) 2).1 (de (x,(Qb (x,(la (x,y) 2).2) 3).2) (Qb (x,(la (x,y) 2).2) 3).1 z).1).1.Plan.Kind,(yg (Sess.mk (Plan.mk a b c) d z f) (la (x,y) 2).1 (de (x,(Qb (x,(la (x,y) 2).2) 3).2) (Qb (x,(la (x,y) 2).2) 3).1 z).1).1.Plan.Num,(yg (Sess.mk (Plan.mk a b c) d z f) (la (x,y) 2).1 (de (x,(Qb (x,(la (x,y) 2).2) 3).2) (Qb (x,(la (x,y) 2).2) 3).1 z).1).1.Plan.Kids,(yg (Sess.mk (Plan.mk a b c) d z f) (la (x,y) 2).1 (de (x,(Qb (x,(la (x,y) 2).2) 3).2) (Qb (x,(la (x,y) 2).2) 3).1 z).1).1.Ins,(yg (Sess.mk (Plan.mk a b c) d z f) (la (x,y) 2).1 (de (x,(Qb (x,(la (x,y) 2).2) 3).2) (Qb (x,(la (x,y) 2).2) 3).1 z).1).1.Front,(yg (Sess.mk (Plan.mk a b c) d z f) (la (x,y) 2).1 (de (x,(Qb (x,(la (x,y) 2).2) 3).2) (Qb (x,(la (x,y) 2).2) 3).1 z).1).1.Told,(yg (Sess.mk (Plan.mk a b c) d z f) (la (x,y) 2).1 (de (x,(Qb (x,(la (x,y) 2).2) 3).2) (Qb (x,(la (x,y) 2).2) 3).1 z).1).2.1)))
def sab:=λx y z a b c d f g=>(gE x y z a b c d f g).val
def tab:=λx y z a b c d f g=>(gE x y z a b c d f g).ob
def iE:=λx g y z a b c d f=>fa.mk (sab x g y z a b c d f) (tab x g y z a b c d f) [0,1,0,0,1,0,0,1,0,1,1] [(0,.R x g),(2,.box [(.fr,.i 0),(.fr,.i 0),(.fr,.nl .plan),(.fr,.nl .lrow),(.fr,.nl .time),(.fr,.nl .row)]),(3,.box [(.fr,.i y),(.fr,.i z),(.sh,.lst .plan a),(.sh,.lst .lrow b),(.sh,.lst .time c),(.sh,.lst .row d)]),(5,.I f)] (Wh x) (λq=>[(0,.R x q.1),(2,.box [(.fr,.i 0),(.fr,.i 0),(.fr,.nl .plan),(.fr,.nl .lrow),(.fr,.nl .time),(.fr,.nl .row)]),(3,.box [(.fr,.i y),(.fr,.i z),(.sh,.lst .plan a),(.sh,.lst .lrow b),(.sh,.lst .time c),(.sh,.lst .row d)]),(5,.I f),(9,.box [(.fr,.i q.2.1),(.fr,.i q.2.2.1),(.sh,.lst .plan q.2.2.2.1),(.sh,.lst .lrow q.2.2.2.2.1),(.sh,.lst .time q.2.2.2.2.2.1),(.sh,.lst .row q.2.2.2.2.2.2.1)]),(10,.O q.2.2.2.2.2.2.2)]) nE nE nE
theorem Taq(G:Gd zg){fr x y z a b c d f g}:bh fr (iE x y z a b c d f g):=Co G [0,2,3,5,9,10] [0,2,3,5,9,10,37,38,39,40,41,42,43,44,45,46,47,48,49] (gE x y z a b c d f g)
def jE(a:LB)(k b c:Int)(d:LP)(f:List LR)(g:List Time)(h:LR)(i:Int):TA (Sess×Int) (Int×Int×Int×LP×(List LR)×(List Time)×LR):=.k (la (a,k) 3) λj=>.w [Ob (a,k) 3] (.c (cmp .eql j.1 0) (.s (dE a j.2 b c d f g h i) (λx=>.s (fE a x.1 b c d f g h i x.2.1 x.2.2.1 x.2.2.2.1 x.2.2.2.2.1 x.2.2.2.2.2.1 x.2.2.2.2.2.2.1 x.2.2.2.2.2.2.2) (λz=>.l (.n (x.1,z.1,z.2.1,z.2.2.1,z.2.2.2.1,z.2.2.2.2.1,z.2.2.2.2.2))) nE nE nE) nE nE nE)
 (.s (iE a j.2 b c d f g h i) (λy=>.c y.2.2.2.2.2.2.2 (.l (.n (y.1,y.2.1,y.2.2.1,y.2.2.2.1,y.2.2.2.2.1,y.2.2.2.2.2.1,y.2.2.2.2.2.2.1)))
 (.l (.n (y.1,b,c,d,f,g,h)))) nE nE nE))
def TR:=λx y z a b c d f g=>(jE x y z a b c d f g).val
def kE:=λx y z a b c d f g=>(jE x y z a b c d f g).ob
def lE:=λx z a b c d f g y=>fa.mk (TR x z a b c d f g y) (kE x z a b c d f g y) [0,1,0,0,1,0,1,1] [(0,.R x z),(2,.box [(.fr,.i 0),(.fr,.i 0),(.fr,.nl .plan),(.fr,.nl .lrow),(.fr,.nl .time),(.fr,.nl .row)]),(3,.box [(.fr,.i a),(.fr,.i b),(.sh,.lst .plan c),(.sh,.lst .lrow d),(.sh,.lst .time f),(.sh,.lst .row g)]),(5,.I y)] (Wh x) (λq=>[(0,.R x q.1),(2,.box [(.fr,.i 0),(.fr,.i 0),(.fr,.nl .plan),(.fr,.nl .lrow),(.fr,.nl .time),(.fr,.nl .row)]),(3,.box [(.fr,.i q.2.1),(.fr,.i q.2.2.1),(.sh,.lst .plan q.2.2.2.1),(.sh,.lst .lrow q.2.2.2.2.1),(.sh,.lst .time q.2.2.2.2.2.1),(.sh,.lst .row q.2.2.2.2.2.2)]),(5,.I y)]) nE nE nE
theorem Uaq(G:Gd zg){fr x y z a b c d f g}:bh fr (lE x y z a b c d f g):=ia G [([0,0,1,0,0,0,1,0,0,1,0,1,1],λe=>⟨dE (gL .byte e 0 0) (gI e 0 1) (gI e 3 0) (gI e 3 1) (gL .plan e 3 2) (gL .lrow e 3 3) (gL .time e 3 4) (gL .row e 3 5) (gI e 5 0)⟩),([0,1,0,1,0,0,0,1,0,0,1,0,1,1],λe=>⟨fE (gL .byte e 0 0) (gI e 0 1) (gI e 3 0) (gI e 3 1) (gL .plan e 3 2) (gL .lrow e 3 3) (gL .time e 3 4) (gL .row e 3 5) (gI e 5 0) (gI e 6 0) (gI e 6 1) (gL .plan e 6 2) (gL .lrow e 6 3) (gL .time e 6 4) (gL .row e 6 5) (gB e 8 0)⟩),([0,1,0,0,1,0,0,1,0,1,1],λe=>⟨iE (gL .byte e 0 0) (gI e 0 1) (gI e 3 0) (gI e 3 1) (gL .plan e 3 2) (gL .lrow e 3 3) (gL .time e 3 4) (gL .row e 3 5) (gI e 5 0)⟩)] ⟨λ_=>⟨rfl,Raq G⟩,λ_=>⟨rfl,Saq G⟩,λ_=>⟨rfl,Taq G⟩,trivial⟩ [(5,[0,2,3,5,25]),(10,[0,2,3,5,9,50]),(11,[0,2,3,5])] (jE x y z a b c d f g)
def Xs(h:LB)(_ _ _:Int)(_:LP)(_:List LR)(_:List Time)(_:LR)(_ z a b:Int)(c:LP)(d:List LR)(f:List Time)(g:LR)(y:Int):TX (Sess×Int) (Int×Int×Int×LP×(List LR)×(List Time)×LR×Int) (Int×Int×Int×LP×(List LR)×(List Time)×LR):=.c (cmp .gtr y 0) (.s (lE h z a b c d f g y) (λx=>.l (.n (x.1,x.2.1,x.2.2.1,x.2.2.2.1,x.2.2.2.2.1,x.2.2.2.2.2.1,x.2.2.2.2.2.2,(ar .sub .i64 y 1)))) nE nE nE)
 (.l (.x (z,a,b,c,d,f,g)))
def mm:=λx y z a b c d f g h i j k l m n o=>(Xs x y z a b c d f g h i j k l m n o).val
def Ys:=λx y z a b c d f g h i j k l m n o=>(Xs x y z a b c d f g h i j k l m n o).ob
def UR:=λx h i j k l m n o y z a b c d f g=>Ba (mm x h i j k l m n o y z a b c d f g) (Ys x h i j k l m n o y z a b c d f g) [0,0,1,0,1,1] (λq=>[(0,.R x q.1),(2,.box [(.fr,.i 0),(.fr,.i 0),(.fr,.nl .plan),(.fr,.nl .lrow),(.fr,.nl .time),(.fr,.nl .row)]),(3,.box [(.fr,.i q.2.1),(.fr,.i q.2.2.1),(.sh,.lst .plan q.2.2.2.1),(.sh,.lst .lrow q.2.2.2.2.1),(.sh,.lst .time q.2.2.2.2.2.1),(.sh,.lst .row q.2.2.2.2.2.2.1)]),(5,.I q.2.2.2.2.2.2.2)]) (y,z,a,b,c,d,f,g) (Wh x) (λq=>(0,[(0,.R x q.1),(2,.box [(.fr,.i 0),(.fr,.i 0),(.fr,.nl .plan),(.fr,.nl .lrow),(.fr,.nl .time),(.fr,.nl .row)]),(3,.box [(.fr,.i q.2.1),(.fr,.i q.2.2.1),(.sh,.lst .plan q.2.2.2.1),(.sh,.lst .lrow q.2.2.2.2.1),(.sh,.lst .time q.2.2.2.2.2.1),(.sh,.lst .row q.2.2.2.2.2.2)])])) nE nE
theorem Vaq(G:Gd zg){fr x y z a b c d f g h i j k l m n o}:bh fr (UR x y z a b c d f g h i j k l m n o):=ia G [([0,1,0,0,1,0,1,1],λe=>⟨lE (gL .byte e 0 0) (gI e 0 1) (gI e 3 0) (gI e 3 1) (gL .plan e 3 2) (gL .lrow e 3 3) (gL .time e 3 4) (gL .row e 3 5) (gI e 5 0)⟩)] ⟨λ_=>⟨rfl,Uaq G⟩,trivial⟩ [(3,[0,2,3,5,20]),(4,[0,2,3,5])] (Xs x y z a b c d f g h i j k l m n o)
def uab:=λg x y z a b c d f=>lpV (λs:Int×Int×Int×LP×(List LR)×(List Time)×LR×Int=>da (mm g x y z a b c d f s.1 s.2.1 s.2.2.1 s.2.2.2.1 s.2.2.2.2.1 s.2.2.2.2.2.1 s.2.2.2.2.2.2.1 s.2.2.2.2.2.2.2)) (x,y,z,a,b,c,d,f)
def vab:=λg x y z a b c d f=>LpT (λs:Int×Int×Int×LP×(List LR)×(List Time)×LR×Int=>da (mm g x y z a b c d f s.1 s.2.1 s.2.2.1 s.2.2.2.1 s.2.2.2.2.1 s.2.2.2.2.2.1 s.2.2.2.2.2.2.1 s.2.2.2.2.2.2.2)) (λs=>Ys g x y z a b c d f s.1 s.2.1 s.2.2.1 s.2.2.2.1 s.2.2.2.2.1 s.2.2.2.2.2.1 s.2.2.2.2.2.2.1 s.2.2.2.2.2.2.2) (x,y,z,a,b,c,d,f)
def mE:=λg x y z a b c d f=>lpS (UR g x y z a b c d f x y z a b c d f) (uab g x y z a b c d f) (vab g x y z a b c d f)
theorem Waq(G:Gd zg){fr g x y z a b c d f}:bh fr (mE g x y z a b c d f):=Ca (λs:Int×Int×Int×LP×(List LR)×(List Time)×LR×Int=>UR g x y z a b c d f s.1 s.2.1 s.2.2.1 s.2.2.2.1 s.2.2.2.2.1 s.2.2.2.2.2.1 s.2.2.2.2.2.2.1 s.2.2.2.2.2.2.2) (x,y,z,a,b,c,d,f) λ_=>Vaq G
def oE(y:LB)(z b c:Int)(d:LP)(f:List LR)(g:List Time)(h:LR):TA (Sess×Int) (Int×Int×Int×LP×(List LR)×(List Time)×LR):=.k (la (y,z) 7) λa=>.w [Ob (y,z) 7] (.s (mE y a.2 b c d f g h a.1) nE (λx=>.l (.n (x.1,x.2.1,x.2.2.1,x.2.2.2.1,x.2.2.2.2.1,x.2.2.2.2.2.1,x.2.2.2.2.2.2))) nE nE)
def WR:=λx y z a b c d f=>(oE x y z a b c d f).val
def XR:=λx y z a b c d f=>(oE x y z a b c d f).ob
def pE:=λx y z a b c d f=>fa.mk (WR x y z a b c d f) (XR x y z a b c d f) [0,1,1] [(0,.R x y),(2,.box [(.fr,.i 0),(.fr,.i 0),(.fr,.nl .plan),(.fr,.nl .lrow),(.fr,.nl .time),(.fr,.nl .row)]),(3,.box [(.fr,.i z),(.fr,.i a),(.sh,.lst .plan b),(.sh,.lst .lrow c),(.sh,.lst .time d),(.sh,.lst .row f)])] (Wh x) (λq=>[(0,.R x q.1),(2,.box [(.fr,.i 0),(.fr,.i 0),(.fr,.nl .plan),(.fr,.nl .lrow),(.fr,.nl .time),(.fr,.nl .row)]),(3,.box [(.fr,.i q.2.1),(.fr,.i q.2.2.1),(.sh,.lst .plan q.2.2.2.1),(.sh,.lst .lrow q.2.2.2.2.1),(.sh,.lst .time q.2.2.2.2.2.1),(.sh,.lst .row q.2.2.2.2.2.2)])]) nE nE nE
theorem Xaq(G:Gd zg){fr x y z a b c d f}:bh fr (pE x y z a b c d f):=ia G [([0,1,0,1,1],λe=>⟨mE (gL .byte e 0 0) (gI e 0 1) (gI e 3 0) (gI e 3 1) (gL .plan e 3 2) (gL .lrow e 3 3) (gL .time e 3 4) (gL .row e 3 5) (gI e 5 0)⟩)] ⟨λ_=>⟨rfl,Waq G⟩,trivial⟩ [(2,[0,2,3,5])] (oE x y z a b c d f)
def qE(y:LB)(f _ _:Int)(_:LP)(z:List LR)(a:List Time)(b:LR):TA (Sess×Int) (Int×(List LR)×(List Time)×LR):=.k (la (y,f) 24) λx=>.w [Ob (y,f) 24] (.c (cmp .eql x.1 0) (.k (xg (y,x.2)) λc=>.w [lim (ba .row []) (ba .row b),Is (y,x.2),lim (ba .row ([]++b)) (ba .row [c.1])] (.l (.n (c.2,z,a,(([]++b)++[c.1])))))
 (.c (cmp .eql x.1 1) (.k (Ws (y,x.2)) λd=>.w [lim (ba .time []) (ba .time a),bE (y,x.2),lim (ba .time ([]++a)) (ba .time [d.1])] (.l (.n (d.2,z,(([]++a)++[d.1]),b))))
 (.c (cmp .eql x.1 2) (.w [le3 1 (ba .lrow z) (ba .lrow z)] (.l (.n (x.2,(List.drop (Int.toNat 1) z),a,b))))
 (.l (.n (x.2,z,a,b))))))
def YR:=λx y z a b c d f=>(qE x y z a b c d f).val
def ZR:=λx y z a b c d f=>(qE x y z a b c d f).ob
def rE:=λx b y z a c d f=>fa.mk (YR x b y z a c d f) (ZR x b y z a c d f) [0,1,1,1] [(0,.R x b),(2,.box [(.fr,.i 0),(.fr,.i 0),(.fr,.nl .plan),(.fr,.nl .lrow),(.fr,.nl .time),(.fr,.nl .row)]),(3,.box [(.fr,.i y),(.fr,.i z),(.sh,.lst .plan a),(.sh,.lst .lrow c),(.sh,.lst .time d),(.sh,.lst .row f)])] (Wh x) (λq=>[(0,.R x q.1),(2,.box [(.fr,.i 0),(.fr,.i 0),(.fr,.nl .plan),(.fr,.nl .lrow),(.fr,.nl .time),(.fr,.nl .row)]),(3,.box [(.fr,.i y),(.fr,.i z),(.sh,.lst .plan a),(.sh,.lst .lrow q.2.1),(.sh,.lst .time q.2.2.1),(.sh,.lst .row q.2.2.2)])]) nE nE nE
theorem Yaq(G:Gd zg){fr x y z a b c d f}:bh fr (rE x y z a b c d f):=ma G [(12,[0,2,3,53]),(13,[0,2,3,53,54]),(14,[0,2,3]),(15,[0,2,3,53,65]),(16,[0,2,3]),(17,[0,2,3,76]),(18,[0,2,3])] (qE x y z a b c d f)
def sE(z:(LB×Int)):TN (Sess×Int):=.k (Gh (z.1,z.2) 3) λy=>.k (Gx (Plan.mk y.1.Kind y.1.Num y.1.Kids)) λa=>.w [FM (z.1,z.2) 3,Hx (Plan.mk y.1.Kind y.1.Num y.1.Kids)] (.s (pE z.1 y.2 a.1.Plan.Kind a.1.Plan.Num a.1.Plan.Kids a.1.Ins a.1.Front a.1.Told) (λx=>.s (rE z.1 x.1 x.2.1 x.2.2.1 x.2.2.2.1 x.2.2.2.2.1 x.2.2.2.2.2.1 x.2.2.2.2.2.2) (λb=>.l (.r ((Sess.mk (Plan.mk x.2.1 x.2.2.1 x.2.2.2.1) b.2.1 b.2.2.1 b.2.2.2),b.1))) nE nE nE) nE nE nE)
def aS:=λx=>(sE x).val
def dS:=λx=>(sE x).ob
def Zaq:=λx=>fa.mk (aS x) (dS x) [] [(0,.R x.1 x.2)] (Wh x.1) nE nE nE nE
theorem aar(G:Gd zg){fr x}:bh fr (Zaq x):=ia G [([0,1,1],λe=>⟨pE (gL .byte e 0 0) (gI e 0 1) (gI e 3 0) (gI e 3 1) (gL .plan e 3 2) (gL .lrow e 3 3) (gL .time e 3 4) (gL .row e 3 5)⟩),([0,1,1,1],λe=>⟨rE (gL .byte e 0 0) (gI e 0 1) (gI e 3 0) (gI e 3 1) (gL .plan e 3 2) (gL .lrow e 3 3) (gL .time e 3 4) (gL .row e 3 5)⟩)] ⟨λ_=>⟨rfl,Xaq G⟩,λ_=>⟨rfl,Yaq G⟩,trivial⟩ [(0,[0,2]),(1,[0,2,3]),(19,[0,2])] (sE x)
def Zs(x:(LB×Int)):Sess×Int:=ocR (aS x)
def eS(x:(LB×Int)):Prop:=dS x
def wab:Spec:=⟨[.rdr],.one .sh (.st .sess),true,λx=>Zs x.1,λx=>eS x.1⟩
theorem bar(G:Gd zg):Con Tryz.prog 43 wab:=Ze (pts:=[.rdr]) (F:=F43) G (λx=>x.1.1) λ_ _=>aar G
def xab:SP:=[]
abbrev F51:Fnn:=⟨[.tmp 2],.one .fr .bool,none,[]⟩
abbrev car:Bool->RV:=rvF F51
abbrev dar:=@OkF Tryz.prog tt Tryz.f51 F51 Bool
def fS(x:Time):TN Bool:=.l (.r (cond (cond (cond (cmp .geq x.A 0) (cmp .leq x.A 7) false) (cmp .geq x.B 0) false) (cmp .leq x.B 7) false))
def yab:=λx=>(fS x).val
def zab:=λx=>(fS x).ob
def ear:=λx=>fa.mk (yab x) (zab x) [] [(0,.agg true [.i x.A,.i x.B])] car nE nE nE nE
theorem gar(G:Gd xab){fr x}:dar fr (ear x):=ma G [(0,[1]),(1,[2])] (fS x)
def Xh(x:Time):Bool:=ocR (yab x)
def nm(x:Time):Prop:=zab x
def om:Spec:=⟨[(.st .time)],.one .fr .bool,false,λx=>(Xh x.1,0),λx=>nm x.1⟩
theorem Aab(G:Gd xab):Con Tryz.prog 51 om:=va (pts:=[(.st .time)]) (F:=F51) G λ_ _=>gar G
def bt:SP:=[(51,om)]
abbrev F54:Fnn:=⟨[.tmp 2],.one .fr .bool,none,[]⟩
abbrev iS:Bool->RV:=rvF F54
abbrev tE:=@OkF Tryz.prog tt Tryz.f54 F54 Bool
def pm(y:List Time)(a x:Int):TX Bool Int Unit:=.c (cmp .lss x a) (.w [inb x (ba .time y)] (.k (Xh (rd .time y x)) λz=>.w [nm (rd .time y x),((cmp .gtr x 0)&&((!(!z))&&true))=true->inb (ar .sub .i64 x 1) (ba .time y),((!(cmp .geq (rd .time y (ar .sub .i64 x 1)).A (rd .time y x).A))&&((cmp .gtr x 0)&&((!(!z))&&true)))=true->inb (ar .sub .i64 x 1) (ba .time y)] (.c (cond (!z) true (cond (cmp .gtr x 0) (cond (cmp .geq (rd .time y (ar .sub .i64 x 1)).A (rd .time y x).A) true (cmp .leq (rd .time y (ar .sub .i64 x 1)).B (rd .time y x).B)) false)) (.l (.r false))
 (.l (.n (ar .add .i64 x 1))))))
 (.l (.x ()))
def xj:=λx y z=>(pm x y z).val
def qm:=λx y z=>(pm x y z).ob
def jS:=λx y z=>Ba (xj x y z) (qm x y z) [0,0,1,0,1] (λq=>[(0,.S .time x),(5,.S .time x),(6,.I y),(7,.I q)]) z iS (λ_=>(0,[])) nE nE
theorem har(G:Gd bt){fr x y z}:tE fr (jS x y z):=ma G [(2,[0,5,6,7,8]),(3,[0,3,4,5,6,7]),(4,[0,5,6,7,40]),(5,[2]),(6,[0,5,6,7])] (pm x y z)
def Bab:=λx y=>lpV (λs:Int=>da (xj x y s)) 0
def Cab:=λx y=>LpT (λs:Int=>da (xj x y s)) (λs=>qm x y s) 0
def uE:=λx y=>lpS (jS x y 0) (Bab x y) (Cab x y)
theorem iar(G:Gd bt){fr x y}:tE fr (uE x y):=Ca (λs:Int=>jS x y s) 0 λ_=>har G
def vE(x:List Time):TA Bool Unit:=.s (uE x (ba .time x)) nE (λ_=>.l (.n ())) nE nE
def Dab:=λx=>(vE x).val
def Eab:=λx=>(vE x).ob
def xE:=λx=>fa.mk (Dab x) (Eab x) [0,1] [(0,.S .time x)] iS (λ_=>[]) nE nE nE
theorem jar(G:Gd bt){fr x}:tE fr (xE x):=ia G [([0,1,0,1],λe=>⟨uE (gL .time e 0 0) (gI e 6 0)⟩)] ⟨λ_=>⟨rfl,iar G⟩,trivial⟩ [(1,[0,5,6,7])] (vE x)
def yE(x:List Time):TN Bool:=.s (xE x) (λ_=>.l (.r true)) nE nE nE
def kS:=λx=>(yE x).val
def lS:=λx=>(yE x).ob
def kar:=λx=>fa.mk (kS x) (lS x) [] [(0,.S .time x)] iS nE nE nE nE
theorem lar(G:Gd bt){fr x}:tE fr (kar x):=ia G [([0,1],λe=>⟨xE (gL .time e 0 0)⟩)] ⟨λ_=>⟨rfl,jar G⟩,trivial⟩ [(0,[0]),(7,[2])] (yE x)
def zE(x:List Time):Bool:=ocR (kS x)
def BE(x:List Time):Prop:=lS x
def mS:Spec:=⟨[(.lst .time)],.one .fr .bool,false,λx=>(zE x.1,0),λx=>BE x.1⟩
theorem mar(G:Gd bt):Con Tryz.prog 54 mS:=va (pts:=[(.lst .time)]) (F:=F54) G λ_ _=>lar G
def CE:SP:=[]
abbrev nS:Fnn:=⟨[.tmp 2,.tmp 3,.tmp 4],.tup [(true,(.int .i64)),(true,(.int .i64)),(true,(.int .i64))],none,[]⟩
abbrev oS:Int×Int×Int×Unit->RV:=rvF nS
abbrev pS:=@OkF Tryz.prog tt Tryz.f133 nS (Int×Int×Int×Unit)
def DE(x:Int):TA (Int×Int×Int×Unit) Bool:=.c (cmp .eql x 3) (.l (.n (cmp .eql x 3)))
 (.l (.n (cmp .eql x 5)))
def Fab:=λx=>(DE x).val
def Gab:=λx=>(DE x).ob
def EE:=λx=>fa.mk (Fab x) (Gab x) [0,1,1,1,1,0,1,0,1] [(5,.I x)] oS (λq=>[(5,.I x),(10,.O q)]) nE nE nE
theorem nar(G:Gd CE){fr x}:pS fr (EE x):=ma G [(6,[5,10]),(7,[5,10])] (DE x)
def FE(x:Int):TA (Int×Int×Int×Unit) Unit:=.c (cmp .eql x 1) (.l (.r (0,(0,(1,())))))
 (.c (cmp .eql x 2) (.l (.r (1,(1,(7,())))))
 (.s (EE x) (λy=>.c y (.l (.r (2,(0,(0,())))))
 (.c (cmp .eql x 4) (.l (.r (1,(0,(0,())))))
 (.c (cmp .eql x 6) (.l (.r (1,(1,(3,())))))
 (.l (.n ()))))) nE nE nE))
def Hab:=λx=>(FE x).val
def Iab:=λx=>(FE x).ob
def GE:=λx=>fa.mk (Hab x) (Iab x) [0,1] [(0,.I x)] oS (λ_=>[]) nE nE nE
theorem oar(G:Gd CE){fr x}:pS fr (GE x):=ia G [([0,1,1,1,1,0,1,0,1],λe=>⟨EE (gI e 5 0)⟩)] ⟨λ_=>⟨rfl,nar G⟩,trivial⟩ [(1,[5]),(2,[5,6]),(3,[2,3,4]),(4,[5,8]),(5,[2,3,4]),(8,[2,3,4]),(9,[5,13]),(10,[2,3,4]),(11,[15]),(12,[2,3,4])] (FE x)
def IE(x:Int):TN (Int×Int×Int×Unit):=.s (GE x) (λ_=>.l (.r ((-1),(0,(0,()))))) nE nE nE
def qS:=λx=>(IE x).val
def rS:=λx=>(IE x).ob
def par:=λx=>fa.mk (qS x) (rS x) [] [(0,.I x)] oS nE nE nE nE
theorem qar(G:Gd CE){fr x}:pS fr (par x):=ia G [([0,1],λe=>⟨GE (gI e 0 0)⟩)] ⟨λ_=>⟨rfl,oar G⟩,trivial⟩ [(0,[0]),(13,[2,3,4])] (IE x)
def Yh(x:Int):Int×Int×Int×Unit:=ocR (qS x)
def JE(x:Int):Prop:=rS x
def uS:Spec:=⟨[(.int .i64)],.tup [(true,(.int .i64)),(true,(.int .i64)),(true,(.int .i64))],false,λx=>(Yh x.1,0),λx=>JE x.1⟩
theorem rar(G:Gd CE):Con Tryz.prog 133 uS:=va (pts:=[(.int .i64)]) (F:=nS) G λ_ _=>qar G
abbrev qf:=Plan->Int->Bool
abbrev tf:=Plan->Int->Prop
def LE(v:qf)(p:tf):Spec:=⟨[(.st .plan),(.int .i64)],.one .fr .bool,false,λx=>(v x.1 x.2.1,0),λx=>p x.1 x.2.1⟩
def ct(r105V:qf)(r105P:tf):SP:=[(133,uS),(105,LE r105V r105P)]
abbrev vS:Fnn:=⟨[.tmp 4],.one .fr .bool,none,[]⟩
abbrev wS:Bool->RV:=rvF vS
abbrev ME:=@OkF Tryz.prog tt Tryz.f105 vS Bool
def et(r105V:qf)(r105P:tf)(z:Int)(y:LP)(a x:Int):TX Bool Int Unit:=.c (cmp .lss x a) (.w [inb x (ba .plan y)] (.w [r105P (Plan.mk (rd .plan y x).Kind (rd .plan y x).Num (rd .plan y x).Kids) (ar .sub .i64 z 1)] (.c (!(r105V (Plan.mk (rd .plan y x).Kind (rd .plan y x).Num (rd .plan y x).Kids) (ar .sub .i64 z 1))) (.l (.r false))
 (.l (.n (ar .add .i64 x 1))))))
 (.l (.x ()))
def rm:=λr105V r105P x y z a=>(et r105V r105P x y z a).val
def ft:=λr105V r105P x y z a=>(et r105V r105P x y z a).ob
def xS:=λr105V r105P x y z a=>Ba (rm r105V r105P x y z a) (ft r105V r105P x y z a) [0,0,1,0,1,1,1] (λq=>[(1,.I x),(43,.S .plan y),(44,.I z),(45,.I q)]) a wS (λ_=>(0,[])) nE nE
theorem sar{r105V:qf}{r105P:tf}(G:Gd (ct r105V r105P)){fr x y z a}:ME fr (xS r105V r105P x y z a):=ma G [(5,[1,43,44,45,46]),(6,[1,9,43,44,45]),(7,[1,43,44,45,53]),(8,[4]),(9,[1,43,44,45])] (et r105V r105P x y z a)
def Jab:=λr105V r105P x y z=>lpV (λs:Int=>da (rm r105V r105P x y z s)) 0
def Kab:=λr105V r105P x y z=>LpT (λs:Int=>da (rm r105V r105P x y z s)) (λs=>ft r105V r105P x y z s) 0
def PE:=λr105V r105P x y z=>lpS (xS r105V r105P x y z 0) (Jab r105V r105P x y z) (Kab r105V r105P x y z)
theorem tar{r105V:qf}{r105P:tf}(G:Gd (ct r105V r105P)){fr x y z}:ME fr (PE r105V r105P x y z):=Ca (λs:Int=>xS r105V r105P x y z s) 0 λ_=>sar G
def RE(r105V:qf)(r105P:tf)(y _ _:Int)(x:LP):TA Bool Unit:=.s (PE r105V r105P y x (ba .plan x)) nE (λ_=>.l (.n ())) nE nE
def Lab:=λr105V r105P x y z a=>(RE r105V r105P x y z a).val
def Mab:=λr105V r105P x y z a=>(RE r105V r105P x y z a).ob
def SE:=λr105V r105P x y z a=>fa.mk (Lab r105V r105P x y z a) (Mab r105V r105P x y z a) [0,1,1,1] [(1,.I x),(2,.box [(.fr,.i y),(.fr,.i z),(.sh,.lst .plan a)])] wS (λ_=>[]) nE nE nE
theorem uar{r105V:qf}{r105P:tf}(G:Gd (ct r105V r105P)){fr x y z a}:ME fr (SE r105V r105P x y z a):=ia G [([0,1,0,1,1,1],λe=>⟨PE r105V r105P (gI e 1 0) (gL .plan e 43 0) (gI e 44 0)⟩)] ⟨λ_=>⟨rfl,tar G⟩,trivial⟩ [(4,[1,43,44,45])] (RE r105V r105P x y z a)
def um(r105V:qf)(r105P:tf)(x:Plan)(z:Int):TN Bool:=.k (Yh x.Kind) λy=>.w [JE x.Kind] (.c (cond (cond (cond (cond (cmp .lss z 1) true (cmp .lss y.1 0)) true (cmp .neq (ba .plan x.Kids) y.1)) true (cmp .lss x.Num y.2.1)) true (cmp .gtr x.Num y.2.2.1)) (.l (.r false))
 (.s (SE r105V r105P z x.Kind x.Num x.Kids) (λ_=>.l (.r true)) nE nE nE))
def vm:=λr105V r105P x y=>(um r105V r105P x y).val
def wm:=λr105V r105P x y=>(um r105V r105P x y).ob
def var:=λr105V r105P x y=>fa.mk (vm r105V r105P x y) (wm r105V r105P x y) [] [(0,.agg false [.i x.Kind,.i x.Num,.lst .plan x.Kids]),(1,.I y)] wS nE nE nE nE
theorem war{r105V:qf}{r105P:tf}(G:Gd (ct r105V r105P)){fr x y}:ME fr (var r105V r105P x y):=ia G [([0,1,1,1],λe=>⟨SE r105V r105P (gI e 1 0) (gI e 2 0) (gI e 2 1) (gL .plan e 2 2)⟩)] ⟨λ_=>⟨rfl,uar G⟩,trivial⟩ [(0,[1,2]),(1,[1,2,5,6,7]),(2,[1,2,41]),(3,[4]),(10,[4])] (um r105V r105P x y)
theorem xar{r105V:qf}{r105P:tf}(G:Gd (ct r105V r105P)):Con Tryz.prog 105 (LE (λx y=>ocR (vm r105V r105P x y)) (λx y=>wm r105V r105P x y)):=va (pts:=[(.st .plan),(.int .i64)]) (F:=vS) G λ_ _=>war G
def Rc:Nat->qf×tf
 |0=>(λ_ _=>default,λ_ _=>False)
 |n+1=>(λx y=>ocR (vm (Rc n).1 (Rc n).2 x y),λx y=>wm (Rc n).1 (Rc n).2 x y)
def Nab:qf:=(Rc Pb).1
def Oab:tf:=(Rc Pb).2
def Pab:Spec:=LE Nab Oab
def Qab:SP:=[(105,Pab)]
abbrev F69:Fnn:=⟨[.tmp 2],.one .fr .bool,none,[]⟩
abbrev yar:Bool->RV:=rvF F69
abbrev zar:=@OkF Tryz.prog tt Tryz.f69 F69 Bool
def UE(x:Plan):TN Bool:=.w [Oab (Plan.mk x.Kind x.Num x.Kids) 4] (.l (.r (Nab (Plan.mk x.Kind x.Num x.Kids) 4)))
def yS:=λx=>(UE x).val
def zS:=λx=>(UE x).ob
def Aar:=λx=>fa.mk (yS x) (zS x) [] [(0,.agg false [.i x.Kind,.i x.Num,.lst .plan x.Kids])] yar nE nE nE nE
theorem Bar(G:Gd Qab){fr x}:zar fr (Aar x):=ma G [(0,[1]),(1,[2])] (UE x)
def VE(x:Plan):Bool:=ocR (yS x)
def WE(x:Plan):Prop:=zS x
def AS:Spec:=⟨[(.st .plan)],.one .fr .bool,false,λx=>(VE x.1,0),λx=>WE x.1⟩
theorem Car(G:Gd Qab):Con Tryz.prog 69 AS:=va (pts:=[(.st .plan)]) (F:=F69) G λ_ _=>Bar G
def Rab:SP:=[]
abbrev F86:Fnn:=⟨[.tmp 4],.one .fr .bool,none,[]⟩
abbrev Dar:Bool->RV:=rvF F86
abbrev Ear:=@OkF Tryz.prog tt Tryz.f86 F86 Bool
def BS(x y:Time):TN Bool:=.l (.r (cond (cmp .lss x.A y.A) true (cond (cmp .eql x.A y.A) (cmp .lss x.B y.B) false)))
def Sab:=λx y=>(BS x y).val
def Uab:=λx y=>(BS x y).ob
def Far:=λx y=>fa.mk (Sab x y) (Uab x y) [] [(0,.agg true [.i x.A,.i x.B]),(1,.agg true [.i y.A,.i y.B])] Dar nE nE nE nE
theorem Gar(G:Gd Rab){fr x y}:Ear fr (Far x y):=ma G [(0,[2,3]),(1,[4])] (BS x y)
def ES(x:Time)(y:Time):Bool:=ocR (Sab x y)
def FS(x:Time)(y:Time):Prop:=Uab x y
def GS:Spec:=⟨[(.st .time),(.st .time)],.one .fr .bool,false,λx=>(ES x.1 x.2.1,0),λx=>FS x.1 x.2.1⟩
theorem Har(G:Gd Rab):Con Tryz.prog 86 GS:=va (pts:=[(.st .time),(.st .time)]) (F:=F86) G λ_ _=>Gar G
def Vab:SP:=[(86,GS)]
abbrev F66:Fnn:=⟨[.tmp 4],.one .fr .bool,none,[]⟩
abbrev Iar:Bool->RV:=rvF F66
abbrev Jar:=@OkF Tryz.prog tt Tryz.f66 F66 Bool
def XE(x y:Row):TN Bool:=.c (cmp .neq x.Key y.Key) (.l (.r (cmp .lss x.Key y.Key)))
 (.c (cmp .neq x.Val y.Val) (.l (.r (cmp .lss x.Val y.Val)))
 (.w [FS x.At y.At] (.l (.r (ES x.At y.At)))))
def JS:=λx y=>(XE x y).val
def LS:=λx y=>(XE x y).ob
def Kar:=λx y=>fa.mk (JS x y) (LS x y) [] [(0,.agg true [.i x.Key,.i x.Val,.i x.At.A,.i x.At.B,.i x.Diff]),(1,.agg true [.i y.Key,.i y.Val,.i y.At.A,.i y.At.B,.i y.Diff])] Iar nE nE nE nE
theorem Lar(G:Gd Vab){fr x y}:Jar fr (Kar x y):=ma G [(0,[2,3]),(1,[2,3,5]),(2,[4]),(3,[2,3,16]),(4,[4]),(5,[4])] (XE x y)
def YE(x:Row)(y:Row):Bool:=ocR (JS x y)
def ZE(x:Row)(y:Row):Prop:=LS x y
def NS:Spec:=⟨[(.st .row),(.st .row)],.one .fr .bool,false,λx=>(YE x.1 x.2.1,0),λx=>ZE x.1 x.2.1⟩
theorem Mar(G:Gd Vab):Con Tryz.prog 66 NS:=va (pts:=[(.st .row),(.st .row)]) (F:=F66) G λ_ _=>Lar G
def jt:SP:=[(51,om)]
abbrev F55:Fnn:=⟨[.tmp 2],.one .fr .bool,none,[]⟩
abbrev QS:Bool->RV:=rvF F55
abbrev aF:=@OkF Tryz.prog tt Tryz.f55 F55 Bool
def kt(y:LR)(z x:Int):TX Bool Int Unit:=.c (cmp .lss x z) (.w [inb x (ba .row y)] (.w [((!(cond (cond (cond (cmp .lss (rd .row y x).Key 0) true (cmp .geq (rd .row y x).Key 4)) true (cmp .lss (rd .row y x).Val 0)) true (cmp .geq (rd .row y x).Val 100)))&&true)=true->(nm (rd .row y x).At)] (.c (cond (cond (cond (cond (cond (cond (cmp .lss (rd .row y x).Key 0) true (cmp .geq (rd .row y x).Key 4)) true (cmp .lss (rd .row y x).Val 0)) true (cmp .geq (rd .row y x).Val 100)) true (!(Xh (rd .row y x).At))) true (cmp .lss (rd .row y x).Diff (-99999))) true (cmp .gtr (rd .row y x).Diff 99999)) (.l (.r false))
 (.l (.n (ar .add .i64 x 1))))))
 (.l (.x ()))
def xm:=λx y z=>(kt x y z).val
def mt:=λx y z=>(kt x y z).ob
def RS:=λx y z=>Ba (xm x y z) (mt x y z) [0,0,1,0,1] (λq=>[(0,.S .row x),(5,.S .row x),(6,.I y),(7,.I q)]) z QS (λ_=>(0,[(0,.S .row x)])) nE nE
theorem Nar(G:Gd jt){fr x y z}:aF fr (RS x y z):=ma G [(2,[0,5,6,7,8]),(3,[0,4,5,6,7]),(4,[0,5,6,7,44]),(5,[2]),(6,[0,5,6,7])] (kt x y z)
def Wab:=λx y=>lpV (λs:Int=>da (xm x y s)) 0
def Xab:=λx y=>LpT (λs:Int=>da (xm x y s)) (λs=>mt x y s) 0
def bF:=λx y=>lpS (RS x y 0) (Wab x y) (Xab x y)
theorem Oar(G:Gd jt){fr x y}:aF fr (bF x y):=Ca (λs:Int=>RS x y s) 0 λ_=>Nar G
def cF(x:LR):TA Bool Unit:=.s (bF x (ba .row x)) nE (λ_=>.l (.n ())) nE nE
def Yab:=λx=>(cF x).val
def Zab:=λx=>(cF x).ob
def dF:=λx=>fa.mk (Yab x) (Zab x) [0,1] [(0,.S .row x)] QS (λ_=>[(0,.S .row x)]) nE nE nE
theorem Par(G:Gd jt){fr x}:aF fr (dF x):=ia G [([0,1,0,1],λe=>⟨bF (gL .row e 0 0) (gI e 6 0)⟩)] ⟨λ_=>⟨rfl,Oar G⟩,trivial⟩ [(1,[0,5,6,7])] (cF x)
def eF(x:LR):TN Bool:=.s (dF x) (λ_=>.l (.r (cmp .leq (ba .row x) 400))) nE nE nE
def SS:=λx=>(eF x).val
def TS:=λx=>(eF x).ob
def Qar:=λx=>fa.mk (SS x) (TS x) [] [(0,.S .row x)] QS nE nE nE nE
theorem Rar(G:Gd jt){fr x}:aF fr (Qar x):=ia G [([0,1],λe=>⟨dF (gL .row e 0 0)⟩)] ⟨λ_=>⟨rfl,Par G⟩,trivial⟩ [(0,[0]),(7,[2])] (eF x)
def qt(x:LR):Bool:=ocR (SS x)
def ut(x:LR):Prop:=TS x
def vt:Spec:=⟨[(.lst .row)],.one .fr .bool,false,λx=>(qt x.1,0),λx=>ut x.1⟩
theorem aac(G:Gd jt):Con Tryz.prog 55 vt:=va (pts:=[(.lst .row)]) (F:=F55) G λ_ _=>Rar G
def wt:SP:=[(66,NS),(55,vt)]
abbrev F25:Fnn:=⟨[.tmp 2],.one .fr .bool,none,[]⟩
abbrev US:Bool->RV:=rvF F25
abbrev fF:=@OkF Tryz.prog tt Tryz.f25 F25 Bool
def ym(y:LR)(z x:Int):TX Bool Int Unit:=.c (cmp .lss x z) (.w [inb x (ba .row y)] (.w [((cmp .gtr x 0)&&((!(cmp .eql (rd .row y x).Diff 0))&&true))=true->inb (ar .sub .i64 x 1) (ba .row y),((cmp .gtr x 0)&&((!(cmp .eql (rd .row y x).Diff 0))&&true))=true->(ZE (rd .row y (ar .sub .i64 x 1)) (rd .row y x))] (.c (cond (cmp .eql (rd .row y x).Diff 0) true (cond (cmp .gtr x 0) (!(YE (rd .row y (ar .sub .i64 x 1)) (rd .row y x))) false)) (.l (.r false))
 (.l (.n (ar .add .i64 x 1))))))
 (.l (.x ()))
def yj:=λx y z=>(ym x y z).val
def zm:=λx y z=>(ym x y z).ob
def VS:=λx y z=>Ba (yj x y z) (zm x y z) [0,0,1,0,1] (λq=>[(0,.S .row x),(5,.S .row x),(6,.I y),(7,.I q)]) z US (λ_=>(0,[(0,.S .row x)])) nE nE
theorem Sar(G:Gd wt){fr x y z}:fF fr (VS x y z):=ma G [(2,[0,5,6,7,8]),(3,[0,3,4,5,6,7]),(4,[0,5,6,7,28]),(5,[2]),(6,[0,5,6,7])] (ym x y z)
def bac:=λx y=>lpV (λs:Int=>da (yj x y s)) 0
def cac:=λx y=>LpT (λs:Int=>da (yj x y s)) (λs=>zm x y s) 0
def gF:=λx y=>lpS (VS x y 0) (bac x y) (cac x y)
theorem Tar(G:Gd wt){fr x y}:fF fr (gF x y):=Ca (λs:Int=>VS x y s) 0 λ_=>Sar G
def iF(x:LR):TA Bool Unit:=.s (gF x (ba .row x)) nE (λ_=>.l (.n ())) nE nE
def dac:=λx=>(iF x).val
def eac:=λx=>(iF x).ob
def jF:=λx=>fa.mk (dac x) (eac x) [0,1] [(0,.S .row x)] US (λ_=>[(0,.S .row x)]) nE nE nE
theorem Uar(G:Gd wt){fr x}:fF fr (jF x):=ia G [([0,1,0,1],λe=>⟨gF (gL .row e 0 0) (gI e 6 0)⟩)] ⟨λ_=>⟨rfl,Tar G⟩,trivial⟩ [(1,[0,5,6,7])] (iF x)
def lF(x:LR):TN Bool:=.s (jF x) (λ_=>.w [ut x] (.l (.r (qt x)))) nE nE nE
def WS:=λx=>(lF x).val
def XS:=λx=>(lF x).ob
def Var:=λx=>fa.mk (WS x) (XS x) [] [(0,.S .row x)] US nE nE nE nE
theorem War(G:Gd wt){fr x}:fF fr (Var x):=ia G [([0,1],λe=>⟨jF (gL .row e 0 0)⟩)] ⟨λ_=>⟨rfl,Uar G⟩,trivial⟩ [(0,[0]),(7,[2])] (lF x)
def xt(x:LR):Bool:=ocR (WS x)
def zt(x:LR):Prop:=XS x
def mF:Spec:=⟨[(.lst .row)],.one .fr .bool,false,λx=>(xt x.1,0),λx=>zt x.1⟩
theorem Xar(G:Gd wt):Con Tryz.prog 25 mF:=va (pts:=[(.lst .row)]) (F:=F25) G λ_ _=>War G
def fac:SP:=[]
abbrev YS:Fnn:=⟨[.tmp 2],.one (.acc false) (.lst .row),none,[2]⟩
abbrev Yar:LR->RV:=rvF YS
abbrev Zar:=@OkF Tryz.prog tt Tryz.f104 YS LR
def nF(x:LR):TN LR:=.w [zn (ba .row x) (ba .row x)] (.l (.r (List.take (List.length (List.replicate (Int.toNat (ba .row x)) (Row.mk 0 0 (Time.mk 0 0) 0))) x++List.drop (List.length x) (List.replicate (Int.toNat (ba .row x)) (Row.mk 0 0 (Time.mk 0 0) 0)))))
def ZS:=λx=>(nF x).val
def aT:=λx=>(nF x).ob
def aas:=λx=>fa.mk (ZS x) (aT x) [] [(0,.S .row x)] Yar nE nE nE nE
theorem bas(G:Gd fac){fr x}:Zar fr (aas x):=ma G [(0,[0]),(1,[0,3]),(2,[3]),(3,[2])] (nF x)
def Am(x:LR):LR:=ocR (ZS x)
def Bm(x:LR):Prop:=aT x
def oF:Spec:=⟨[(.lst .row)],.one (.acc false) (.lst .row),false,λx=>(Am x.1,0),λx=>Bm x.1⟩
theorem cas(G:Gd fac):Con Tryz.prog 104 oF:=va (pts:=[(.lst .row)]) (F:=YS) G λ_ _=>bas G
def gac:SP:=[]
abbrev bT:Fnn:=⟨[.tmp 6,.tmp 7,.tmp 8],.tup [(true,(.int .i64)),(true,(.int .i64)),(true,.bool)],none,[]⟩
abbrev das:Int×Int×Bool×Unit->RV:=rvF bT
abbrev eas:=@OkF Tryz.prog tt Tryz.f134 bT (Int×Int×Bool×Unit)
def pF(z x y:Int):TN (Int×Int×Bool×Unit):=.c (cmp .eql y 1) (.w [(4:Int)≠0,(4:Int)≠0] (.l (.r ((ar .rem .i64 x 4),((ar .add .i64 (ar .sub .i64 x (ar .rem .i64 x 4)) z),(true,()))))))
 (.c (cmp .eql y 2) (.w [(100:Int)≠0] (.l (.r (z,((ar .rem .i64 (ar .add .i64 x 1) 100),(true,()))))))
 (.c (cmp .eql y 3) (.w [(4:Int)≠0] (.l (.r ((ar .rem .i64 x 4),(x,(true,()))))))
 (.c (cmp .eql y 4) (.l (.r (0,(x,(true,())))))
 (.c (cmp .eql y 5) (.w [(2:Int)≠0] (.l (.r (z,(x,((cmp .eql (ar .rem .i64 x 2) 0),()))))))
 (.c (cmp .eql y 6) (.w [(2:Int)≠0] (.l (.r (z,(x,((cmp .eql (ar .rem .i64 z 2) 0),()))))))
 (.c (cmp .eql y 7) (.l (.r (z,(x,((cmp .lss x 10),())))))
 (.l (.r (0,(0,(false,())))))))))))
def cT:=λx y z=>(pF x y z).val
def dT:=λx y z=>(pF x y z).ob
def fas:=λx y z=>fa.mk (cT x y z) (dT x y z) [] [(0,.I x),(1,.I y),(2,.I z)] das nE nE nE nE
theorem gas(G:Gd gac){fr x y z}:eas fr (fas x y z):=ma G [(0,[0,1,2]),(1,[0,1,9]),(2,[0,1,9,10]),(3,[6,7,8]),(4,[0,1,9,20]),(5,[6,7,8]),(6,[0,1,9,26]),(7,[6,7,8]),(8,[0,1,9,31]),(9,[6,7,8]),(10,[0,1,9,34]),(11,[6,7,8]),(12,[0,1,9,41]),(13,[6,7,8]),(14,[0,1,48]),(15,[6,7,8]),(16,[6,7,8])] (pF x y z)
def qF(x:Int)(y:Int)(z:Int):Int×Int×Bool×Unit:=ocR (cT x y z)
def rF(x:Int)(y:Int)(z:Int):Prop:=dT x y z
def eT:Spec:=⟨[(.int .i64),(.int .i64),(.int .i64)],.tup [(true,(.int .i64)),(true,(.int .i64)),(true,.bool)],false,λx=>(qF x.1 x.2.1 x.2.2.1,0),λx=>rF x.1 x.2.1 x.2.2.1⟩
theorem ias(G:Gd gac):Con Tryz.prog 134 eT:=va (pts:=[(.int .i64),(.int .i64),(.int .i64)]) (F:=bT) G λ_ _=>gas G
def hac:SP:=[(110,mW),(25,mF)]
abbrev F71:Fnn:=⟨[.tmp 2,.tmp 3],.tup [(false,(.lst .row)),(true,.bool)],none,[]⟩
abbrev jas:LR×Bool×Unit->RV:=rvF F71
abbrev kas:=@OkF Tryz.prog tt Tryz.f71 F71 (LR×Bool×Unit)
def sF(y:LR):TN (LR×Bool×Unit):=.k (kW y) λx=>.w [lW y] (.w [zt x] (.c (!(xt x)) (.l (.r ([],(false,()))))
 (.l (.r (x,(true,()))))))
def fT:=λx=>(sF x).val
def gT:=λx=>(sF x).ob
def las:=λx=>fa.mk (fT x) (gT x) [] [(0,.S .row x)] jas nE nE nE nE
theorem mas(G:Gd hac){fr x}:kas fr (las x):=ma G [(0,[0]),(1,[4]),(2,[4,9]),(3,[2,3]),(4,[2,3])] (sF x)
def Qe(x:LR):LR×Bool×Unit:=ocR (fT x)
def Zh(x:LR):Prop:=gT x
def Cm:Spec:=⟨[(.lst .row)],.tup [(false,(.lst .row)),(true,.bool)],false,λx=>(Qe x.1,0),λx=>Zh x.1⟩
theorem nas(G:Gd hac):Con Tryz.prog 71 Cm:=va (pts:=[(.lst .row)]) (F:=F71) G λ_ _=>mas G
def Dm:SP:=[(134,eT),(71,Cm)]
abbrev iT:Fnn:=⟨[.tmp 4,.tmp 5],.tup [(false,(.lst .row)),(true,.bool)],none,[]⟩
abbrev tF:LR×Bool×Unit->RV:=rvF iT
abbrev Bt:=@OkF Tryz.prog tt Tryz.f106 iT (LR×Bool×Unit)
def uF(b:Int)(a x:LR)(_ y:Int):TA (LR×Bool×Unit) LR:=.w [inb y (ba .row x)] (.k (qF (rd .row x y).Key (rd .row x y).Val b) λz=>.w [rF (rd .row x y).Key (rd .row x y).Val b] (.c z.2.2.1 (.w [lim (ba .row a) (ba .row [(Row.mk z.1 z.2.1 (rd .row x y).At (rd .row x y).Diff)])] (.l (.n (a++[(Row.mk z.1 z.2.1 (rd .row x y).At (rd .row x y).Diff)]))))
 (.l (.n a))))
def iac:=λx y z a b=>(uF x y z a b).val
def jac:=λx y z a b=>(uF x y z a b).ob
def vF:=λx b y z a=>fa.mk (iac x b y z a) (jac x b y z a) [0,1,1,0,0,1,0,1,1] [(1,.I x),(6,.A .row b),(13,.S .row y),(14,.I z),(15,.I a)] tF (λq=>[(1,.I x),(6,.A .row q),(13,.S .row y),(14,.I z),(15,.I a)]) nE nE nE
theorem oas(G:Gd Dm){fr x y z a b}:Bt fr (vF x y z a b):=ma G [(4,[1,6,8,13,14,15]),(5,[1,6,8,9,10,11,13,14,15]),(6,[1,6,8,9,10,13,14,15,29]),(7,[1,6,13,14,15])] (uF x y z a b)
def Ct(a:Int)(b:LR)(y:Int)(z:LR)(x:Int):TX (LR×Bool×Unit) (LR×Int) LR:=.c (cmp .lss x y) (.s (vF a z b y x) (λc=>.l (.n (c,(ar .add .i64 x 1)))) nE nE nE)
 (.l (.x z))
def Em:=λx y z a b=>(Ct x y z a b).val
def Dt:=λx y z a b=>(Ct x y z a b).ob
def lT:=λx y z a b=>Ba (Em x y z a b) (Dt x y z a b) [0,0,1,0,1,1] (λq=>[(1,.I x),(6,.A .row q.1),(13,.S .row y),(14,.I z),(15,.I q.2)]) (a,b) tF (λq=>(0,[(6,.A .row q)])) nE nE
theorem pas(G:Gd Dm){fr x y z a b}:Bt fr (lT x y z a b):=ia G [([0,1,1,0,0,1,0,1,1],λe=>⟨vF (gI e 1 0) (gL .row e 6 0) (gL .row e 13 0) (gI e 14 0) (gI e 15 0)⟩)] ⟨λ_=>⟨rfl,oas G⟩,trivial⟩ [(3,[1,6,13,14,15,16]),(8,[1,6,13,14,15])] (Ct x y z a b)
def kac:=λx y z=>lpV (λs:LR×Int=>da (Em x y z s.1 s.2)) ([],0)
def lac:=λx y z=>LpT (λs:LR×Int=>da (Em x y z s.1 s.2)) (λs=>Dt x y z s.1 s.2) ([],0)
def wF:=λx y z=>lpS (lT x y z [] 0) (kac x y z) (lac x y z)
theorem qas(G:Gd Dm){fr x y z}:Bt fr (wF x y z):=Ca (λs:LR×Int=>lT x y z s.1 s.2) ([],0) λ_=>pas G
def xF(x:LR)(y:Int):TA (LR×Bool×Unit) LR:=.s (wF y x (ba .row x)) nE (λz=>.l (.n z)) nE nE
def mac:=λx y=>(xF x y).val
def nac:=λx y=>(xF x y).ob
def yF:=λx y=>fa.mk (mac x y) (nac x y) [0,1,1] [(0,.S .row x),(1,.I y),(6,.A .row [])] tF (λq=>[(6,.A .row q)]) nE nE nE
theorem ras(G:Gd Dm){fr x y}:Bt fr (yF x y):=ia G [([0,1,0,1,1],λe=>⟨wF (gI e 1 0) (gL .row e 13 0) (gI e 14 0)⟩)] ⟨λ_=>⟨rfl,qas G⟩,trivial⟩ [(2,[1,6,13,14,15])] (xF x y)
def zF(y:LR)(z:Int):TN (LR×Bool×Unit):=.s (yF y z) (λx=>.w [Zh x] (.l (.r ((Qe x).1,((Qe x).2.1,()))))) nE nE nE
def mT:=λx y=>(zF x y).val
def nT:=λx y=>(zF x y).ob
def sas:=λx y=>fa.mk (mT x y) (nT x y) [] [(0,.S .row x),(1,.I y)] tF nE nE nE nE
theorem tas(G:Gd Dm){fr x y}:Bt fr (sas x y):=ia G [([0,1,1],λe=>⟨yF (gL .row e 0 0) (gI e 1 0)⟩)] ⟨λ_=>⟨rfl,ras G⟩,trivial⟩ [(0,[0,1]),(1,[0,1,6]),(9,[4,5])] (zF x y)
def AF(x:LR)(y:Int):LR×Bool×Unit:=ocR (mT x y)
def BF(x:LR)(y:Int):Prop:=nT x y
def oT:Spec:=⟨[(.lst .row),(.int .i64)],.tup [(false,(.lst .row)),(true,.bool)],false,λx=>(AF x.1 x.2.1,0),λx=>BF x.1 x.2.1⟩
theorem uas(G:Gd Dm):Con Tryz.prog 106 oT:=va (pts:=[(.lst .row),(.int .i64)]) (F:=iT) G λ_ _=>tas G
def oac:SP:=[]
abbrev F72:Fnn:=⟨[.tmp 4],.one (.acc false) (.lst .row),none,[]⟩
abbrev vas:LR->RV:=rvF F72
abbrev xas:=@OkF Tryz.prog tt Tryz.f72 F72 LR
def CF(x y:LR):TN LR:=.w [lim (ba .row []) (ba .row x),lim (ba .row ([]++x)) (ba .row y)] (.l (.r (([]++x)++y)))
def pT:=λx y=>(CF x y).val
def qT:=λx y=>(CF x y).ob
def yas:=λx y=>fa.mk (pT x y) (qT x y) [] [(0,.S .row x),(1,.S .row y)] vas nE nE nE nE
theorem zas(G:Gd oac){fr x y}:xas fr (yas x y):=ma G [(0,[0,1]),(1,[4])] (CF x y)
def DF(x:LR)(y:LR):LR:=ocR (pT x y)
def EF(x:LR)(y:LR):Prop:=qT x y
def rT:Spec:=⟨[(.lst .row),(.lst .row)],.one (.acc false) (.lst .row),false,λx=>(DF x.1 x.2.1,0),λx=>EF x.1 x.2.1⟩
theorem Aas(G:Gd oac):Con Tryz.prog 72 rT:=va (pts:=[(.lst .row),(.lst .row)]) (F:=F72) G λ_ _=>zas G
def Et:SP:=[]
abbrev sT:Fnn:=⟨[.tmp 2],.one (.acc false) (.lst .row),none,[2]⟩
abbrev tT:LR->RV:=rvF sT
abbrev FF:=@OkF Tryz.prog tt Tryz.f107 sT LR
def Ft(_:LR)(z:Int)(y:LR)(x:Int):TX LR (LR×Int) LR:=.c (cmp .lss x z) (.w [inb x (ba .row y),inb x (ba .row y),inb x (ba .row y)] (.l (.n ((List.set y (Int.toNat x) (Row.mk (rd .row y x).Key (rd .row y x).Val (rd .row y x).At (IntKind.wrap .i64 (0 - (rd .row y x).Diff)))),(ar .add .i64 x 1)))))
 (.l (.x y))
def Fm:=λx y z a=>(Ft x y z a).val
def Gt:=λx y z a=>(Ft x y z a).ob
def uT:=λa x y z=>Ba (Fm a x y z) (Gt a x y z) [0,0,1,0,1,1] (λq=>[(3,.v (.own false) (.lst .row q.1)),(9,.I x),(10,.I q.2)]) (y,z) tT (λq=>(0,[(3,.v (.own false) (.lst .row q))])) nE nE
theorem Bas(G:Gd Et){fr x y z a}:FF fr (uT x y z a):=ma G [(3,[3,9,10,11]),(4,[3,4,9,10]),(5,[3,9,10]),(6,[3,9,10])] (Ft x y z a)
def pac:=λx y=>lpV (λs:LR×Int=>da (Fm x y s.1 s.2)) (x,0)
def qac:=λx y=>LpT (λs:LR×Int=>da (Fm x y s.1 s.2)) (λs=>Gt x y s.1 s.2) (x,0)
def GF:=λx y=>lpS (uT x y x 0) (pac x y) (qac x y)
theorem Cas(G:Gd Et){fr x y}:FF fr (GF x y):=Ca (λs:LR×Int=>uT x y s.1 s.2) (x,0) λ_=>Bas G
def HF(x:LR):TA LR LR:=.s (GF x (ba .row x)) nE (λy=>.l (.n y)) nE nE
def rac:=λx=>(HF x).val
def sac:=λx=>(HF x).ob
def IF:=λx=>fa.mk (rac x) (sac x) [0,1,1] [(3,.v (.acc false) (.lst .row x))] tT (λq=>[(3,.v (.own false) (.lst .row q))]) nE nE nE
theorem Das(G:Gd Et){fr x}:FF fr (IF x):=YK G [([0,1,0,1,1],λe=>⟨GF (gL .row e 3 0) (gI e 9 0)⟩)] ⟨λ_=>⟨rfl,Cas G⟩,trivial⟩ [(2,[3,9,10])] [(2,3)] [] (HF x) rfl rfl (by kernel_rfl)
def JF(x:LR):TN LR:=.w [lim (ba .row []) (ba .row x)] (.s (IF ([]++x)) (λy=>.l (.r y)) nE nE nE)
def vT:=λx=>(JF x).val
def wT:=λx=>(JF x).ob
def Eas:=λx=>fa.mk (vT x) (wT x) [] [(0,.S .row x)] tT nE nE nE nE
theorem Fas(G:Gd Et){fr x}:FF fr (Eas x):=ia G [([0,1,1],λe=>⟨IF (gL .row e 3 0)⟩)] ⟨λ_=>⟨rfl,Das G⟩,trivial⟩ [(0,[0]),(1,[3]),(7,[2])] (JF x)
def LF(x:LR):LR:=ocR (vT x)
def MF(x:LR):Prop:=wT x
def xT:Spec:=⟨[(.lst .row)],.one (.acc false) (.lst .row),false,λx=>(LF x.1,0),λx=>MF x.1⟩
theorem Gas(G:Gd Et):Con Tryz.prog 107 xT:=va (pts:=[(.lst .row)]) (F:=sT) G λ_ _=>Fas G
def tac:SP:=[]
abbrev yT:Fnn:=⟨[.tmp 4],.one .fr (.int .i64),none,[]⟩
abbrev Has:Int->RV:=rvF yT
abbrev Ias:=@OkF Tryz.prog tt Tryz.f135 yT Int
def zT(x y:Int):TN Int:=.w [(100:Int)≠0] (.l (.r (ar .rem .i64 (ar .add .i64 (ar .mul .i64 10 x) y) 100)))
def uac:=λx y=>(zT x y).val
def vac:=λx y=>(zT x y).ob
def Jas:=λx y=>fa.mk (uac x y) (vac x y) [] [(0,.I x),(1,.I y)] Has nE nE nE nE
theorem Kas(G:Gd tac){fr x y}:Ias fr (Jas x y):=ma G [(0,[0,1]),(1,[4])] (zT x y)
def AT(x:Int)(y:Int):Int:=ocR (uac x y)
def BT(x:Int)(y:Int):Prop:=vac x y
def CT:Spec:=⟨[(.int .i64),(.int .i64)],.one .fr (.int .i64),false,λx=>(AT x.1 x.2.1,0),λx=>BT x.1 x.2.1⟩
theorem Las(G:Gd tac):Con Tryz.prog 135 CT:=va (pts:=[(.int .i64),(.int .i64)]) (F:=yT) G λ_ _=>Kas G
def wac:SP:=[(51,om)]
abbrev F81:Fnn:=⟨[.cell 4 32],.one .fr (.st .time),none,[]⟩
abbrev Mas:Time->RV:=rvF F81
abbrev Nas:=@OkF Tryz.prog tt Tryz.f81 F81 Time
def RF(x y:Time):TN Time:=.w [nm x,((!(!(Xh x)))&&true)=true->(nm y)] (.c (cond (!(Xh x)) true (!(Xh y))) (.l (.r (Time.mk 0 0)))
 (.l (.r (Time.mk (mx x.A y.A) (mx x.B y.B)))))
def DT:=λx y=>(RF x y).val
def ET:=λx y=>(RF x y).ob
def Oas:=λx y=>fa.mk (DT x y) (ET x y) [] [(0,.agg true [.i x.A,.i x.B]),(1,.agg true [.i y.A,.i y.B])] Mas nE nE nE nE
theorem Pas(G:Gd wac){fr x y}:Nas fr (Oas x y):=ma G [(0,[2,3,4]),(1,[2,3,4,12]),(2,[4]),(3,[4])] (RF x y)
def It(x:Time)(y:Time):Time:=ocR (DT x y)
def Jt(x:Time)(y:Time):Prop:=ET x y
def Kt:Spec:=⟨[(.st .time),(.st .time)],.one .fr (.st .time),false,λx=>(It x.1 x.2.1,0),λx=>Jt x.1 x.2.1⟩
theorem xac(G:Gd wac):Con Tryz.prog 81 Kt:=va (pts:=[(.st .time),(.st .time)]) (F:=F81) G λ_ _=>Pas G
def dh:SP:=[(135,CT),(81,Kt),(71,Cm)]
abbrev GT:Fnn:=⟨[.tmp 4,.tmp 5],.tup [(false,(.lst .row)),(true,.bool)],none,[]⟩
abbrev Gm:LR×Bool×Unit->RV:=rvF GT
abbrev ai:=@OkF Tryz.prog tt Tryz.f108 GT (LR×Bool×Unit)
def SF(y a:LR)(x:Row)(_:LR)(_ _ _ z:Int):TA (LR×Bool×Unit) LR:=.w [inb z (ba .row y)] (.c (cmp .eql x.Key (rd .row y z).Key) (.k (AT x.Val (rd .row y z).Val) λb=>.k (It x.At (rd .row y z).At) λc=>.w [BT x.Val (rd .row y z).Val,Jt x.At (rd .row y z).At,lim (ba .row a) (ba .row [(Row.mk x.Key b c (ar .mul .i64 x.Diff (rd .row y z).Diff))])] (.l (.n (a++[(Row.mk x.Key b c (ar .mul .i64 x.Diff (rd .row y z).Diff))]))))
 (.l (.n a)))
def yac:=λx y z a b c d f=>(SF x y z a b c d f).val
def zac:=λx y z a b c d f=>(SF x y z a b c d f).ob
def UF:=λy f x z a b c d=>fa.mk (yac y f x z a b c d) (zac y f x z a b c d) [0,1,1,0,0,1,1,0,0,1,1,0,0,1,0,1,1] [(1,.S .row y),(6,.A .row f),(8,.B [x.Key,x.Val,x.At.A,x.At.B,x.Diff]),(12,.S .row z),(13,.I a),(14,.I b),(18,.S .row y),(19,.I c),(20,.I d)] Gm (λq=>[(1,.S .row y),(6,.A .row q),(8,.B [x.Key,x.Val,x.At.A,x.At.B,x.Diff]),(12,.S .row z),(13,.I a),(14,.I b),(18,.S .row y),(19,.I c),(20,.I d)]) nE nE nE
theorem Qas(G:Gd dh){fr x y z a b c d f}:ai fr (UF x y z a b c d f):=ma G [(7,[1,6,8,10,12,13,14,18,19,20]),(8,[1,6,8,10,12,13,14,18,19,20,28]),(9,[1,6,8,12,13,14,18,19,20])] (SF x y z a b c d f)
def Lt(a _:LR)(b:Row)(c:LR)(d f y:Int)(z:LR)(x:Int):TX (LR×Bool×Unit) (LR×Int) LR:=.c (cmp .lss x y) (.s (UF a z b c d f y x) (λg=>.l (.n (g,(ar .add .i64 x 1)))) nE nE nE)
 (.l (.x z))
def Hm:=λx y z a b c d f g=>(Lt x y z a b c d f g).val
def Mt:=λx y z a b c d f g=>(Lt x y z a b c d f g).ob
def HT:=λy g x z a b c d f=>Ba (Hm y g x z a b c d f) (Mt y g x z a b c d f) [0,0,1,1,0,0,1,1,0,0,1,0,1,1] (λq=>[(1,.S .row y),(6,.A .row q.1),(8,.B [x.Key,x.Val,x.At.A,x.At.B,x.Diff]),(12,.S .row z),(13,.I a),(14,.I b),(18,.S .row y),(19,.I c),(20,.I q.2)]) (d,f) Gm (λq=>(2,[(1,.S .row y),(6,.A .row q),(12,.S .row z),(13,.I a),(14,.I b)])) nE nE
theorem Ras(G:Gd dh){fr x y z a b c d f g}:ai fr (HT x y z a b c d f g):=ia G [([0,1,1,0,0,1,1,0,0,1,1,0,0,1,0,1,1],λe=>⟨UF (gL .row e 1 0) (gL .row e 6 0) (gRow e 8) (gL .row e 12 0) (gI e 13 0) (gI e 14 0) (gI e 19 0) (gI e 20 0)⟩)] ⟨λ_=>⟨rfl,Qas G⟩,trivial⟩ [(6,[1,6,8,12,13,14,18,19,20,21]),(10,[1,6,8,12,13,14,18,19,20])] (Lt x y z a b c d f g)
def Aac:=λy x z a b c d=>lpV (λs:LR×Int=>da (Hm y x z a b c d s.1 s.2)) (x,0)
def Bac:=λy x z a b c d=>LpT (λs:LR×Int=>da (Hm y x z a b c d s.1 s.2)) (λs=>Mt y x z a b c d s.1 s.2) (x,0)
def VF:=λy x z a b c d=>lpS (HT y x z a b c d x 0) (Aac y x z a b c d) (Bac y x z a b c d)
theorem Sas(G:Gd dh){fr y x z a b c d}:ai fr (VF y x z a b c d):=Ca (λs:LR×Int=>HT y x z a b c d s.1 s.2) (x,0) λ_=>Ras G
def WF(z a x:LR)(b y:Int):TA (LR×Bool×Unit) LR:=.w [inb y (ba .row x)] (.s (VF z a (rd .row x y) x b y (ba .row z)) nE (λc=>.l (.n c)) nE nE)
def Cac:=λx y z a b=>(WF x y z a b).val
def Dac:=λx y z a b=>(WF x y z a b).ob
def XF:=λx b y z a=>fa.mk (Cac x b y z a) (Dac x b y z a) [0,1,1,0,0,1,0,1,1] [(1,.S .row x),(6,.A .row b),(12,.S .row y),(13,.I z),(14,.I a)] Gm (λq=>[(1,.S .row x),(6,.A .row q),(12,.S .row y),(13,.I z),(14,.I a)]) nE nE nE
theorem Tas(G:Gd dh){fr x y z a b}:ai fr (XF x y z a b):=ia G [([0,1,1,0,0,1,1,0,0,1,0,1,1],λe=>⟨VF (gL .row e 1 0) (gL .row e 6 0) (gRow e 8) (gL .row e 12 0) (gI e 13 0) (gI e 14 0) (gI e 19 0)⟩)] ⟨λ_=>⟨rfl,Sas G⟩,trivial⟩ [(4,[1,6,8,12,13,14]),(5,[1,6,8,12,13,14,18,19,20])] (WF x y z a b)
def Nt(a b:LR)(y:Int)(z:LR)(x:Int):TX (LR×Bool×Unit) (LR×Int) LR:=.c (cmp .lss x y) (.s (XF a z b y x) (λc=>.l (.n (c,(ar .add .i64 x 1)))) nE nE nE)
 (.l (.x z))
def Im:=λx y z a b=>(Nt x y z a b).val
def Ot:=λx y z a b=>(Nt x y z a b).ob
def IT:=λx y z a b=>Ba (Im x y z a b) (Ot x y z a b) [0,0,1,0,1,1] (λq=>[(1,.S .row x),(6,.A .row q.1),(12,.S .row y),(13,.I z),(14,.I q.2)]) (a,b) Gm (λq=>(0,[(6,.A .row q)])) nE nE
theorem Uas(G:Gd dh){fr x y z a b}:ai fr (IT x y z a b):=ia G [([0,1,1,0,0,1,0,1,1],λe=>⟨XF (gL .row e 1 0) (gL .row e 6 0) (gL .row e 12 0) (gI e 13 0) (gI e 14 0)⟩)] ⟨λ_=>⟨rfl,Tas G⟩,trivial⟩ [(3,[1,6,12,13,14,15]),(11,[1,6,12,13,14])] (Nt x y z a b)
def Eac:=λx y z=>lpV (λs:LR×Int=>da (Im x y z s.1 s.2)) ([],0)
def Fac:=λx y z=>LpT (λs:LR×Int=>da (Im x y z s.1 s.2)) (λs=>Ot x y z s.1 s.2) ([],0)
def YF:=λx y z=>lpS (IT x y z [] 0) (Eac x y z) (Fac x y z)
theorem Vas(G:Gd dh){fr x y z}:ai fr (YF x y z):=Ca (λs:LR×Int=>IT x y z s.1 s.2) ([],0) λ_=>Uas G
def ZF(x y:LR):TA (LR×Bool×Unit) LR:=.s (YF y x (ba .row x)) nE (λz=>.l (.n z)) nE nE
def Gac:=λx y=>(ZF x y).val
def Hac:=λx y=>(ZF x y).ob
def aG:=λx y=>fa.mk (Gac x y) (Hac x y) [0,1,1] [(0,.S .row x),(1,.S .row y),(6,.A .row [])] Gm (λq=>[(6,.A .row q)]) nE nE nE
theorem Was(G:Gd dh){fr x y}:ai fr (aG x y):=ia G [([0,1,0,1,1],λe=>⟨YF (gL .row e 1 0) (gL .row e 12 0) (gI e 13 0)⟩)] ⟨λ_=>⟨rfl,Vas G⟩,trivial⟩ [(2,[1,6,12,13,14])] (ZF x y)
def bG(y z:LR):TN (LR×Bool×Unit):=.s (aG y z) (λx=>.w [Zh x] (.l (.r ((Qe x).1,((Qe x).2.1,()))))) nE nE nE
def JT:=λx y=>(bG x y).val
def MT:=λx y=>(bG x y).ob
def Xas:=λx y=>fa.mk (JT x y) (MT x y) [] [(0,.S .row x),(1,.S .row y)] Gm nE nE nE nE
theorem Yas(G:Gd dh){fr x y}:ai fr (Xas x y):=ia G [([0,1,1],λe=>⟨aG (gL .row e 0 0) (gL .row e 1 0)⟩)] ⟨λ_=>⟨rfl,Was G⟩,trivial⟩ [(0,[0,1]),(1,[0,1,6]),(12,[4,5])] (bG x y)
def cG(x:LR)(y:LR):LR×Bool×Unit:=ocR (JT x y)
def dG(x:LR)(y:LR):Prop:=MT x y
def NT:Spec:=⟨[(.lst .row),(.lst .row)],.tup [(false,(.lst .row)),(true,.bool)],false,λx=>(cG x.1 x.2.1,0),λx=>dG x.1 x.2.1⟩
theorem Zas(G:Gd dh):Con Tryz.prog 108 NT:=va (pts:=[(.lst .row),(.lst .row)]) (F:=GT) G λ_ _=>Yas G
def Iac:SP:=[]
abbrev F95:Fnn:=⟨[.tmp 4],.one .fr .bool,none,[]⟩
abbrev aat:Bool->RV:=rvF F95
abbrev bat:=@OkF Tryz.prog tt Tryz.f95 F95 Bool
def QT(x y:Time):TN Bool:=.l (.r (cond (cmp .leq x.A y.A) (cmp .leq x.B y.B) false))
def Jac:=λx y=>(QT x y).val
def Kac:=λx y=>(QT x y).ob
def cat:=λx y=>fa.mk (Jac x y) (Kac x y) [] [(0,.agg true [.i x.A,.i x.B]),(1,.agg true [.i y.A,.i y.B])] aat nE nE nE nE
theorem dat(G:Gd Iac){fr x y}:bat fr (cat x y):=ma G [(0,[2,3]),(1,[4])] (QT x y)
def eG(x:Time)(y:Time):Bool:=ocR (Jac x y)
def fG(x:Time)(y:Time):Prop:=Kac x y
def gG:Spec:=⟨[(.st .time),(.st .time)],.one .fr .bool,false,λx=>(eG x.1 x.2.1,0),λx=>fG x.1 x.2.1⟩
theorem eat(G:Gd Iac):Con Tryz.prog 95 gG:=va (pts:=[(.st .time),(.st .time)]) (F:=F95) G λ_ _=>dat G
def Jm:SP:=[(95,gG),(96,FL)]
abbrev F53:Fnn:=⟨[.tmp 4],.one .fr (.lst .item),none,[]⟩
abbrev iG:LI->RV:=rvF F53
abbrev Pt:=@OkF Tryz.prog tt Tryz.f53 F53 LI
def jG(a:Time)(z:LI)(x:LR)(_ y:Int):TA LI LI:=.w [inb y (ba .row x)] (.w [fG (rd .row x y).At a] (.c (eG (rd .row x y).At a) (.w [lim (ba .item z) (ba .item [(Item.mk (rd .row x y).Key (rd .row x y).Val (rd .row x y).Diff)])] (.l (.n (z++[(Item.mk (rd .row x y).Key (rd .row x y).Val (rd .row x y).Diff)]))))
 (.l (.n z))))
def Lac:=λx y z a b=>(jG x y z a b).val
def Mac:=λx y z a b=>(jG x y z a b).ob
def kG:=λx b y z a=>fa.mk (Lac x b y z a) (Mac x b y z a) [0,1,1,0,0,1,0,1,1] [(3,.B [x.A,x.B]),(5,.A .item b),(9,.S .row y),(10,.I z),(11,.I a)] iG (λq=>[(3,.B [x.A,x.B]),(5,.A .item q),(9,.S .row y),(10,.I z),(11,.I a)]) nE nE nE
theorem fat(G:Gd Jm){fr x y z a b}:Pt fr (kG x y z a b):=ma G [(4,[3,5,7,9,10,11]),(5,[3,5,7,9,10,11,18]),(6,[3,5,9,10,11])] (jG x y z a b)
def Qt(a:Time)(b:LR)(y:Int)(z:LI)(x:Int):TX LI (LI×Int) LI:=.c (cmp .lss x y) (.s (kG a z b y x) (λc=>.l (.n (c,(ar .add .i64 x 1)))) nE nE nE)
 (.l (.x z))
def Km:=λx y z a b=>(Qt x y z a b).val
def Rt:=λx y z a b=>(Qt x y z a b).ob
def ST:=λx y z a b=>Ba (Km x y z a b) (Rt x y z a b) [0,0,1,0,1,1] (λq=>[(3,.B [x.A,x.B]),(5,.A .item q.1),(9,.S .row y),(10,.I z),(11,.I q.2)]) (a,b) iG (λq=>(0,[(5,.A .item q)])) nE nE
theorem gat(G:Gd Jm){fr x y z a b}:Pt fr (ST x y z a b):=ia G [([0,1,1,0,0,1,0,1,1],λe=>⟨kG (Uc e 3) (gL .item e 5 0) (gL .row e 9 0) (gI e 10 0) (gI e 11 0)⟩)] ⟨λ_=>⟨rfl,fat G⟩,trivial⟩ [(3,[3,5,9,10,11,12]),(7,[3,5,9,10,11])] (Qt x y z a b)
def Nac:=λx y z=>lpV (λs:LI×Int=>da (Km x y z s.1 s.2)) ([],0)
def Oac:=λx y z=>LpT (λs:LI×Int=>da (Km x y z s.1 s.2)) (λs=>Rt x y z s.1 s.2) ([],0)
def lG:=λx y z=>lpS (ST x y z [] 0) (Nac x y z) (Oac x y z)
theorem iat(G:Gd Jm){fr x y z}:Pt fr (lG x y z):=Ca (λs:LI×Int=>ST x y z s.1 s.2) ([],0) λ_=>gat G
def mG(x:LR)(y:Time):TA LI LI:=.s (lG y x (ba .row x)) nE (λz=>.l (.n z)) nE nE
def Pac:=λx y=>(mG x y).val
def Qac:=λx y=>(mG x y).ob
def nG:=λy x=>fa.mk (Pac y x) (Qac y x) [0,1,1] [(0,.S .row y),(3,.B [x.A,x.B]),(5,.A .item [])] iG (λq=>[(5,.A .item q)]) nE nE nE
theorem jat(G:Gd Jm){fr x y}:Pt fr (nG x y):=ia G [([0,1,0,1,1],λe=>⟨lG (Uc e 3) (gL .row e 9 0) (gI e 10 0)⟩)] ⟨λ_=>⟨rfl,iat G⟩,trivial⟩ [(2,[3,5,9,10,11])] (mG x y)
def oG(y:LR)(z:Time):TN LI:=.s (nG y z) (λx=>.w [Eo x] (.l (.r (Bw x)))) nE nE nE
def UT:=λx y=>(oG x y).val
def VT:=λx y=>(oG x y).ob
def kat:=λy x=>fa.mk (UT y x) (VT y x) [] [(0,.S .row y),(1,.agg true [.i x.A,.i x.B])] iG nE nE nE nE
theorem lat(G:Gd Jm){fr x y}:Pt fr (kat x y):=ia G [([0,1,1],λe=>⟨nG (gL .row e 0 0) (Uc e 3)⟩)] ⟨λ_=>⟨rfl,jat G⟩,trivial⟩ [(0,[0,3]),(1,[0,3,5]),(8,[4])] (oG x y)
def St(x:LR)(y:Time):LI:=ocR (UT x y)
def Tt(x:LR)(y:Time):Prop:=VT x y
def WT:Spec:=⟨[(.lst .row),(.st .time)],.one .fr (.lst .item),false,λx=>(St x.1 x.2.1,0),λx=>Tt x.1 x.2.1⟩
theorem mat(G:Gd Jm):Con Tryz.prog 53 WT:=va (pts:=[(.lst .row),(.st .time)]) (F:=F53) G λ_ _=>lat G
def Ag:SP:=[]
abbrev XT:Fnn:=⟨[.tmp 2],.one (.acc true) (.lst .item),none,[]⟩
abbrev zj:LI->RV:=rvF XT
abbrev eh:=@OkF Tryz.prog tt Tryz.f139 XT LI
def pG(x _:LI)(a z _ y:Int):TA LI Int:=.w [inb y (ba .item x)] (.c (cmp .eql (rd .item x y).Key a) (.l (.n (ar .add .i64 z (rd .item x y).Count)))
 (.l (.n z)))
def Rac:=λx y z a b c=>(pG x y z a b c).val
def Sac:=λx y z a b c=>(pG x y z a b c).ob
def qG:=λx y z c a b=>fa.mk (Rac x y z c a b) (Sac x y z c a b) [0,1,1,0,0,1,0,1,0,0,1,0,0,1,0,1,1] [(0,.S .item x),(3,.A .item y),(4,.I z),(5,.I c),(13,.S .item x),(14,.I a),(15,.I b)] zj (λq=>[(0,.S .item x),(3,.A .item y),(4,.I z),(5,.I q),(13,.S .item x),(14,.I a),(15,.I b)]) nE nE nE
theorem nat(G:Gd Ag){fr x y z a b c}:eh fr (qG x y z a b c):=ma G [(8,[0,3,4,5,7,13,14,15]),(9,[0,3,4,5,7,13,14,15,22]),(10,[0,3,4,5,13,14,15])] (pG x y z a b c)
def Ut(a b:LI)(c y z x:Int):TX LI (Int×Int) Int:=.c (cmp .lss x y) (.s (qG a b c z y x) (λd=>.l (.n (d,(ar .add .i64 x 1)))) nE nE nE)
 (.l (.x z))
def Lm:=λx y z a b c=>(Ut x y z a b c).val
def Vt:=λx y z a b c=>(Ut x y z a b c).ob
def YT:=λx y z a b c=>Ba (Lm x y z a b c) (Vt x y z a b c) [0,0,1,0,1,0,0,1,0,0,1,0,1,1] (λq=>[(0,.S .item x),(3,.A .item y),(4,.I z),(5,.I q.1),(13,.S .item x),(14,.I a),(15,.I q.2)]) (b,c) zj (λq=>(2,[(0,.S .item x),(3,.A .item y),(4,.I z),(5,.I q)])) nE nE
theorem oat(G:Gd Ag){fr x y z a b c}:eh fr (YT x y z a b c):=ia G [([0,1,1,0,0,1,0,1,0,0,1,0,0,1,0,1,1],λe=>⟨qG (gL .item e 0 0) (gL .item e 3 0) (gI e 4 0) (gI e 5 0) (gI e 14 0) (gI e 15 0)⟩)] ⟨λ_=>⟨rfl,nat G⟩,trivial⟩ [(7,[0,3,4,5,13,14,15,16]),(11,[0,3,4,5,13,14,15])] (Ut x y z a b c)
def Tac:=λx y z a=>lpV (λs:Int×Int=>da (Lm x y z a s.1 s.2)) (0,0)
def Uac:=λx y z a=>LpT (λs:Int×Int=>da (Lm x y z a s.1 s.2)) (λs=>Vt x y z a s.1 s.2) (0,0)
def rG:=λx y z a=>lpS (YT x y z a 0 0) (Tac x y z a) (Uac x y z a)
theorem qat(G:Gd Ag){fr x y z a}:eh fr (rG x y z a):=Ca (λs:Int×Int=>YT x y z a s.1 s.2) (0,0) λ_=>oat G
def sG(x y:LI)(z:Int):TA LI Int:=.s (rG x y z (ba .item x)) nE (λa=>.l (.n a)) nE nE
def Vac:=λx y z=>(sG x y z).val
def Wac:=λx y z=>(sG x y z).ob
def tG:=λx y z=>fa.mk (Vac x y z) (Wac x y z) [0,1,0,0,1,0,0,1,0,1,1] [(0,.S .item x),(3,.A .item y),(4,.I z),(5,.I 0)] zj (λq=>[(0,.S .item x),(3,.A .item y),(4,.I z),(5,.I q)]) nE nE nE
theorem rat(G:Gd Ag){fr x y z}:eh fr (tG x y z):=ia G [([0,1,0,1,0,0,1,0,0,1,0,1,1],λe=>⟨rG (gL .item e 0 0) (gL .item e 3 0) (gI e 4 0) (gI e 14 0)⟩)] ⟨λ_=>⟨rfl,qat G⟩,trivial⟩ [(6,[0,3,4,5,13,14,15])] (sG x y z)
def uG(a x:LI)(y:Int):TA LI LI:=.s (tG a x y) (λz=>.c (cmp .neq z 0) (.w [(100:Int)≠0,(100:Int)≠0,lim (ba .item x) (ba .item [(Item.mk y (ar .rem .i64 (ar .add .i64 (ar .rem .i64 z 100) 100) 100) 1)])] (.l (.n (x++[(Item.mk y (ar .rem .i64 (ar .add .i64 (ar .rem .i64 z 100) 100) 100) 1)]))))
 (.l (.n x))) nE nE nE
def Xac:=λx y z=>(uG x y z).val
def Yac:=λx y z=>(uG x y z).ob
def vG:=λx z y=>fa.mk (Xac x z y) (Yac x z y) [0,1,0,0,1,0,1,1] [(0,.S .item x),(3,.A .item z),(4,.I y)] zj (λq=>[(0,.S .item x),(3,.A .item q),(4,.I y)]) nE nE nE
theorem sat(G:Gd Ag){fr x y z}:eh fr (vG x y z):=ia G [([0,1,0,0,1,0,0,1,0,1,1],λe=>⟨tG (gL .item e 0 0) (gL .item e 3 0) (gI e 4 0)⟩)] ⟨λ_=>⟨rfl,rat G⟩,trivial⟩ [(5,[0,3,4,5]),(12,[0,3,4,5,29]),(13,[0,3,4])] (uG x y z)
def Wt(z y:LI)(x:Int):TX LI (LI×Int) LI:=.c (cmp .lss x 4) (.s (vG z y x) (λa=>.l (.n (a,(ar .add .i64 x 1)))) nE nE nE)
 (.l (.x y))
def Mm:=λx y z=>(Wt x y z).val
def Xt:=λx y z=>(Wt x y z).ob
def ZT:=λx y z=>Ba (Mm x y z) (Xt x y z) [0,0,1,0,1,1] (λq=>[(0,.S .item x),(3,.A .item q.1),(4,.I q.2)]) (y,z) zj (λq=>(0,[(3,.A .item q)])) nE nE
theorem tat(G:Gd Ag){fr x y z}:eh fr (ZT x y z):=ia G [([0,1,0,0,1,0,1,1],λe=>⟨vG (gL .item e 0 0) (gL .item e 3 0) (gI e 4 0)⟩)] ⟨λ_=>⟨rfl,sat G⟩,trivial⟩ [(3,[0,3,4,10]),(4,[0,3,4])] (Wt x y z)
def Zac:=λx=>lpV (λs:LI×Int=>da (Mm x s.1 s.2)) ([],0)
def aad:=λx=>LpT (λs:LI×Int=>da (Mm x s.1 s.2)) (λs=>Xt x s.1 s.2) ([],0)
def wG:=λx=>lpS (ZT x [] 0) (Zac x) (aad x)
theorem uat(G:Gd Ag){fr x}:eh fr (wG x):=Ca (λs:LI×Int=>ZT x s.1 s.2) ([],0) λ_=>tat G
def xG(x:LI):TA LI LI:=.s (wG x) nE (λy=>.l (.n y)) nE nE
def cad:=λx=>(xG x).val
def dad:=λx=>(xG x).ob
def yG:=λx=>fa.mk (cad x) (dad x) [0,1,1] [(0,.S .item x),(3,.A .item [])] zj (λq=>[(3,.A .item q)]) nE nE nE
theorem vat(G:Gd Ag){fr x}:eh fr (yG x):=ia G [([0,1,0,1,1],λe=>⟨wG (gL .item e 0 0)⟩)] ⟨λ_=>⟨rfl,uat G⟩,trivial⟩ [(2,[0,3,4])] (xG x)
def zG(x:LI):TN LI:=.s (yG x) (λy=>.l (.r y)) nE nE nE
def aU:=λx=>(zG x).val
def bU:=λx=>(zG x).ob
def wat:=λx=>fa.mk (aU x) (bU x) [] [(0,.S .item x)] zj nE nE nE nE
theorem xat(G:Gd Ag){fr x}:eh fr (wat x):=ia G [([0,1,1],λe=>⟨yG (gL .item e 0 0)⟩)] ⟨λ_=>⟨rfl,vat G⟩,trivial⟩ [(0,[0]),(1,[0,3]),(14,[2])] (zG x)
def AG(x:LI):LI:=ocR (aU x)
def BG(x:LI):Prop:=bU x
def cU:Spec:=⟨[(.lst .item)],.one (.acc true) (.lst .item),false,λx=>(AG x.1,0),λx=>BG x.1⟩
theorem yat(G:Gd Ag):Con Tryz.prog 139 cU:=va (pts:=[(.lst .item)]) (F:=XT) G λ_ _=>xat G
def Nm:SP:=[]
abbrev dU:Fnn:=⟨[.tmp 2],.one (.acc true) (.lst .item),none,[]⟩
abbrev CG:LI->RV:=rvF dU
abbrev Yt:=@OkF Tryz.prog tt Tryz.f140 dU LI
def DG(z x:LI)(_ y:Int):TA LI LI:=.w [inb y (ba .item x)] (.c (cmp .gtr (rd .item x y).Count 0) (.w [lim (ba .item z) (ba .item [(Item.mk (rd .item x y).Key (rd .item x y).Val 1)])] (.l (.n (z++[(Item.mk (rd .item x y).Key (rd .item x y).Val 1)]))))
 (.l (.n z)))
def ead:=λx y z a=>(DG x y z a).val
def fad:=λx y z a=>(DG x y z a).ob
def Zt:=λa x y z=>fa.mk (ead a x y z) (fad a x y z) [0,1,1,0,0,1,0,1,1] [(3,.A .item a),(7,.S .item x),(8,.I y),(9,.I z)] CG (λq=>[(3,.A .item q),(7,.S .item x),(8,.I y),(9,.I z)]) nE nE nE
theorem zat(G:Gd Nm){fr x y z a}:Yt fr (Zt x y z a):=ma G [(4,[3,5,7,8,9]),(5,[3,5,7,8,9,15]),(6,[3,7,8,9])] (DG x y z a)
def au(a:LI)(y:Int)(z:LI)(x:Int):TX LI (LI×Int) LI:=.c (cmp .lss x y) (.s (Zt z a y x) (λb=>.l (.n (b,(ar .add .i64 x 1)))) nE nE nE)
 (.l (.x z))
def Om:=λx y z a=>(au x y z a).val
def eu:=λx y z a=>(au x y z a).ob
def eU:=λx y z a=>Ba (Om x y z a) (eu x y z a) [0,0,1,0,1,1] (λq=>[(3,.A .item q.1),(7,.S .item x),(8,.I y),(9,.I q.2)]) (z,a) CG (λq=>(0,[(3,.A .item q)])) nE nE
theorem Aat(G:Gd Nm){fr x y z a}:Yt fr (eU x y z a):=ia G [([0,1,1,0,0,1,0,1,1],λe=>⟨Zt (gL .item e 3 0) (gL .item e 7 0) (gI e 8 0) (gI e 9 0)⟩)] ⟨λ_=>⟨rfl,zat G⟩,trivial⟩ [(3,[3,7,8,9,10]),(7,[3,7,8,9])] (au x y z a)
def gad:=λx y=>lpV (λs:LI×Int=>da (Om x y s.1 s.2)) ([],0)
def iad:=λx y=>LpT (λs:LI×Int=>da (Om x y s.1 s.2)) (λs=>eu x y s.1 s.2) ([],0)
def EG:=λx y=>lpS (eU x y [] 0) (gad x y) (iad x y)
theorem Bat(G:Gd Nm){fr x y}:Yt fr (EG x y):=Ca (λs:LI×Int=>eU x y s.1 s.2) ([],0) λ_=>Aat G
def FG(x:LI):TA LI LI:=.s (EG x (ba .item x)) nE (λy=>.l (.n y)) nE nE
def jad:=λx=>(FG x).val
def kad:=λx=>(FG x).ob
def GG:=λx=>fa.mk (jad x) (kad x) [0,1,1] [(0,.S .item x),(3,.A .item [])] CG (λq=>[(3,.A .item q)]) nE nE nE
theorem Cat(G:Gd Nm){fr x}:Yt fr (GG x):=ia G [([0,1,0,1,1],λe=>⟨EG (gL .item e 7 0) (gI e 8 0)⟩)] ⟨λ_=>⟨rfl,Bat G⟩,trivial⟩ [(2,[3,7,8,9])] (FG x)
def HG(x:LI):TN LI:=.s (GG x) (λy=>.l (.r y)) nE nE nE
def fU:=λx=>(HG x).val
def gU:=λx=>(HG x).ob
def Dat:=λx=>fa.mk (fU x) (gU x) [] [(0,.S .item x)] CG nE nE nE nE
theorem Eat(G:Gd Nm){fr x}:Yt fr (Dat x):=ia G [([0,1,1],λe=>⟨GG (gL .item e 0 0)⟩)] ⟨λ_=>⟨rfl,Cat G⟩,trivial⟩ [(0,[0]),(1,[0,3]),(8,[2])] (HG x)
def Pm(x:LI):LI:=ocR (fU x)
def fu(x:LI):Prop:=gU x
def IG:Spec:=⟨[(.lst .item)],.one (.acc true) (.lst .item),false,λx=>(Pm x.1,0),λx=>fu x.1⟩
theorem Fat(G:Gd Nm):Con Tryz.prog 140 IG:=va (pts:=[(.lst .item)]) (F:=dU) G λ_ _=>Eat G
def Qm:SP:=[(140,IG)]
abbrev iU:Fnn:=⟨[.tmp 2],.one (.acc true) (.lst .item),none,[]⟩
abbrev JG:LI->RV:=rvF iU
abbrev gu:=@OkF Tryz.prog tt Tryz.f141 iU LI
def LG(x y:LI)(_ z:Int):TA LI LI:=.w [inb z (ba .item y)] (.w [((!(cmp .eql (ba .item x) 0))&&true)=true->inb (ar .sub .i64 (ba .item x) 1) (ba .item x)] (.c (cond (cmp .eql (ba .item x) 0) true (cmp .neq (rd .item x (ar .sub .i64 (ba .item x) 1)).Key (rd .item y z).Key)) (.w [lim (ba .item x) (ba .item [(rd .item y z)])] (.l (.n (x++[(rd .item y z)]))))
 (.l (.n x))))
def lad:=λx y z a=>(LG x y z a).val
def mad:=λx y z a=>(LG x y z a).ob
def MG:=λa x y z=>fa.mk (lad a x y z) (mad a x y z) [0,1,1,0,0,1,0,1,1] [(3,.A .item a),(8,.A .item x),(9,.I y),(10,.I z)] JG (λq=>[(3,.A .item q),(8,.A .item x),(9,.I y),(10,.I z)]) nE nE nE
theorem Gat(G:Gd Qm){fr x y z a}:gu fr (MG x y z a):=ma G [(4,[3,5,8,9,10]),(5,[3,5,8,9,10,28]),(6,[3,8,9,10])] (LG x y z a)
def iu(a:LI)(y:Int)(z:LI)(x:Int):TX LI (LI×Int) LI:=.c (cmp .lss x y) (.s (MG z a y x) (λb=>.l (.n (b,(ar .add .i64 x 1)))) nE nE nE)
 (.l (.x z))
def Rm:=λx y z a=>(iu x y z a).val
def ku:=λx y z a=>(iu x y z a).ob
def jU:=λx y z a=>Ba (Rm x y z a) (ku x y z a) [0,0,1,0,1,1] (λq=>[(3,.A .item q.1),(8,.A .item x),(9,.I y),(10,.I q.2)]) (z,a) JG (λq=>(0,[(3,.A .item q)])) nE nE
theorem Hat(G:Gd Qm){fr x y z a}:gu fr (jU x y z a):=ia G [([0,1,1,0,0,1,0,1,1],λe=>⟨MG (gL .item e 3 0) (gL .item e 8 0) (gI e 9 0) (gI e 10 0)⟩)] ⟨λ_=>⟨rfl,Gat G⟩,trivial⟩ [(3,[3,8,9,10,11]),(7,[3,8,9,10])] (iu x y z a)
def nad:=λx y=>lpV (λs:LI×Int=>da (Rm x y s.1 s.2)) ([],0)
def oad:=λx y=>LpT (λs:LI×Int=>da (Rm x y s.1 s.2)) (λs=>ku x y s.1 s.2) ([],0)
def QG:=λx y=>lpS (jU x y [] 0) (nad x y) (oad x y)
theorem Iat(G:Gd Qm){fr x y}:gu fr (QG x y):=Ca (λs:LI×Int=>jU x y s.1 s.2) ([],0) λ_=>Hat G
def RG(x:LI):TA LI LI:=.w [fu x] (.s (QG (Pm x) (ba .item (Pm x))) nE (λy=>.l (.n y)) nE nE)
def pad:=λx=>(RG x).val
def qad:=λx=>(RG x).ob
def SG:=λx=>fa.mk (pad x) (qad x) [0,1,1] [(0,.S .item x),(3,.A .item [])] JG (λq=>[(3,.A .item q)]) nE nE nE
theorem Jat(G:Gd Qm){fr x}:gu fr (SG x):=ia G [([0,1,0,1,1],λe=>⟨QG (gL .item e 8 0) (gI e 9 0)⟩)] ⟨λ_=>⟨rfl,Iat G⟩,trivial⟩ [(2,[3,8,9,10])] (RG x)
def UG(x:LI):TN LI:=.s (SG x) (λy=>.l (.r y)) nE nE nE
def kU:=λx=>(UG x).val
def lU:=λx=>(UG x).ob
def Kat:=λx=>fa.mk (kU x) (lU x) [] [(0,.S .item x)] JG nE nE nE nE
theorem Lat(G:Gd Qm){fr x}:gu fr (Kat x):=ia G [([0,1,1],λe=>⟨SG (gL .item e 0 0)⟩)] ⟨λ_=>⟨rfl,Jat G⟩,trivial⟩ [(0,[0]),(1,[0,3]),(8,[2])] (UG x)
def VG(x:LI):LI:=ocR (kU x)
def WG(x:LI):Prop:=lU x
def mU:Spec:=⟨[(.lst .item)],.one (.acc true) (.lst .item),false,λx=>(VG x.1,0),λx=>WG x.1⟩
theorem Mat(G:Gd Qm):Con Tryz.prog 141 mU:=va (pts:=[(.lst .item)]) (F:=iU) G λ_ _=>Lat G
def rad:SP:=[(139,cU),(140,IG),(141,mU)]
abbrev nU:Fnn:=⟨[.tmp 4],.one (.acc true) (.lst .item),none,[]⟩
abbrev Oat:LI->RV:=rvF nU
abbrev Pat:=@OkF Tryz.prog tt Tryz.f119 nU LI
def XG(x:LI)(y:Int):TN LI:=.c (cmp .eql y 1) (.w [BG x] (.l (.r (AG x))))
 (.c (cmp .eql y 2) (.w [fu x] (.l (.r (Pm x))))
 (.w [WG x] (.l (.r (VG x)))))
def oU:=λx y=>(XG x y).val
def pU:=λx y=>(XG x y).ob
def Qat:=λx y=>fa.mk (oU x y) (pU x y) [] [(0,.S .item x),(1,.I y)] Oat nE nE nE nE
theorem Rat(G:Gd rad){fr x y}:Pat fr (Qat x y):=ma G [(0,[0,1]),(1,[0,5]),(2,[0,5,6]),(3,[4]),(4,[0,10]),(5,[4]),(6,[4])] (XG x y)
def YG(x:LI)(y:Int):LI:=ocR (oU x y)
def ZG(x:LI)(y:Int):Prop:=pU x y
def qU:Spec:=⟨[(.lst .item),(.int .i64)],.one (.acc true) (.lst .item),false,λx=>(YG x.1 x.2.1,0),λx=>ZG x.1 x.2.1⟩
theorem Sat(G:Gd rad):Con Tryz.prog 119 qU:=va (pts:=[(.lst .item),(.int .i64)]) (F:=nU) G λ_ _=>Rat G
def ld:SP:=[(136,eaf),(53,WT),(119,qU),(96,FL),(71,Cm)]
abbrev rU:Fnn:=⟨[.tmp 4,.tmp 5],.tup [(false,(.lst .row)),(true,.bool)],none,[]⟩
abbrev Re:LR×Bool×Unit->RV:=rvF rU
abbrev vd:=@OkF Tryz.prog tt Tryz.f109 rU (LR×Bool×Unit)
def aH(x:LR)(_:Int)(_:LR)(a:Int)(z:LR)(_ y:Int):TA (LR×Bool×Unit) LR:=.w [inb y (ba .row x)] (.c (cmp .eql (rd .row x y).Key a) (.w [lim (ba .row z) (ba .row [(rd .row x y)])] (.l (.n (z++[(rd .row x y)]))))
 (.l (.n z)))
def sad:=λx y z a b c d=>(aH x y z a b c d).val
def tad:=λx y z a b c d=>(aH x y z a b c d).ob
def bH:=λx y z a d b c=>fa.mk (sad x y z a d b c) (tad x y z a d b c) [0,1,1,0,0,1,0,1,0,0,1,0,0,1,0,1,1] [(0,.S .row x),(1,.I y),(6,.A .row z),(7,.I a),(8,.A .row d),(25,.S .row x),(26,.I b),(27,.I c)] Re (λq=>[(0,.S .row x),(1,.I y),(6,.A .row z),(7,.I a),(8,.A .row q),(25,.S .row x),(26,.I b),(27,.I c)]) nE nE nE
theorem Tat(G:Gd ld){fr x y z a b c d}:vd fr (bH x y z a b c d):=ma G [(8,[0,1,6,7,8,10,25,26,27]),(9,[0,1,6,7,8,10,25,26,27,34]),(10,[0,1,6,7,8,25,26,27])] (aH x y z a b c d)
def lu(a:LR)(b:Int)(c:LR)(d y:Int)(z:LR)(x:Int):TX (LR×Bool×Unit) (LR×Int) LR:=.c (cmp .lss x y) (.s (bH a b c d z y x) (λf=>.l (.n (f,(ar .add .i64 x 1)))) nE nE nE)
 (.l (.x z))
def Tm:=λx y z a b c d=>(lu x y z a b c d).val
def nu:=λx y z a b c d=>(lu x y z a b c d).ob
def sU:=λx y z a b c d=>Ba (Tm x y z a b c d) (nu x y z a b c d) [0,0,1,0,1,0,0,1,0,0,1,0,1,1] (λq=>[(0,.S .row x),(1,.I y),(6,.A .row z),(7,.I a),(8,.A .row q.1),(25,.S .row x),(26,.I b),(27,.I q.2)]) (c,d) Re (λq=>(2,[(0,.S .row x),(1,.I y),(6,.A .row z),(7,.I a),(8,.A .row q)])) nE nE
theorem Uat(G:Gd ld){fr x y z a b c d}:vd fr (sU x y z a b c d):=ia G [([0,1,1,0,0,1,0,1,0,0,1,0,0,1,0,1,1],λe=>⟨bH (gL .row e 0 0) (gI e 1 0) (gL .row e 6 0) (gI e 7 0) (gL .row e 8 0) (gI e 26 0) (gI e 27 0)⟩)] ⟨λ_=>⟨rfl,Tat G⟩,trivial⟩ [(7,[0,1,6,7,8,25,26,27,28]),(11,[0,1,6,7,8,25,26,27])] (lu x y z a b c d)
def uad:=λx y z a b=>lpV (λs:LR×Int=>da (Tm x y z a b s.1 s.2)) ([],0)
def vad:=λx y z a b=>LpT (λs:LR×Int=>da (Tm x y z a b s.1 s.2)) (λs=>nu x y z a b s.1 s.2) ([],0)
def cH:=λx y z a b=>lpS (sU x y z a b [] 0) (uad x y z a b) (vad x y z a b)
theorem Vat(G:Gd ld){fr x y z a b}:vd fr (cH x y z a b):=Ca (λs:LR×Int=>sU x y z a b s.1 s.2) ([],0) λ_=>Uat G
def dH(x:LR)(y:Int)(z:LR)(a:Int):TA (LR×Bool×Unit) LR:=.s (cH x y z a (ba .row x)) nE (λb=>.l (.n b)) nE nE
def wad:=λx y z a=>(dH x y z a).val
def xad:=λx y z a=>(dH x y z a).ob
def eH:=λx y z a=>fa.mk (wad x y z a) (xad x y z a) [0,1,0,0,1,0,0,1,0,1,1] [(0,.S .row x),(1,.I y),(6,.A .row z),(7,.I a),(8,.A .row [])] Re (λq=>[(0,.S .row x),(1,.I y),(6,.A .row z),(7,.I a),(8,.A .row q)]) nE nE nE
theorem Wat(G:Gd ld){fr x y z a}:vd fr (eH x y z a):=ia G [([0,1,0,1,0,0,1,0,0,1,0,1,1],λe=>⟨cH (gL .row e 0 0) (gI e 1 0) (gL .row e 6 0) (gI e 7 0) (gI e 26 0)⟩)] ⟨λ_=>⟨rfl,Vat G⟩,trivial⟩ [(6,[0,1,6,7,8,25,26,27])] (dH x y z a)
def pu(_:LR)(_:Int)(_:LR)(_:Int)(_ _:LR)(_:Time)(_:LI)(_:List Time)(_ _:Int)(y:LI)(a:Int)(z:LI)(x:Int):TX (LR×Bool×Unit) (LI×Int) LI:=.c (cmp .lss x a) (.w [inb x (ba .item y)] (.w [lim (ba .item z) (ba .item [(Item.mk (rd .item y x).Key (rd .item y x).Val (IntKind.wrap .i64 (0 - (rd .item y x).Count)))])] (.l (.n ((z++[(Item.mk (rd .item y x).Key (rd .item y x).Val (IntKind.wrap .i64 (0 - (rd .item y x).Count)))]),(ar .add .i64 x 1))))))
 (.l (.x z))
def Um:=λx y z a b c d f g h i j k l m=>(pu x y z a b c d f g h i j k l m).val
def qu:=λx y z a b c d f g h i j k l m=>(pu x y z a b c d f g h i j k l m).ob
def tU:=λy z a b c d x m f g h i j k l=>Ba (Um y z a b c d x m f g h i j k l) (qu y z a b c d x m f g h i j k l) [0,0,1,0,1,1,0,0,1,1,0,0,1,0,1,1,1,0,0,1,0,0,1,0,1,1] (λq=>[(0,.S .row y),(1,.I z),(6,.A .row a),(7,.I b),(8,.A .row c),(11,.A .row d),(13,.B [x.A,x.B]),(14,.A .item q.1),(43,.v .fr (.lst .time f)),(44,.I g),(45,.I h),(56,.v .fr (.lst .item i)),(57,.I j),(58,.I q.2)]) (k,l) Re (λq=>(6,[(0,.S .row y),(1,.I z),(6,.A .row a),(7,.I b),(8,.A .row c),(11,.A .row d),(13,.B [x.A,x.B]),(14,.A .item q),(43,.v .fr (.lst .time f)),(44,.I g),(45,.I h)])) nE nE
theorem Xat(G:Gd ld){fr x y z a b c d f g h i j k l m}:vd fr (tU x y z a b c d f g h i j k l m):=ma G [(18,[0,1,6,7,8,11,13,14,43,44,45,56,57,58,59]),(19,[0,1,6,7,8,11,13,14,16,43,44,45,56,57,58]),(20,[0,1,6,7,8,11,13,14,43,44,45,56,57,58]),(21,[0,1,6,7,8,11,13,14,43,44,45,56,57,58])] (pu x y z a b c d f g h i j k l m)
def yad:=λy z a b c d f x g h i j k=>lpV (λs:LI×Int=>da (Um y z a b c d f x g h i j k s.1 s.2)) (x,0)
def zad:=λy z a b c d f x g h i j k=>LpT (λs:LI×Int=>da (Um y z a b c d f x g h i j k s.1 s.2)) (λs=>qu y z a b c d f x g h i j k s.1 s.2) (x,0)
def fH:=λy z a b c d f x g h i j k=>lpS (tU y z a b c d f x g h i j k x 0) (yad y z a b c d f x g h i j k) (zad y z a b c d f x g h i j k)
theorem Yat(G:Gd ld){fr y z a b c d f x g h i j k}:vd fr (fH y z a b c d f x g h i j k):=Ca (λs:LI×Int=>tU y z a b c d f x g h i j k s.1 s.2) (x,0) λ_=>Xat G
def gH(a:LR)(b:Int)(c:LR)(d:Int)(f x:LR)(y:Time)(g:LI)(h:List Time)(i j:Int):TA (LR×Bool×Unit) LI:=.k (St x y) λz=>.w [Tt x y] (.s (fH a b c d f x y g h i j z (ba .item z)) nE (λk=>.l (.n k)) nE nE)
def Aad:=λx y z a b c d f g h i=>(gH x y z a b c d f g h i).val
def Bad:=λx y z a b c d f g h i=>(gH x y z a b c d f g h i).ob
def iH:=λy z a b c d x i f g h=>fa.mk (Aad y z a b c d x i f g h) (Bad y z a b c d x i f g h) [0,1,1,0,0,1,1,0,0,1,0,1,1,1,0,0,1,0,0,1,0,1,1] [(0,.S .row y),(1,.I z),(6,.A .row a),(7,.I b),(8,.A .row c),(11,.A .row d),(13,.B [x.A,x.B]),(14,.A .item i),(43,.v .fr (.lst .time f)),(44,.I g),(45,.I h)] Re (λq=>[(0,.S .row y),(1,.I z),(6,.A .row a),(7,.I b),(8,.A .row c),(11,.A .row d),(13,.B [x.A,x.B]),(14,.A .item q),(43,.v .fr (.lst .time f)),(44,.I g),(45,.I h)]) nE nE nE
theorem Zat(G:Gd ld){fr x y z a b c d f g h i}:vd fr (iH x y z a b c d f g h i):=ia G [([0,1,0,1,1,0,0,1,1,0,0,1,0,1,1,1,0,0,1,0,0,1,0,1,1],λe=>⟨fH (gL .row e 0 0) (gI e 1 0) (gL .row e 6 0) (gI e 7 0) (gL .row e 8 0) (gL .row e 11 0) (Uc e 13) (gL .item e 14 0) (gL .time e 43 0) (gI e 44 0) (gI e 45 0) (gL .item e 56 0) (gI e 57 0)⟩)] ⟨λ_=>⟨rfl,Yat G⟩,trivial⟩ [(17,[0,1,6,7,8,11,13,14,43,44,45,56,57,58])] (gH x y z a b c d f g h i)
def ru(_:LR)(_:Int)(_:LR)(_:Int)(_ _:LR)(a:Time)(_:List Time)(_ _:Int)(y:LI)(b:Int)(z:LR)(x:Int):TX (LR×Bool×Unit) (LR×Int) LR:=.c (cmp .lss x b) (.w [inb x (ba .item y)] (.w [lim (ba .row z) (ba .row [(Row.mk (rd .item y x).Key (rd .item y x).Val a (rd .item y x).Count)])] (.l (.n ((z++[(Row.mk (rd .item y x).Key (rd .item y x).Val a (rd .item y x).Count)]),(ar .add .i64 x 1))))))
 (.l (.x z))
def Vm:=λx y z a b c d f g h i j k l=>(ru x y z a b c d f g h i j k l).val
def su:=λx y z a b c d f g h i j k l=>(ru x y z a b c d f g h i j k l).ob
def uU:=λx y z a b l c d f g h i j k=>Ba (Vm x y z a b l c d f g h i j k) (su x y z a b l c d f g h i j k) [0,0,1,1,1,1,0,0,1,1,0,0,1,0,1,1,1,0,0,1,0,0,1,0,1,1] (λq=>[(0,.S .row x),(1,.I y),(6,.A .row z),(7,.I a),(8,.A .row b),(11,.A .row q.1),(13,.B [c.A,c.B]),(43,.v .fr (.lst .time d)),(44,.I f),(45,.I g),(75,.v .fr (.lst .item h)),(76,.I i),(77,.I q.2)]) (j,k) Re (λq=>(8,[(0,.S .row x),(1,.I y),(6,.A .row z),(7,.I a),(8,.A .row b),(11,.A .row q),(43,.v .fr (.lst .time d)),(44,.I f),(45,.I g)])) nE nE
theorem aau(G:Gd ld){fr x y z a b c d f g h i j k l}:vd fr (uU x y z a b c d f g h i j k l):=ma G [(23,[0,1,6,7,8,11,13,43,44,45,75,76,77,78]),(24,[0,1,6,7,8,11,13,18,43,44,45,75,76,77]),(25,[0,1,6,7,8,11,13,43,44,45,75,76,77]),(26,[0,1,6,7,8,11,13,43,44,45,75,76,77])] (ru x y z a b c d f g h i j k l)
def Cad:=λy z a b c x d f g h i j=>lpV (λs:LR×Int=>da (Vm y z a b c x d f g h i j s.1 s.2)) (x,0)
def Dad:=λy z a b c x d f g h i j=>LpT (λs:LR×Int=>da (Vm y z a b c x d f g h i j s.1 s.2)) (λs=>su y z a b c x d f g h i j s.1 s.2) (x,0)
def jH:=λy z a b c x d f g h i j=>lpS (uU y z a b c x d f g h i j x 0) (Cad y z a b c x d f g h i j) (Dad y z a b c x d f g h i j)
theorem bau(G:Gd ld){fr y z a b c x d f g h i j}:vd fr (jH y z a b c x d f g h i j):=Ca (λs:LR×Int=>uU y z a b c x d f g h i j s.1 s.2) (x,0) λ_=>aau G
def kH(b:LR)(z:Int)(c:LR)(d:Int)(a f:LR)(x:List Time)(g y:Int):TA (LR×Bool×Unit) LR:=.w [inb y (ba .time x)] (.k (St a (rd .time x y)) λh=>.w [Tt a (rd .time x y),ZG h z] (.s (iH b z c d a f (rd .time x y) (YG h z) x g y) (λi=>.k (Bw i) λj=>.w [Eo i] (.s (jH b z c d a f (rd .time x y) x g y j (ba .item j)) nE (λk=>.l (.n k)) nE nE)) nE nE nE))
def vU:=λx y z a b c d f g=>(kH x y z a b c d f g).val
def wU:=λx y z a b c d f g=>(kH x y z a b c d f g).ob
def lH:=λx y z a b g c d f=>fa.mk (vU x y z a b g c d f) (wU x y z a b g c d f) [0,1,1,0,0,1,0,1,1,1,0,0,1,0,0,1,0,1,1] [(0,.S .row x),(1,.I y),(6,.A .row z),(7,.I a),(8,.A .row b),(11,.A .row g),(43,.v .fr (.lst .time c)),(44,.I d),(45,.I f)] Re (λq=>[(0,.S .row x),(1,.I y),(6,.A .row z),(7,.I a),(8,.A .row b),(11,.A .row q),(43,.v .fr (.lst .time c)),(44,.I d),(45,.I f)]) nE nE nE
theorem cau(G:Gd ld){fr x y z a b c d f g}:vd fr (lH x y z a b c d f g):=ia G [([0,1,1,0,0,1,1,0,0,1,0,1,1,1,0,0,1,0,0,1,0,1,1],λe=>⟨iH (gL .row e 0 0) (gI e 1 0) (gL .row e 6 0) (gI e 7 0) (gL .row e 8 0) (gL .row e 11 0) (Uc e 13) (gL .item e 14 0) (gL .time e 43 0) (gI e 44 0) (gI e 45 0)⟩),([0,1,1,1,1,0,0,1,1,0,0,1,0,1,1,1,0,0,1,0,0,1,0,1,1],λe=>⟨jH (gL .row e 0 0) (gI e 1 0) (gL .row e 6 0) (gI e 7 0) (gL .row e 8 0) (gL .row e 11 0) (Uc e 13) (gL .time e 43 0) (gI e 44 0) (gI e 45 0) (gL .item e 75 0) (gI e 76 0)⟩)] ⟨λ_=>⟨rfl,Zat G⟩,λ_=>⟨rfl,bau G⟩,trivial⟩ [(15,[0,1,6,7,8,11,13,43,44,45]),(16,[0,1,6,7,8,11,13,14,43,44,45]),(22,[0,1,6,7,8,11,13,43,44,45,75,76,77])] (kH x y z a b c d f g)
def tu(a:LR)(b:Int)(c:LR)(d:Int)(f:LR)(g:List Time)(y:Int)(z:LR)(x:Int):TX (LR×Bool×Unit) (LR×Int) LR:=.c (cmp .lss x y) (.s (lH a b c d f z g y x) (λh=>.l (.n (h,(ar .add .i64 x 1)))) nE nE nE)
 (.l (.x z))
def Wm:=λx y z a b c d f g=>(tu x y z a b c d f g).val
def vu:=λx y z a b c d f g=>(tu x y z a b c d f g).ob
def xU:=λx y z a b c d f g=>Ba (Wm x y z a b c d f g) (vu x y z a b c d f g) [0,0,1,0,1,1,1,0,0,1,0,0,1,0,1,1] (λq=>[(0,.S .row x),(1,.I y),(6,.A .row z),(7,.I a),(8,.A .row b),(11,.A .row q.1),(43,.v .fr (.lst .time c)),(44,.I d),(45,.I q.2)]) (f,g) Re (λq=>(4,[(0,.S .row x),(1,.I y),(6,.A .row z),(7,.I a),(11,.A .row q)])) nE nE
theorem dau(G:Gd ld){fr x y z a b c d f g}:vd fr (xU x y z a b c d f g):=ia G [([0,1,1,0,0,1,0,1,1,1,0,0,1,0,0,1,0,1,1],λe=>⟨lH (gL .row e 0 0) (gI e 1 0) (gL .row e 6 0) (gI e 7 0) (gL .row e 8 0) (gL .row e 11 0) (gL .time e 43 0) (gI e 44 0) (gI e 45 0)⟩)] ⟨λ_=>⟨rfl,cau G⟩,trivial⟩ [(14,[0,1,6,7,8,11,43,44,45,46]),(27,[0,1,6,7,8,11,43,44,45])] (tu x y z a b c d f g)
def Ead:=λx y z a b c d=>lpV (λs:LR×Int=>da (Wm x y z a b c d s.1 s.2)) ([],0)
def Fad:=λx y z a b c d=>LpT (λs:LR×Int=>da (Wm x y z a b c d s.1 s.2)) (λs=>vu x y z a b c d s.1 s.2) ([],0)
def mH:=λx y z a b c d=>lpS (xU x y z a b c d [] 0) (Ead x y z a b c d) (Fad x y z a b c d)
theorem eau(G:Gd ld){fr x y z a b c d}:vd fr (mH x y z a b c d):=Ca (λs:LR×Int=>xU x y z a b c d s.1 s.2) ([],0) λ_=>dau G
def nH(x:LR)(a:Int)(b:LR)(y:Int)(c:LR):TA (LR×Bool×Unit) LR:=.k (ib x y) λz=>.w [XV x y] (.s (mH x a b y c z (ba .time z)) nE (λd=>.l (.n d)) nE nE)
def Gad:=λx y z a b=>(nH x y z a b).val
def Had:=λx y z a b=>(nH x y z a b).ob
def oH:=λx y z a b=>fa.mk (Gad x y z a b) (Had x y z a b) [0,1,1,1,0,0,1,0,0,1,0,1,1] [(0,.S .row x),(1,.I y),(6,.A .row z),(7,.I a),(8,.A .row b),(11,.A .row [])] Re (λq=>[(0,.S .row x),(1,.I y),(6,.A .row z),(7,.I a),(11,.A .row q)]) nE nE nE
theorem fau(G:Gd ld){fr x y z a b}:vd fr (oH x y z a b):=ia G [([0,1,0,1,1,1,0,0,1,0,0,1,0,1,1],λe=>⟨mH (gL .row e 0 0) (gI e 1 0) (gL .row e 6 0) (gI e 7 0) (gL .row e 8 0) (gL .time e 43 0) (gI e 44 0)⟩)] ⟨λ_=>⟨rfl,eau G⟩,trivial⟩ [(13,[0,1,6,7,8,11,43,44,45])] (nH x y z a b)
def pH(y:LR)(z:Int)(x:LR)(a:Int):TA (LR×Bool×Unit) LR:=.s (eH y z x a) (λc=>.s (oH y z x a c) (λb=>.w [lim (ba .row x) (ba .row b)] (.l (.n (x++b)))) nE nE nE) nE nE nE
def yU:=λx y z a=>(pH x y z a).val
def zU:=λx y z a=>(pH x y z a).ob
def qH:=λx y a z=>fa.mk (yU x y a z) (zU x y a z) [0,1,0,0,1,0,1,1] [(0,.S .row x),(1,.I y),(6,.A .row a),(7,.I z)] Re (λq=>[(0,.S .row x),(1,.I y),(6,.A .row q),(7,.I z)]) nE nE nE
theorem gau(G:Gd ld){fr x y z a}:vd fr (qH x y z a):=ia G [([0,1,0,0,1,0,0,1,0,1,1],λe=>⟨eH (gL .row e 0 0) (gI e 1 0) (gL .row e 6 0) (gI e 7 0)⟩),([0,1,1,1,0,0,1,0,0,1,0,1,1],λe=>⟨oH (gL .row e 0 0) (gI e 1 0) (gL .row e 6 0) (gI e 7 0) (gL .row e 8 0)⟩)] ⟨λ_=>⟨rfl,Wat G⟩,λ_=>⟨rfl,fau G⟩,trivial⟩ [(5,[0,1,6,7,8]),(12,[0,1,6,7,8,11]),(28,[0,1,6,7])] (pH x y z a)
def wu(z:LR)(a:Int)(y:LR)(x:Int):TX (LR×Bool×Unit) (LR×Int) LR:=.c (cmp .lss x 4) (.s (qH z a y x) (λb=>.l (.n (b,(ar .add .i64 x 1)))) nE nE nE)
 (.l (.x y))
def Xm:=λx y z a=>(wu x y z a).val
def xu:=λx y z a=>(wu x y z a).ob
def AU:=λx y z a=>Ba (Xm x y z a) (xu x y z a) [0,0,1,0,1,1] (λq=>[(0,.S .row x),(1,.I y),(6,.A .row q.1),(7,.I q.2)]) (z,a) Re (λq=>(0,[(6,.A .row q)])) nE nE
theorem hau(G:Gd ld){fr x y z a}:vd fr (AU x y z a):=ia G [([0,1,0,0,1,0,1,1],λe=>⟨qH (gL .row e 0 0) (gI e 1 0) (gL .row e 6 0) (gI e 7 0)⟩)] ⟨λ_=>⟨rfl,gau G⟩,trivial⟩ [(3,[0,1,6,7,21]),(4,[0,1,6,7])] (wu x y z a)
def Iad:=λx y=>lpV (λs:LR×Int=>da (Xm x y s.1 s.2)) ([],0)
def Jad:=λx y=>LpT (λs:LR×Int=>da (Xm x y s.1 s.2)) (λs=>xu x y s.1 s.2) ([],0)
def rH:=λx y=>lpS (AU x y [] 0) (Iad x y) (Jad x y)
theorem iau(G:Gd ld){fr x y}:vd fr (rH x y):=Ca (λs:LR×Int=>AU x y s.1 s.2) ([],0) λ_=>hau G
def sH(x:LR)(y:Int):TA (LR×Bool×Unit) LR:=.s (rH x y) nE (λz=>.l (.n z)) nE nE
def Kad:=λx y=>(sH x y).val
def Lad:=λx y=>(sH x y).ob
def tH:=λx y=>fa.mk (Kad x y) (Lad x y) [0,1,1] [(0,.S .row x),(1,.I y),(6,.A .row [])] Re (λq=>[(6,.A .row q)]) nE nE nE
theorem jau(G:Gd ld){fr x y}:vd fr (tH x y):=ia G [([0,1,0,1,1],λe=>⟨rH (gL .row e 0 0) (gI e 1 0)⟩)] ⟨λ_=>⟨rfl,iau G⟩,trivial⟩ [(2,[0,1,6,7])] (sH x y)
def uH(y:LR)(z:Int):TN (LR×Bool×Unit):=.s (tH y z) (λx=>.w [Zh x] (.l (.r ((Qe x).1,((Qe x).2.1,()))))) nE nE nE
def BU:=λx y=>(uH x y).val
def CU:=λx y=>(uH x y).ob
def kau:=λx y=>fa.mk (BU x y) (CU x y) [] [(0,.S .row x),(1,.I y)] Re nE nE nE nE
theorem lau(G:Gd ld){fr x y}:vd fr (kau x y):=ia G [([0,1,1],λe=>⟨tH (gL .row e 0 0) (gI e 1 0)⟩)] ⟨λ_=>⟨rfl,jau G⟩,trivial⟩ [(0,[0,1]),(1,[0,1,6]),(29,[4,5])] (uH x y)
def vH(x:LR)(y:Int):LR×Bool×Unit:=ocR (BU x y)
def wH(x:LR)(y:Int):Prop:=CU x y
def DU:Spec:=⟨[(.lst .row),(.int .i64)],.tup [(false,(.lst .row)),(true,.bool)],false,λx=>(vH x.1 x.2.1,0),λx=>wH x.1 x.2.1⟩
theorem mau(G:Gd ld):Con Tryz.prog 109 DU:=va (pts:=[(.lst .row),(.int .i64)]) (F:=rU) G λ_ _=>lau G
abbrev V70:=Plan->List LR->LR×Bool×Unit
abbrev Q70:=Plan->List LR->Prop
def xH(v:V70)(p:Q70):Spec:=⟨[(.st .plan),(.lst .lrow)],.tup [(false,(.lst .row)),(true,.bool)],false,λx=>(v x.1 x.2.1,0),λx=>p x.1 x.2.1⟩
def yu(r70V:V70)(r70P:Q70):SP:=[(70,xH r70V r70P),(104,oF),(106,oT),(72,rT),(71,Cm),(107,xT),(108,NT),(109,DU)]
abbrev F70:Fnn:=⟨[.tmp 4,.tmp 5],.tup [(false,(.lst .row)),(true,.bool)],none,[]⟩
abbrev EU:LR×Bool×Unit->RV:=rvF F70
abbrev yH:=@OkF Tryz.prog tt Tryz.f70 F70 (LR×Bool×Unit)
def zu(r70V:V70)(r70P:Q70)(b:List LR)(_ _:Int)(y:LP)(c:Int)(z:List LR)(x:Int):TX (LR×Bool×Unit) ((List LR)×Int) ((List LR)):=.c (cmp .lss x c) (.w [inb x (ba .plan y)] (.k (r70V (Plan.mk (rd .plan y x).Kind (rd .plan y x).Num (rd .plan y x).Kids) b) λa=>.w [r70P (Plan.mk (rd .plan y x).Kind (rd .plan y x).Num (rd .plan y x).Kids) b] (.c (!a.2.1) (.l (.r ([],(false,()))))
 (.w [lim (ba .lrow z) (ba .lrow [a.1])] (.l (.n ((z++[a.1]),(ar .add .i64 x 1))))))))
 (.l (.x z))
def Ym:=λr70V r70P x y z a b c d=>(zu r70V r70P x y z a b c d).val
def Au:=λr70V r70P x y z a b c d=>(zu r70V r70P x y z a b c d).ob
def FU:=λr70V r70P y z a x b c d=>Ba (Ym r70V r70P y z a x b c d) (Au r70V r70P y z a x b c d) [0,0,1,0,1,1] (λq=>[(1,.S .lrow y),(2,.box [(.fr,.i z),(.fr,.i a),(.sh,.lst .plan x)]),(6,.v (.acc false) (.lst .lrow q.1)),(12,.S .plan x),(13,.I b),(14,.I q.2)]) (c,d) EU (λq=>(0,[(1,.S .lrow y),(2,.box [(.fr,.i z),(.fr,.i a),(.sh,.lst .plan x)]),(6,.v (.acc false) (.lst .lrow q))])) nE nE
theorem nau{r70V:V70}{r70P:Q70}(G:Gd (yu r70V r70P)){fr x y z a b c d}:yH fr (FU r70V r70P x y z a b c d):=ma G [(3,[1,2,6,12,13,14,15]),(4,[1,2,6,8,12,13,14]),(5,[1,2,6,9,10,12,13,14]),(6,[1,2,6,9,12,13,14,25]),(7,[4,5]),(8,[1,2,6,12,13,14]),(9,[1,2,6,12,13,14])] (zu r70V r70P x y z a b c d)
def Mad:=λr70V r70P x y z a b=>lpV (λs:(List LR)×Int=>da (Ym r70V r70P x y z a b s.1 s.2)) ([],0)
def Nad:=λr70V r70P x y z a b=>LpT (λs:(List LR)×Int=>da (Ym r70V r70P x y z a b s.1 s.2)) (λs=>Au r70V r70P x y z a b s.1 s.2) ([],0)
def zH:=λr70V r70P x y z a b=>lpS (FU r70V r70P x y z a b [] 0) (Mad r70V r70P x y z a b) (Nad r70V r70P x y z a b)
theorem oau{r70V:V70}{r70P:Q70}(G:Gd (yu r70V r70P)){fr x y z a b}:yH fr (zH r70V r70P x y z a b):=Ca (λs:(List LR)×Int=>FU r70V r70P x y z a b s.1 s.2) ([],0) λ_=>nau G
def BH(r70V:V70)(r70P:Q70)(y:List LR)(z a:Int)(x:LP):TA (LR×Bool×Unit) ((List LR)):=.s (zH r70V r70P y z a x (ba .plan x)) nE (λb=>.l (.n b)) nE nE
def Oad:=λr70V r70P x y z a=>(BH r70V r70P x y z a).val
def Pad:=λr70V r70P x y z a=>(BH r70V r70P x y z a).ob
def CH:=λr70V r70P x y z a=>fa.mk (Oad r70V r70P x y z a) (Pad r70V r70P x y z a) [0,1,1] [(1,.S .lrow x),(2,.box [(.fr,.i y),(.fr,.i z),(.sh,.lst .plan a)]),(6,.v .fr (.nl .lrow))] EU (λq=>[(1,.S .lrow x),(2,.box [(.fr,.i y),(.fr,.i z),(.sh,.lst .plan a)]),(6,.v (.acc false) (.lst .lrow q))]) nE nE nE
theorem pau{r70V:V70}{r70P:Q70}(G:Gd (yu r70V r70P)){fr x y z a}:yH fr (CH r70V r70P x y z a):=ia G [([0,1,0,1,1],λe=>⟨zH r70V r70P (gL .lrow e 1 0) (gI e 2 0) (gI e 2 1) (gL .plan e 2 2) (gI e 13 0)⟩)] ⟨λ_=>⟨rfl,oau G⟩,trivial⟩ [(2,[1,2,6,12,13,14])] (BH r70V r70P x y z a)
def DH(r70V:V70)(r70P:Q70)(y:Plan)(z:List LR):TN (LR×Bool×Unit):=.s (CH r70V r70P z y.Kind y.Num y.Kids) (λx=>.c (cmp .eql y.Kind 1) (.w [inb y.Num (ba .lrow z),Bm (rd .lrow z y.Num)] (.l (.r ((Am (rd .lrow z y.Num)),(true,())))))
 (.c (cmp .eql y.Kind 2) (.k (AF (rd .lrow x 0) y.Num) λc=>.w [inb 0 (ba .lrow x),BF (rd .lrow x 0) y.Num] (.l (.r (c.1,(c.2.1,())))))
 (.c (cmp .eql y.Kind 3) (.k (DF (rd .lrow x 0) (rd .lrow x 1)) λa=>.w [inb 0 (ba .lrow x),inb 1 (ba .lrow x),EF (rd .lrow x 0) (rd .lrow x 1),Zh a] (.l (.r ((Qe a).1,((Qe a).2.1,())))))
 (.c (cmp .eql y.Kind 4) (.k (LF (rd .lrow x 0)) λb=>.w [inb 0 (ba .lrow x),MF (rd .lrow x 0),Zh b] (.l (.r ((Qe b).1,((Qe b).2.1,())))))
 (.c (cmp .eql y.Kind 5) (.k (cG (rd .lrow x 0) (rd .lrow x 1)) λd=>.w [inb 0 (ba .lrow x),inb 1 (ba .lrow x),dG (rd .lrow x 0) (rd .lrow x 1)] (.l (.r (d.1,(d.2.1,())))))
 (.k (vH (rd .lrow x 0) y.Num) λf=>.w [inb 0 (ba .lrow x),wH (rd .lrow x 0) y.Num] (.l (.r (f.1,(f.2.1,())))))))))) nE nE nE
def EH:=λr70V r70P x y=>(DH r70V r70P x y).val
def FH:=λr70V r70P x y=>(DH r70V r70P x y).ob
def qau:=λr70V r70P x y=>fa.mk (EH r70V r70P x y) (FH r70V r70P x y) [] [(0,.agg false [.i x.Kind,.i x.Num,.lst .plan x.Kids]),(1,.S .lrow y)] EU nE nE nE nE
theorem rau{r70V:V70}{r70P:Q70}(G:Gd (yu r70V r70P)){fr x y}:yH fr (qau r70V r70P x y):=ia G [([0,1,1],λe=>⟨CH r70V r70P (gL .lrow e 1 0) (gI e 2 0) (gI e 2 1) (gL .plan e 2 2)⟩)] ⟨λ_=>⟨rfl,pau G⟩,trivial⟩ [(0,[1,2]),(1,[1,2,6]),(10,[1,2,6,32]),(11,[1,2,6,32,33]),(12,[4,5]),(13,[2,6,32,41]),(14,[4,5]),(15,[2,6,32,51]),(16,[4,5]),(17,[2,6,32,63]),(18,[4,5]),(19,[2,6,72]),(20,[4,5]),(21,[4,5])] (DH r70V r70P x y)
theorem sau{r70V:V70}{r70P:Q70}(G:Gd (yu r70V r70P)):Con Tryz.prog 70 (xH (λx y=>ocR (EH r70V r70P x y)) (λx y=>FH r70V r70P x y)):=va (pts:=[(.st .plan),(.lst .lrow)]) (F:=F70) G λ_ _=>rau G
def md:Nat->V70×Q70
 |0=>(λ_ _=>default,λ_ _=>False)
 |n+1=>(λx y=>ocR (EH (md n).1 (md n).2 x y),λx y=>FH (md n).1 (md n).2 x y)
def GU:V70:=(md Pb).1
def IU:Q70:=(md Pb).2
def Qad:Spec:=xH GU IU
def Bu:SP:=[(69,AS),(25,mF),(70,Qad)]
abbrev F29:Fnn:=⟨[.tmp 4,.tmp 5],.tup [(false,(.lst .row)),(true,.bool)],none,[]⟩
abbrev JU:LR×Bool×Unit->RV:=rvF F29
abbrev GH:=@OkF Tryz.prog tt Tryz.f29 F29 (LR×Bool×Unit)
def Cu(y:List LR)(_ _:Int)(_:LP)(z x:Int):TX (LR×Bool×Unit) Int Unit:=.c (cmp .lss x z) (.w [inb x (ba .lrow y)] (.w [zt (rd .lrow y x)] (.c (!(xt (rd .lrow y x))) (.l (.r ([],(false,()))))
 (.l (.n (ar .add .i64 x 1))))))
 (.l (.x ()))
def Zm:=λx y z a b c=>(Cu x y z a b c).val
def Du:=λx y z a b c=>(Cu x y z a b c).ob
def LU:=λx y z a b c=>Ba (Zm x y z a b c) (Du x y z a b c) [0,0,1,0,1,1] (λq=>[(1,.S .lrow x),(2,.box [(.fr,.i y),(.fr,.i z),(.sh,.lst .plan a)]),(16,.S .lrow x),(17,.I b),(18,.I q)]) c JU (λ_=>(0,[(1,.S .lrow x),(2,.box [(.fr,.i y),(.fr,.i z),(.sh,.lst .plan a)])])) nE nE
theorem tau(G:Gd Bu){fr x y z a b c}:GH fr (LU x y z a b c):=ma G [(4,[1,2,16,17,18,19]),(5,[1,2,7,16,17,18]),(6,[1,2,16,17,18,24]),(7,[4,5]),(8,[1,2,16,17,18])] (Cu x y z a b c)
def Rad:=λx y z a b=>lpV (λs:Int=>da (Zm x y z a b s)) 0
def Sad:=λx y z a b=>LpT (λs:Int=>da (Zm x y z a b s)) (λs=>Du x y z a b s) 0
def HH:=λx y z a b=>lpS (LU x y z a b 0) (Rad x y z a b) (Sad x y z a b)
theorem uau(G:Gd Bu){fr x y z a b}:GH fr (HH x y z a b):=Ca (λs:Int=>LU x y z a b s) 0 λ_=>tau G
def IH(x:List LR)(y z:Int)(a:LP):TA (LR×Bool×Unit) Unit:=.s (HH x y z a (ba .lrow x)) nE (λ_=>.l (.n ())) nE nE
def Tad:=λx y z a=>(IH x y z a).val
def Uad:=λx y z a=>(IH x y z a).ob
def JH:=λx y z a=>fa.mk (Tad x y z a) (Uad x y z a) [0,1,1] [(1,.S .lrow x),(2,.box [(.fr,.i y),(.fr,.i z),(.sh,.lst .plan a)])] JU (λ_=>[(1,.S .lrow x),(2,.box [(.fr,.i y),(.fr,.i z),(.sh,.lst .plan a)])]) nE nE nE
theorem vau(G:Gd Bu){fr x y z a}:GH fr (JH x y z a):=ia G [([0,1,0,1,1],λe=>⟨HH (gL .lrow e 1 0) (gI e 2 0) (gI e 2 1) (gL .plan e 2 2) (gI e 17 0)⟩)] ⟨λ_=>⟨rfl,uau G⟩,trivial⟩ [(3,[1,2,16,17,18])] (IH x y z a)
def LH(x:Plan)(y:List LR):TN (LR×Bool×Unit):=.w [WE (Plan.mk x.Kind x.Num x.Kids)] (.c (cond (!(VE (Plan.mk x.Kind x.Num x.Kids))) true (cmp .neq (ba .lrow y) 2)) (.l (.r ([],(false,()))))
 (.s (JH y x.Kind x.Num x.Kids) (λ_=>.k (GU (Plan.mk x.Kind x.Num x.Kids) y) λz=>.w [IU (Plan.mk x.Kind x.Num x.Kids) y] (.l (.r (z.1,(z.2.1,()))))) nE nE nE))
def MU:=λx y=>(LH x y).val
def NU:=λx y=>(LH x y).ob
def wau:=λx y=>fa.mk (MU x y) (NU x y) [] [(0,.agg false [.i x.Kind,.i x.Num,.lst .plan x.Kids]),(1,.S .lrow y)] JU nE nE nE nE
theorem xau(G:Gd Bu){fr x y}:GH fr (wau x y):=ia G [([0,1,1],λe=>⟨JH (gL .lrow e 1 0) (gI e 2 0) (gI e 2 1) (gL .plan e 2 2)⟩)] ⟨λ_=>⟨rfl,vau G⟩,trivial⟩ [(0,[1,2]),(1,[1,2,15]),(2,[4,5]),(9,[4,5])] (LH x y)
def MH(x:Plan)(y:List LR):LR×Bool×Unit:=ocR (MU x y)
def PH(x:Plan)(y:List LR):Prop:=NU x y
def PU:Spec:=⟨[(.st .plan),(.lst .lrow)],.tup [(false,(.lst .row)),(true,.bool)],false,λx=>(MH x.1 x.2.1,0),λx=>PH x.1 x.2.1⟩
theorem yau(G:Gd Bu):Con Tryz.prog 29 PU:=va (pts:=[(.st .plan),(.lst .lrow)]) (F:=F29) G λ_ _=>xau G
def Eu:SP:=[(95,gG)]
abbrev F52:Fnn:=⟨[.tmp 4],.one .fr .bool,none,[]⟩
abbrev QU:Bool->RV:=rvF F52
abbrev QH:=@OkF Tryz.prog tt Tryz.f52 F52 Bool
def Fu(z:Time)(y:List Time)(a x:Int):TX Bool Int Unit:=.c (cmp .lss x a) (.w [inb x (ba .time y)] (.w [fG (rd .time y x) z] (.c (eG (rd .time y x) z) (.l (.r true))
 (.l (.n (ar .add .i64 x 1))))))
 (.l (.x ()))
def bn:=λx y z a=>(Fu x y z a).val
def Gu:=λx y z a=>(Fu x y z a).ob
def RU:=λx y z a=>Ba (bn x y z a) (Gu x y z a) [0,0,1,0,1] (λq=>[(3,.B [x.A,x.B]),(7,.S .time y),(8,.I z),(9,.I q)]) a QU (λ_=>(0,[])) nE nE
theorem zau(G:Gd Eu){fr x y z a}:QH fr (RU x y z a):=ma G [(2,[3,7,8,9,10]),(3,[3,6,7,8,9]),(4,[3,7,8,9,15]),(5,[4]),(6,[3,7,8,9])] (Fu x y z a)
def Vad:=λx y z=>lpV (λs:Int=>da (bn x y z s)) 0
def Wad:=λx y z=>LpT (λs:Int=>da (bn x y z s)) (λs=>Gu x y z s) 0
def RH:=λx y z=>lpS (RU x y z 0) (Vad x y z) (Wad x y z)
theorem Aau(G:Gd Eu){fr x y z}:QH fr (RH x y z):=Ca (λs:Int=>RU x y z s) 0 λ_=>zau G
def SH(x:List Time)(y:Time):TA Bool Unit:=.s (RH y x (ba .time x)) nE (λ_=>.l (.n ())) nE nE
def Xad:=λx y=>(SH x y).val
def Yad:=λx y=>(SH x y).ob
def UH:=λy x=>fa.mk (Xad y x) (Yad y x) [0,1] [(0,.S .time y),(3,.B [x.A,x.B])] QU (λ_=>[]) nE nE nE
theorem Bau(G:Gd Eu){fr x y}:QH fr (UH x y):=ia G [([0,1,0,1],λe=>⟨RH (Uc e 3) (gL .time e 7 0) (gI e 8 0)⟩)] ⟨λ_=>⟨rfl,Aau G⟩,trivial⟩ [(1,[3,7,8,9])] (SH x y)
def VH(x:List Time)(y:Time):TN Bool:=.s (UH x y) (λ_=>.l (.r false)) nE nE nE
def SU:=λx y=>(VH x y).val
def UU:=λx y=>(VH x y).ob
def Cau:=λy x=>fa.mk (SU y x) (UU y x) [] [(0,.S .time y),(1,.agg true [.i x.A,.i x.B])] QU nE nE nE nE
theorem Dau(G:Gd Eu){fr x y}:QH fr (Cau x y):=ia G [([0,1],λe=>⟨UH (gL .time e 0 0) (Uc e 3)⟩)] ⟨λ_=>⟨rfl,Bau G⟩,trivial⟩ [(0,[0,3]),(7,[4])] (VH x y)
def WH(x:List Time)(y:Time):Bool:=ocR (SU x y)
def XH(x:List Time)(y:Time):Prop:=UU x y
def VU:Spec:=⟨[(.lst .time),(.st .time)],.one .fr .bool,false,λx=>(WH x.1 x.2.1,0),λx=>XH x.1 x.2.1⟩
theorem Eau(G:Gd Eu):Con Tryz.prog 52 VU:=va (pts:=[(.lst .time),(.st .time)]) (F:=F52) G λ_ _=>Dau G
def cn:SP:=[(52,VU)]
abbrev F65:Fnn:=⟨[.tmp 4],.one .fr (.lst .row),none,[]⟩
abbrev YH:LR->RV:=rvF F65
abbrev Hu:=@OkF Tryz.prog tt Tryz.f65 F65 LR
def ZH(a:List Time)(z x:LR)(_ y:Int):TA LR LR:=.w [inb y (ba .row x)] (.w [XH a (rd .row x y).At] (.c (!(WH a (rd .row x y).At)) (.w [lim (ba .row z) (ba .row [(rd .row x y)])] (.l (.n (z++[(rd .row x y)]))))
 (.l (.n z))))
def WU:=λx y z a b=>(ZH x y z a b).val
def XU:=λx y z a b=>(ZH x y z a b).ob
def aI:=λx b y z a=>fa.mk (WU x b y z a) (XU x b y z a) [0,1,1,0,0,1,0,1,1] [(1,.S .time x),(5,.A .row b),(9,.S .row y),(10,.I z),(11,.I a)] YH (λq=>[(1,.S .time x),(5,.A .row q),(9,.S .row y),(10,.I z),(11,.I a)]) nE nE nE
theorem Fau(G:Gd cn){fr x y z a b}:Hu fr (aI x y z a b):=ma G [(4,[1,5,7,9,10,11]),(5,[1,5,7,9,10,11,19]),(6,[1,5,9,10,11])] (ZH x y z a b)
def Iu(a:List Time)(b:LR)(y:Int)(z:LR)(x:Int):TX LR (LR×Int) LR:=.c (cmp .lss x y) (.s (aI a z b y x) (λc=>.l (.n (c,(ar .add .i64 x 1)))) nE nE nE)
 (.l (.x z))
def jn:=λx y z a b=>(Iu x y z a b).val
def Ju:=λx y z a b=>(Iu x y z a b).ob
def YU:=λx y z a b=>Ba (jn x y z a b) (Ju x y z a b) [0,0,1,0,1,1] (λq=>[(1,.S .time x),(5,.A .row q.1),(9,.S .row y),(10,.I z),(11,.I q.2)]) (a,b) YH (λq=>(0,[(5,.A .row q)])) nE nE
theorem Gau(G:Gd cn){fr x y z a b}:Hu fr (YU x y z a b):=ia G [([0,1,1,0,0,1,0,1,1],λe=>⟨aI (gL .time e 1 0) (gL .row e 5 0) (gL .row e 9 0) (gI e 10 0) (gI e 11 0)⟩)] ⟨λ_=>⟨rfl,Fau G⟩,trivial⟩ [(3,[1,5,9,10,11,12]),(7,[1,5,9,10,11])] (Iu x y z a b)
def Zad:=λx y z=>lpV (λs:LR×Int=>da (jn x y z s.1 s.2)) ([],0)
def aae:=λx y z=>LpT (λs:LR×Int=>da (jn x y z s.1 s.2)) (λs=>Ju x y z s.1 s.2) ([],0)
def bI:=λx y z=>lpS (YU x y z [] 0) (Zad x y z) (aae x y z)
theorem Hau(G:Gd cn){fr x y z}:Hu fr (bI x y z):=Ca (λs:LR×Int=>YU x y z s.1 s.2) ([],0) λ_=>Gau G
def cI(x:LR)(y:List Time):TA LR LR:=.s (bI y x (ba .row x)) nE (λz=>.l (.n z)) nE nE
def bae:=λx y=>(cI x y).val
def cae:=λx y=>(cI x y).ob
def fI:=λx y=>fa.mk (bae x y) (cae x y) [0,1,1] [(0,.S .row x),(1,.S .time y),(5,.A .row [])] YH (λq=>[(5,.A .row q)]) nE nE nE
theorem Iau(G:Gd cn){fr x y}:Hu fr (fI x y):=ia G [([0,1,0,1,1],λe=>⟨bI (gL .time e 1 0) (gL .row e 9 0) (gI e 10 0)⟩)] ⟨λ_=>⟨rfl,Hau G⟩,trivial⟩ [(2,[1,5,9,10,11])] (cI x y)
def iI(x:LR)(y:List Time):TN LR:=.s (fI x y) (λz=>.l (.r z)) nE nE nE
def ZU:=λx y=>(iI x y).val
def aV:=λx y=>(iI x y).ob
def Jau:=λx y=>fa.mk (ZU x y) (aV x y) [] [(0,.S .row x),(1,.S .time y)] YH nE nE nE nE
theorem Kau(G:Gd cn){fr x y}:Hu fr (Jau x y):=ia G [([0,1,1],λe=>⟨fI (gL .row e 0 0) (gL .time e 1 0)⟩)] ⟨λ_=>⟨rfl,Iau G⟩,trivial⟩ [(0,[0,1]),(1,[0,1,5]),(8,[4])] (iI x y)
def jI(x:LR)(y:List Time):LR:=ocR (ZU x y)
def lI(x:LR)(y:List Time):Prop:=aV x y
def bV:Spec:=⟨[(.lst .row),(.lst .time)],.one .fr (.lst .row),false,λx=>(jI x.1 x.2.1,0),λx=>lI x.1 x.2.1⟩
theorem Lau(G:Gd cn):Con Tryz.prog 65 bV:=va (pts:=[(.lst .row),(.lst .time)]) (F:=F65) G λ_ _=>Kau G
def Ku:SP:=[]
abbrev F67:Fnn:=⟨[.tmp 4],.one .fr .bool,none,[]⟩
abbrev cV:Bool->RV:=rvF F67
abbrev mI:=@OkF Tryz.prog tt Tryz.f67 F67 Bool
def Lu(y z:LR)(a x:Int):TX Bool Int Unit:=.c (cmp .lss x a) (.w [inb x (ba .row y),inb x (ba .row z)] (.c (!(cmp .eql (rd .row y x).Key (rd .row z x).Key&&(cmp .eql (rd .row y x).Val (rd .row z x).Val&&(cmp .eql (rd .row y x).At.A (rd .row z x).At.A&&(cmp .eql (rd .row y x).At.B (rd .row z x).At.B&&(cmp .eql (rd .row y x).Diff (rd .row z x).Diff&&true)))))) (.l (.r false))
 (.l (.n (ar .add .i64 x 1)))))
 (.l (.x ()))
def ln:=λx y z a=>(Lu x y z a).val
def Mu:=λx y z a=>(Lu x y z a).ob
def dV:=λx y z a=>Ba (ln x y z a) (Mu x y z a) [0,0,1,0,1,1] (λq=>[(0,.S .row x),(1,.S .row y),(12,.I z),(13,.I q)]) a cV (λ_=>(0,[])) nE nE
theorem Mau(G:Gd Ku){fr x y z a}:mI fr (dV x y z a):=ma G [(4,[0,1,12,13,14]),(5,[0,1,5,12,13]),(6,[0,1,12,13,24]),(7,[4]),(8,[0,1,12,13])] (Lu x y z a)
def eV:=λx y z=>lpV (λs:Int=>da (ln x y z s)) 0
def dae:=λx y z=>LpT (λs:Int=>da (ln x y z s)) (λs=>Mu x y z s) 0
def Nu:=λx y z=>lpS (dV x y z 0) (eV x y z) (dae x y z)
theorem Nau(G:Gd Ku){fr x y z}:mI fr (Nu x y z):=Ca (λs:Int=>dV x y z s) 0 λ_=>Mau G
def Ou(x y:LR):TA Bool Unit:=.s (Nu x y (ba .row x)) nE (λ_=>.l (.n ())) nE nE
def fV:=λx y=>(Ou x y).val
def gV:=λx y=>(Ou x y).ob
def nn:=λx y=>fa.mk (fV x y) (gV x y) [0,1,1] [(0,.S .row x),(1,.S .row y)] cV (λ_=>[]) nE nE nE
theorem Oau(G:Gd Ku){fr x y}:mI fr (nn x y):=ia G [([0,1,0,1,1],λe=>⟨Nu (gL .row e 0 0) (gL .row e 1 0) (gI e 12 0)⟩)] ⟨λ_=>⟨rfl,Nau G⟩,trivial⟩ [(3,[0,1,12,13])] (Ou x y)
def qn(x y:LR):TN Bool:=.c (cmp .neq (ba .row x) (ba .row y)) (.l (.r false))
 (.s (nn x y) (λ_=>.l (.r true)) nE nE nE)
def Pu:=λx y=>(qn x y).val
def Qu:=λx y=>(qn x y).ob
def Pau:=λx y=>fa.mk (Pu x y) (Qu x y) [] [(0,.S .row x),(1,.S .row y)] cV nE nE nE nE
theorem Qau(G:Gd Ku){fr x y}:mI fr (Pau x y):=ia G [([0,1,1],λe=>⟨nn (gL .row e 0 0) (gL .row e 1 0)⟩)] ⟨λ_=>⟨rfl,Oau G⟩,trivial⟩ [(0,[0,1]),(1,[0,1,10]),(2,[4]),(9,[4])] (qn x y)
def rn(x:LR)(y:LR):Bool:=ocR (Pu x y)
def sn(x:LR)(y:LR):Prop:=Qu x y
def iV:Spec:=⟨[(.lst .row),(.lst .row)],.one .fr .bool,false,λx=>(rn x.1 x.2.1,0),λx=>sn x.1 x.2.1⟩
theorem Rau(G:Gd Ku):Con Tryz.prog 67 iV:=va (pts:=[(.lst .row),(.lst .row)]) (F:=F67) G λ_ _=>Qau G
def eae:SP:=[(54,mS),(29,PU),(65,bV),(67,iV)]
abbrev F27:Fnn:=⟨[.tmp 2],.one .fr .bool,none,[]⟩
abbrev Sau:Bool->RV:=rvF F27
abbrev Tau:=@OkF Tryz.prog tt Tryz.f27 F27 Bool
def nI(x:Sess):TN Bool:=.w [BE x.Front] (.c (!(zE x.Front)) (.l (.r false))
 (.k (MH (Plan.mk x.Plan.Kind x.Plan.Num x.Plan.Kids) x.Ins) λy=>.w [PH (Plan.mk x.Plan.Kind x.Plan.Num x.Plan.Kids) x.Ins] (.k (jI y.1 x.Front) λz=>.w [(y.2.1&&true)=true->(lI y.1 x.Front),(y.2.1&&true)=true->(sn x.Told z)] (.l (.r (cond y.2.1 (rn x.Told z) false))))))
def jV:=λx=>(nI x).val
def kV:=λx=>(nI x).ob
def Uau:=λx=>fa.mk (jV x) (kV x) [] [(0,.agg false [.i x.Plan.Kind,.i x.Plan.Num,.lst .plan x.Plan.Kids,.lst .lrow x.Ins,.lst .time x.Front,.lst .row x.Told])] Sau nE nE nE nE
theorem Vau(G:Gd eae){fr x}:Tau fr (Uau x):=ma G [(0,[1]),(1,[1,8]),(2,[2]),(3,[1,3,4]),(4,[2])] (nI x)
def oI(x:Sess):Bool:=ocR (jV x)
def pI(x:Sess):Prop:=kV x
def fae:Spec:=⟨[(.st .sess)],.one .fr .bool,false,λx=>(oI x.1,0),λx=>pI x.1⟩
theorem Wau(G:Gd eae):Con Tryz.prog 27 fae:=va (pts:=[(.st .sess)]) (F:=F27) G λ_ _=>Vau G
abbrev uf:=Plan->Plan
abbrev vf:=Plan->Prop
def qI(v:uf)(p:vf):Spec:=⟨[(.st .plan)],.one .fr (.st .plan),false,λx=>(v x.1,0),λx=>p x.1⟩
def Ru(r103V:uf)(r103P:vf):SP:=[(103,qI r103V r103P)]
abbrev lV:Fnn:=⟨[.cell 2 25],.one .fr (.st .plan),none,[]⟩
abbrev mV:Plan->RV:=rvF lV
abbrev rI:=@OkF Tryz.prog tt Tryz.f103 lV Plan
def Su(r103V:uf)(r103P:vf)(_ _:Int)(y:LP)(b:Int)(a:LP)(x:Int):TX Plan (LP×Int) LP:=.c (cmp .lss x b) (.w [inb x (ba .plan y)] (.k (r103V (Plan.mk (rd .plan y x).Kind (rd .plan y x).Num (rd .plan y x).Kids)) λz=>.w [r103P (Plan.mk (rd .plan y x).Kind (rd .plan y x).Num (rd .plan y x).Kids),lim (ba .plan a) (ba .plan [(Plan.mk z.Kind z.Num z.Kids)])] (.l (.n ((a++[(Plan.mk z.Kind z.Num z.Kids)]),(ar .add .i64 x 1))))))
 (.l (.x a))
def tn:=λr103V r103P x y z a b c=>(Su r103V r103P x y z a b c).val
def Tu:=λr103V r103P x y z a b c=>(Su r103V r103P x y z a b c).ob
def nV:=λr103V r103P x y z a b c=>Ba (tn r103V r103P x y z a b c) (Tu r103V r103P x y z a b c) [0,0,1,0,1,1] (λq=>[(2,.box [(.fr,.i 0),(.fr,.i 0),(.fr,.nl .plan)]),(3,.box [(.fr,.i x),(.fr,.i y),((.acc true),.lst .plan q.1)]),(12,.S .plan z),(13,.I a),(14,.I q.2)]) (b,c) mV (λq=>(0,[(2,.box [(.fr,.i 0),(.fr,.i 0),(.fr,.nl .plan)]),(3,.box [(.fr,.i x),(.fr,.i y),((.acc true),.lst .plan q)])])) nE nE
theorem Xau{r103V:uf}{r103P:vf}(G:Gd (Ru r103V r103P)){fr x y z a b c}:rI fr (nV r103V r103P x y z a b c):=ma G [(3,[2,3,12,13,14,15]),(4,[2,3,5,12,13,14]),(5,[2,3,12,13,14]),(6,[2,3,12,13,14])] (Su r103V r103P x y z a b c)
def gae:=λr103V r103P x y z a=>lpV (λs:LP×Int=>da (tn r103V r103P x y z a s.1 s.2)) ([],0)
def iae:=λr103V r103P x y z a=>LpT (λs:LP×Int=>da (tn r103V r103P x y z a s.1 s.2)) (λs=>Tu r103V r103P x y z a s.1 s.2) ([],0)
def sI:=λr103V r103P x y z a=>lpS (nV r103V r103P x y z a [] 0) (gae r103V r103P x y z a) (iae r103V r103P x y z a)
theorem Yau{r103V:uf}{r103P:vf}(G:Gd (Ru r103V r103P)){fr x y z a}:rI fr (sI r103V r103P x y z a):=Ca (λs:LP×Int=>nV r103V r103P x y z a s.1 s.2) ([],0) λ_=>Xau G
def tI(r103V:uf)(r103P:vf)(y z:Int)(x:LP):TA Plan LP:=.s (sI r103V r103P y z x (ba .plan x)) nE (λa=>.l (.n a)) nE nE
def jae:=λr103V r103P x y z=>(tI r103V r103P x y z).val
def kae:=λr103V r103P x y z=>(tI r103V r103P x y z).ob
def uI:=λr103V r103P x y z=>fa.mk (jae r103V r103P x y z) (kae r103V r103P x y z) [0,1,1] [(1,.box [(.fr,.i x),(.fr,.i y),(.sh,.lst .plan z)]),(2,.box [(.fr,.i 0),(.fr,.i 0),(.fr,.nl .plan)]),(3,.box [(.fr,.i x),(.fr,.i y),(.fr,.nl .plan)])] mV (λq=>[(2,.box [(.fr,.i 0),(.fr,.i 0),(.fr,.nl .plan)]),(3,.box [(.fr,.i x),(.fr,.i y),((.acc true),.lst .plan q)])]) nE nE nE
theorem Zau{r103V:uf}{r103P:vf}(G:Gd (Ru r103V r103P)){fr x y z}:rI fr (uI r103V r103P x y z):=ia G [([0,1,0,1,1],λe=>⟨sI r103V r103P (gI e 3 0) (gI e 3 1) (gL .plan e 12 0) (gI e 13 0)⟩)] ⟨λ_=>⟨rfl,Yau G⟩,trivial⟩ [(2,[2,3,12,13,14])] (tI r103V r103P x y z)
def vI(r103V:uf)(r103P:vf)(x:Plan):TN Plan:=.s (uI r103V r103P x.Kind x.Num x.Kids) (λy=>.l (.r (Plan.mk x.Kind x.Num y))) nE nE nE
def wI:=λr103V r103P x=>(vI r103V r103P x).val
def xI:=λr103V r103P x=>(vI r103V r103P x).ob
def aav:=λr103V r103P x=>fa.mk (wI r103V r103P x) (xI r103V r103P x) [] [(0,.agg false [.i x.Kind,.i x.Num,.lst .plan x.Kids])] mV nE nE nE nE
theorem bav{r103V:uf}{r103P:vf}(G:Gd (Ru r103V r103P)){fr x}:rI fr (aav r103V r103P x):=ia G [([0,1,1],λe=>⟨uI r103V r103P (gI e 1 0) (gI e 1 1) (gL .plan e 1 2)⟩)] ⟨λ_=>⟨rfl,Zau G⟩,trivial⟩ [(0,[1,2]),(1,[1,2,3]),(7,[2])] (vI r103V r103P x)
theorem cav{r103V:uf}{r103P:vf}(G:Gd (Ru r103V r103P)):Con Tryz.prog 103 (qI (λx=>ocR (wI r103V r103P x)) (λx=>xI r103V r103P x)):=va (pts:=[(.st .plan)]) (F:=lV) G λ_ _=>bav G
def od:Nat->uf×vf
 |0=>(λ_=>default,λ_=>False)
 |n+1=>(λx=>ocR (wI (od n).1 (od n).2 x),λx=>xI (od n).1 (od n).2 x)
def oV:uf:=(od Pb).1
def pV:vf:=(od Pb).2
def lae:Spec:=qI oV pV
def mae:SP:=[]
abbrev F64:Fnn:=⟨[.tmp 2],.one (.acc false) (.lst .time),none,[2]⟩
abbrev dav:List Time->RV:=rvF F64
abbrev eav:=@OkF Tryz.prog tt Tryz.f64 F64 (List Time)
def yI(x:List Time):TN (List Time):=.w [zn (ba .time x) (ba .time x)] (.l (.r (List.take (List.length (List.replicate (Int.toNat (ba .time x)) (Time.mk 0 0))) x++List.drop (List.length x) (List.replicate (Int.toNat (ba .time x)) (Time.mk 0 0)))))
def qV:=λx=>(yI x).val
def rV:=λx=>(yI x).ob
def fav:=λx=>fa.mk (qV x) (rV x) [] [(0,.S .time x)] dav nE nE nE nE
theorem gav(G:Gd mae){fr x}:eav fr (fav x):=ma G [(0,[0]),(1,[0,3]),(2,[3]),(3,[2])] (yI x)
def zI(x:List Time):List Time:=ocR (qV x)
def AI(x:List Time):Prop:=rV x
def sV:Spec:=⟨[(.lst .time)],.one (.acc false) (.lst .time),false,λx=>(zI x.1,0),λx=>AI x.1⟩
theorem iav(G:Gd mae):Con Tryz.prog 64 sV:=va (pts:=[(.lst .time)]) (F:=F64) G λ_ _=>gav G
def Uu:SP:=[(103,lae),(64,sV),(104,oF)]
abbrev F63:Fnn:=⟨[.cell 2 30],.one .sh (.st .sess),none,[]⟩
abbrev tV:Sess->RV:=rvF F63
abbrev BI:=@OkF Tryz.prog tt Tryz.f63 F63 Sess
def Vu(_ _:Int)(_:LP)(_:List Time)(_:LR)(y:List LR)(b:Int)(z:List LR)(x:Int):TX Sess ((List LR)×Int) ((List LR)):=.c (cmp .lss x b) (.w [inb x (ba .lrow y)] (.k (Am (rd .lrow y x)) λa=>.w [Bm (rd .lrow y x),lim (ba .lrow z) (ba .lrow [a])] (.l (.n ((z++[a]),(ar .add .i64 x 1))))))
 (.l (.x z))
def un:=λx y z a b c d f g=>(Vu x y z a b c d f g).val
def Wu:=λx y z a b c d f g=>(Vu x y z a b c d f g).ob
def uV:=λx y z a b c d f g=>Ba (un x y z a b c d f g) (Wu x y z a b c d f g) [0,0,1,0,1,1] (λq=>[(2,.box [(.fr,.i 0),(.fr,.i 0),(.fr,.nl .plan),(.fr,.nl .lrow),(.fr,.nl .time),(.fr,.nl .row)]),(3,.box [(.fr,.i x),(.fr,.i y),(.sh,.lst .plan z),((.acc false),.lst .lrow q.1),(.sh,.lst .time a),(.sh,.lst .row b)]),(17,.S .lrow c),(18,.I d),(19,.I q.2)]) (f,g) tV (λq=>(0,[(2,.box [(.fr,.i 0),(.fr,.i 0),(.fr,.nl .plan),(.fr,.nl .lrow),(.fr,.nl .time),(.fr,.nl .row)]),(3,.box [(.fr,.i x),(.fr,.i y),(.sh,.lst .plan z),((.acc false),.lst .lrow q),(.sh,.lst .time a),(.sh,.lst .row b)])])) nE nE
theorem jav(G:Gd Uu){fr x y z a b c d f g}:BI fr (uV x y z a b c d f g):=ma G [(3,[2,3,17,18,19,20]),(4,[2,3,5,17,18,19]),(5,[2,3,17,18,19]),(6,[2,3,17,18,19])] (Vu x y z a b c d f g)
def nae:=λx y z a b c d=>lpV (λs:(List LR)×Int=>da (un x y z a b c d s.1 s.2)) ([],0)
def oae:=λx y z a b c d=>LpT (λs:(List LR)×Int=>da (un x y z a b c d s.1 s.2)) (λs=>Wu x y z a b c d s.1 s.2) ([],0)
def DI:=λx y z a b c d=>lpS (uV x y z a b c d [] 0) (nae x y z a b c d) (oae x y z a b c d)
theorem kav(G:Gd Uu){fr x y z a b c d}:BI fr (DI x y z a b c d):=Ca (λs:(List LR)×Int=>uV x y z a b c d s.1 s.2) ([],0) λ_=>jav G
def FI(_ _:Int)(_:LP)(x:List LR)(_:List Time)(_:LR)(y z:Int)(a:LP)(b:List Time)(c:LR):TA Sess ((List LR)):=.s (DI y z a b c x (ba .lrow x)) nE (λd=>.l (.n d)) nE nE
def pae:=λx y z a b c d f g h i=>(FI x y z a b c d f g h i).val
def qae:=λx y z a b c d f g h i=>(FI x y z a b c d f g h i).ob
def GI:=λc d f g h i x y z a b=>fa.mk (pae c d f g h i x y z a b) (qae c d f g h i x y z a b) [0,1,1] [(1,.box [(.fr,.i c),(.fr,.i d),(.sh,.lst .plan f),(.sh,.lst .lrow g),(.sh,.lst .time h),(.sh,.lst .row i)]),(2,.box [(.fr,.i 0),(.fr,.i 0),(.fr,.nl .plan),(.fr,.nl .lrow),(.fr,.nl .time),(.fr,.nl .row)]),(3,.box [(.fr,.i x),(.fr,.i y),(.sh,.lst .plan z),(.sh,.nl .lrow),(.sh,.lst .time a),(.sh,.lst .row b)])] tV (λq=>[(2,.box [(.fr,.i 0),(.fr,.i 0),(.fr,.nl .plan),(.fr,.nl .lrow),(.fr,.nl .time),(.fr,.nl .row)]),(3,.box [(.fr,.i x),(.fr,.i y),(.sh,.lst .plan z),((.acc false),.lst .lrow q),(.sh,.lst .time a),(.sh,.lst .row b)])]) nE nE nE
theorem lav(G:Gd Uu){fr x y z a b c d f g h i}:BI fr (GI x y z a b c d f g h i):=ia G [([0,1,0,1,1],λe=>⟨DI (gI e 3 0) (gI e 3 1) (gL .plan e 3 2) (gL .time e 3 4) (gL .row e 3 5) (gL .lrow e 17 0) (gI e 18 0)⟩)] ⟨λ_=>⟨rfl,kav G⟩,trivial⟩ [(2,[2,3,17,18,19])] (FI x y z a b c d f g h i)
def II(x:Sess):TN Sess:=.k (oV (Plan.mk x.Plan.Kind x.Plan.Num x.Plan.Kids)) λy=>.k (zI x.Front) λz=>.k (Am x.Told) λa=>.w [pV (Plan.mk x.Plan.Kind x.Plan.Num x.Plan.Kids),AI x.Front,Bm x.Told] (.s (GI x.Plan.Kind x.Plan.Num x.Plan.Kids x.Ins x.Front x.Told y.Kind y.Num y.Kids z a) (λb=>.l (.r (Sess.mk (Plan.mk y.Kind y.Num y.Kids) b z a))) nE nE nE)
def vV:=λx=>(II x).val
def wV:=λx=>(II x).ob
def mav:=λx=>fa.mk (vV x) (wV x) [] [(0,.agg false [.i x.Plan.Kind,.i x.Plan.Num,.lst .plan x.Plan.Kids,.lst .lrow x.Ins,.lst .time x.Front,.lst .row x.Told])] tV nE nE nE nE
theorem oav(G:Gd Uu){fr x}:BI fr (mav x):=ia G [([0,1,1],λe=>⟨GI (gI e 1 0) (gI e 1 1) (gL .plan e 1 2) (gL .lrow e 1 3) (gL .time e 1 4) (gL .row e 1 5) (gI e 3 0) (gI e 3 1) (gL .plan e 3 2) (gL .time e 3 4) (gL .row e 3 5)⟩)] ⟨λ_=>⟨rfl,lav G⟩,trivial⟩ [(0,[1,2]),(1,[1,2,3]),(7,[2])] (II x)
def xV(x:Sess):Sess:=ocR (vV x)
def yV(x:Sess):Prop:=wV x
def rae:Spec:=⟨[(.st .sess)],.one .sh (.st .sess),false,λx=>(xV x.1,0),λx=>yV x.1⟩
theorem pav(G:Gd Uu):Con Tryz.prog 63 rae:=va (pts:=[(.st .sess)]) (F:=F63) G λ_ _=>oav G
def Xu:SP:=[]
abbrev F24:Fnn:=⟨[.tmp 4],.one .fr .bool,none,[]⟩
abbrev zV:Bool->RV:=rvF F24
abbrev JI:=@OkF Tryz.prog tt Tryz.f24 F24 Bool
def Aj(y z:LR)(x:Int):TX Bool Int Unit:=.c (cmp .lss x (ba .row y)) (.w [inb x (ba .row y),inb x (ba .row z)] (.c (!(cmp .eql (rd .row y x).Key (rd .row z x).Key&&(cmp .eql (rd .row y x).Val (rd .row z x).Val&&(cmp .eql (rd .row y x).At.A (rd .row z x).At.A&&(cmp .eql (rd .row y x).At.B (rd .row z x).At.B&&(cmp .eql (rd .row y x).Diff (rd .row z x).Diff&&true)))))) (.l (.r false))
 (.l (.n (ar .add .i64 x 1)))))
 (.l (.x ()))
def fh:=λx y z=>(Aj x y z).val
def ci:=λx y z=>(Aj x y z).ob
def BV:=λx y z=>Ba (fh x y z) (ci x y z) [0,0,1,0,1,1] (λq=>[(0,.S .row x),(1,.S .row y),(5,.I q)]) z zV (λ_=>(0,[])) nE nE
theorem qav(G:Gd Xu){fr x y z}:JI fr (BV x y z):=ma G [(4,[0,1,5,14]),(5,[0,1,5]),(6,[0,1,5,25]),(7,[4])] (Aj x y z)
def sae:=λx y=>lpV (λs:Int=>da (fh x y s)) 0
def tae:=λx y=>LpT (λs:Int=>da (fh x y s)) (λs=>ci x y s) 0
def Yu:=λx y=>lpS (BV x y 0) (sae x y) (tae x y)
theorem rav(G:Gd Xu){fr x y}:JI fr (Yu x y):=Ca (λs:Int=>BV x y s) 0 λ_=>qav G
def Zu(x y:LR):TA Bool Unit:=.s (Yu x y) nE (λ_=>.l (.n ())) nE nE
def uae:=λx y=>(Zu x y).val
def vae:=λx y=>(Zu x y).ob
def bv:=λx y=>fa.mk (uae x y) (vae x y) [0,1,1] [(0,.S .row x),(1,.S .row y)] zV (λ_=>[]) nE nE nE
theorem sav(G:Gd Xu){fr x y}:JI fr (bv x y):=ia G [([0,1,0,1,1],λe=>⟨Yu (gL .row e 0 0) (gL .row e 1 0)⟩)] ⟨λ_=>⟨rfl,rav G⟩,trivial⟩ [(3,[0,1,5])] (Zu x y)
def cv(x y:LR):TN Bool:=.c (cmp .neq (ba .row x) (ba .row y)) (.l (.r false))
 (.s (bv x y) (λ_=>.l (.r true)) nE nE nE)
def CV:=λx y=>(cv x y).val
def DV:=λx y=>(cv x y).ob
def tav:=λx y=>fa.mk (CV x y) (DV x y) [] [(0,.S .row x),(1,.S .row y)] zV nE nE nE nE
theorem uav(G:Gd Xu){fr x y}:JI fr (tav x y):=ia G [([0,1,1],λe=>⟨bv (gL .row e 0 0) (gL .row e 1 0)⟩)] ⟨λ_=>⟨rfl,sav G⟩,trivial⟩ [(0,[0,1]),(1,[0,1,10]),(2,[4]),(8,[4])] (cv x y)
def MI(x:LR)(y:LR):Bool:=ocR (CV x y)
def PI(x:LR)(y:LR):Prop:=DV x y
def wae:Spec:=⟨[(.lst .row),(.lst .row)],.one .fr .bool,false,λx=>(MI x.1 x.2.1,0),λx=>PI x.1 x.2.1⟩
theorem vav(G:Gd Xu):Con Tryz.prog 24 wae:=va (pts:=[(.lst .row),(.lst .row)]) (F:=F24) G λ_ _=>uav G
end
end Go.Proofs.YtiiidenbemkihaaGreat

namespace Go.Proofs.YtiiidenbemkihaaGreat
namespace Ds
open Go
set_option maxRecDepth 100000
section
variable {P:Program}{tt:TT}{N:NP}{fr:Fr}{Cd:Code}{F:Fnn}{R A X Y Z:Type}
theorem go{S:fa R A X Y Z}(h:Fd P tt N fr Cd F S)(hob:S.ob){q:A}(ho:S.o=.n q){c:Code}(hc:c=Ha Cd S.path){a:Act}{w:World}(hs:Sim N fr.B fr.IoB fr.W0 fr.F0 S.env a w){Q:Exit->Act->World->Prop}
  (hQ:∀a w,Sim N fr.B fr.IoB fr.W0 fr.F0 (S.pn q) a w->Q .normal a w):c.wp P Q a w:=by
 subst hc;refine wp_mono (h hob a w hs) ?_;rintro ex a w ⟨e',hs',hp⟩;cases ex with
 |normal=>
  obtain⟨q',hq,hw⟩:=hp;rw[ho]at hq;cases hq;exact hQ _ _ (hw _ _ _ _ _ _ _ hs')
 |ret=>
  obtain⟨q',hq,_⟩:=hp;rw[ho]at hq;cases hq
 |exit i=>
  rcases hp with⟨q',hq,_⟩|⟨q',hq,_⟩|⟨q',hq,_⟩<;>(rw[ho]at hq;cases hq)
 |_=>exact hp.elim
end
theorem Eaf{σ ρ:Type}[Inhabited ρ]{step:σ->Lp σ ρ}{ob:σ->Prop}{G:ρ->Prop}{s:σ}(h:LpT step ob s)(hG:∀s r,step s=.out r->G r):G (lpV step s):=by
 induction h with
 |mk s _ _ ih=>
  cases hs:step s with
  |go s'=>rw[nX hs];exact ih s' hs
  |out r=>rw[mX hs];exact hG s r hs
noncomputable def CS:Code:=Od Tryz.f58
theorem conS(G:Gd Uh):Aw Tryz.prog 58 jd Sf:=by
 refine⟨⟨Tryz.f58,by kernel_rfl,by kernel_rfl,by kernel_rfl⟩,λy hy W0 F0 us hl hus=>?_⟩;have hargs:ze F0 W0 [.st .sess] (y,()) [.agg us.toArray] none:=⟨_,[],rfl,⟨us,rfl,hus⟩,rfl,rfl⟩;refine calls_of_wp (fn:=Tryz.f58) (c:=CS) (by kernel_rfl) (by kernel_rfl) ?_;have hs:=sX (nt:=(Tryz.f58).ntmps) [] hl hargs (Nat.le_of_ble_eq_true (by kernel_rfl));obtain⟨h1,h2,_⟩:=(show(cm y).ob from hy);obtain⟨h3,_⟩:=h2 _ rfl
 obtain⟨l,hl2⟩ : ∃l,aD y.Plan.Kind y.Plan.Num y.Plan.Kids y.Ins y.Front y.Told (pe (Plan.mk y.Plan.Kind y.Plan.Num y.Plan.Kids)).Kind (pe (Plan.mk y.Plan.Kind y.Plan.Num y.Plan.Kids)).Num (pe (Plan.mk y.Plan.Kind y.Plan.Num y.Plan.Kids)).Kids ([]++y.Front) ([]++y.Told)=.n l:=by
  obtain⟨h4,_⟩:=h3
  have h5:=Eaf (G:=λr=>∃l,r=Oc.x l) h4 (λs r hr=>by
   obtain⟨s1,s2⟩:=s
   revert hr
   simp only[tj,bm,qs,aR,ns,Tr.val];cases cmp .lss s2 (ba .lrow y.Ins) with
   |true=>intro hr;cases hr
   |false=>intro hr;cases hr;exact⟨_,rfl⟩)
  obtain⟨l,h5⟩:=h5;refine⟨l,?_⟩;have h6:eR y.Plan.Kind y.Plan.Num y.Plan.Kids y.Ins y.Front y.Told (pe (Plan.mk y.Plan.Kind y.Plan.Num y.Plan.Kids)).Kind (pe (Plan.mk y.Plan.Kind y.Plan.Num y.Plan.Kids)).Num (pe (Plan.mk y.Plan.Kind y.Plan.Num y.Plan.Kids)).Kids ([]++y.Front) ([]++y.Told)=.x l:=h5;simp only[aD,Cs,As,lpS,Tr.val,h6]
 have hv:jd y=⟨⟨(pe (Plan.mk y.Plan.Kind y.Plan.Num y.Plan.Kids)).Kind,(pe (Plan.mk y.Plan.Kind y.Plan.Num y.Plan.Kids)).Num,(pe (Plan.mk y.Plan.Kind y.Plan.Num y.Plan.Kids)).Kids⟩,l,[]++y.Front,[]++y.Told⟩:=by
  simp only[jd,bD,cm,js,ZQ,es,Es,Tr.val,hl2,ocR]
 have hms:=MS.of hs rfl;refine ra (c1:=nav CS [0]) (c2:=nav CS [1]) (by kernel_rfl) ?_;refine MS.regC G (keep:=[1,2]) (e':=[(1,boxS y),(2,zo)]) (ps:=[]) (by kernel_rfl) trivial hms (λa w hs=>?_);show(nav CS [1]).wp _ _ a w;refine ra (c1:=nav CS [1,0]) (c2:=nav CS [1,1]) (by kernel_rfl) ?_;refine go (fr:=⟨W0.heap.size,[],W0,F0⟩) (Haa G) h1 rfl (by kernel_rfl) hs.to (λa w hs=>?_);show(nav CS [1,1]).wp _ _ a w;refine ra (c1:=nav CS [1,1,0]) (c2:=nav CS [1,1,1]) (by kernel_rfl) ?_;refine go (fr:=⟨W0.heap.size,[],W0,F0⟩) (Laa G) h3 hl2 (by kernel_rfl) hs (λa w hs=>?_);show(nav CS [1,1,1]).wp _ _ a w
 refine Bah G.htt (t:=30) (d:=(lk tt 30).get (by kernel_rfl)) (X:=3) (R:=2) (d0:=36) (fn:=Tryz.f58) (c:=nav CS [1,1,1]) (c1:=nav CS [1,1,1,0]) (c2:=nav CS [1,1,1,1]) (o0:=opN (opsOf (nav CS [1,1,1,0])) 0) (o1:=opN (opsOf (nav CS [1,1,1,0])) 1)
  (by kernel_rfl) (by kernel_rfl) (by kernel_rfl) (by kernel_rfl) (by decide) (by decide) (by decide) (by kernel_rfl) (by kernel_rfl) (by kernel_rfl) (by kernel_rfl) (by kernel_rfl) (by kernel_rfl) (by kernel_rfl) (by kernel_rfl) (by kernel_rfl) (by kernel_rfl) (by kernel_rfl) (by kernel_rfl)
  (y:=jd y) (by rw[hv];exact hs) (by rw[hs.tmps.size];exact Nat.lt_of_succ_le (Nat.le_of_ble_eq_true (by kernel_rfl))) (λa w hd ⟨vs,F',ob,r1,r2,r3,r4,r5⟩=>⟨hd,_,r1,vs,F',ob,rfl,r2,r3,r4,r5⟩)
end Ds
end Go.Proofs.YtiiidenbemkihaaGreat

namespace Go.Proofs.YtiiidenbemkihaaGreat
open Go
theorem Bb(a b:Int):cmp .eql a b=decide (a=b):=by
 show(a == b)=_;by_cases h:a=b<;>simp[h]
theorem Rd(a b:Int):cmp .neq a b=!decide (a=b):=by
 show(a != b)=_;by_cases h:a=b<;>simp[h]
theorem bc(a b:Int):cmp .lss a b=decide (a<b):=rfl
theorem Ee(a b:Int):cmp .leq a b=decide (a<=b):=rfl
theorem xc(a b:Int):cmp .gtr a b=decide (b<a):=rfl
theorem Ng(a b:Int):cmp .geq a b=decide (b<=a):=rfl
theorem cc{a b:Int}(h : -9223372036854775808<=a+b/\a+b<=9223372036854775807):ar .add .i64 a b=a+b:=IntWalk.i64_in _ h
theorem bf{a b:Int}(h : -9223372036854775808<=a - b/\a - b<=9223372036854775807):ar .sub .i64 a b=a - b:=IntWalk.i64_in _ h
theorem Og{a b:Int}(h : -9223372036854775808<=a*b/\a*b<=9223372036854775807):ar .mul .i64 a b=a*b:=IntWalk.i64_in _ h
theorem Cw(a b:Int):ar .rem .i64 a b=a.tmod b:=rfl
theorem GL{a b:Int}(h:0<=a/\a<=9223372036854775807/\1<=b):ar .quo .i64 a b=a / b:=IntWalk.i64_quo a b h
theorem Iah(a b:Int):ar .add .i64 a b=ar .add .i64 b a:=by show IntKind.wrap _ _=IntKind.wrap _ _;rw[Int.add_comm]
theorem PY{t:Ty}{l r:List t.T}{x:t.T}:ba t (l++x::r)=(l.length:Int)+(r.length+1):=by
 unfold ba;simp
theorem Ri{t:Ty}{l r:List t.T}{x:t.T}:rd t (l++x::r) (l.length:Int)=x:=by
 unfold rd;rw[Int.toNat_natCast,List.getD_eq_getElem?_getD];simp
theorem Si{t:Ty}{l r:List t.T}{x:t.T}:inb (l.length:Int) (ba t (l++x::r)):=by
 rw[PY];unfold inb;omega
theorem IL{t:Ty}{l r:List t.T}{x:t.T}:cmp .lss (l.length:Int) (ba t (l++x::r))=true:=by
 rw[PY,bc];simp;omega
theorem Ma{t:Ty}{l:List t.T}:cmp .lss (l.length:Int) (ba t l)=false:=by
 rw[bc];simp[ba]
theorem Oa{t:Ty}{xs l r:List t.T}{x:t.T}(h:xs=l++x::r):xs.length=l.length+(r.length+1)/\rd t xs (l.length:Int)=x/\inb (l.length:Int) (ba t xs)/\cmp .lss (l.length:Int) (ba t xs)=true:=by
 subst h;exact⟨by simp,Ri,Si,IL⟩
theorem Ab{t:Ty}{o:List t.T}{y:t.T}(h:o.length<1099511627776):lim (ba t o) (ba t [y]):=by
 simp only[lim,ba,List.length_singleton];omega
theorem ML{t:Ty}{o u:List t.T}(h:o.length+u.length<1099511627776):lim (ba t o) (ba t u):=by
 simp only[lim,ba];omega
theorem Ia{α:Type}{l:List α}(h:l.length<1099511627776):ar .add .i64 (l.length:Int) 1=((l.length+1:Nat):Int):=by
 rw[cc (by omega)];omega
structure ja{σ ρ:Type}[Inhabited ρ](step:σ->Lp σ ρ)(ob:σ->Prop)(s:σ)(r:ρ):Prop where
 t:LpT step ob s
 v:lpV step s=r
theorem ja.out{σ ρ:Type}[Inhabited ρ]{step:σ->Lp σ ρ}{ob:σ->Prop}{s:σ}{r:ρ}(ho:ob s)(h:step s=.out r):ja step ob s r:=⟨.mk s ho (λs' hs=>by rw[h]at hs;cases hs),mX h⟩
theorem ja.go{σ ρ:Type}[Inhabited ρ]{step:σ->Lp σ ρ}{ob:σ->Prop}{s s':σ}{r:ρ}(ho:ob s)(h:step s=.go s')(hr:ja step ob s' r):ja step ob s r:=⟨.mk s ho (λs2 hs=>by rw[h]at hs;cases hs;exact hr.t),(nX h).trans hr.v⟩
theorem ja.list{σ ρ α β:Type}[Inhabited ρ]{step:σ->Lp σ ρ}{ob:σ->Prop}(xs:List α)(st:Nat->β->σ)(I:List α->β->Prop){Q:ρ->Prop}{s0:σ}{b0:β}(hs:st 0 b0=s0)(h0:I [] b0)
  (hgo:∀l x r b,xs=l++x::r->I l b->ob (st l.length b)/\((∃b',step (st l.length b)=.go (st (l.length+1) b')/\I (l++[x]) b')\/∃q,step (st l.length b)=.out q/\Q q))
  (hout:∀b,I xs b->ob (st xs.length b)/\∃q,step (st xs.length b)=.out q/\Q q):∃q,ja step ob s0 q/\Q q:=by
 subst hs
 suffices ∀(r l:List α) (b:β),xs=l++r->I l b->∃q,ja step ob (st l.length b) q/\Q q from this xs [] b0 rfl h0
 intro r
 induction r with
 |nil=>
  intro l b hx hI;rw[List.append_nil]at hx;subst hx;obtain⟨ho,q,h1,h2⟩:=hout b hI;exact⟨q,.out ho h1,h2⟩
 |cons x r ih=>
  intro l b hx hI;obtain⟨ho,⟨b',h1,h2⟩|⟨q,h1,h2⟩⟩:=hgo l x r b hx hI
  .obtain⟨q,hq,hQ⟩:=ih (l++[x]) b' (by rw[hx,List.append_assoc];rfl) h2;rw[List.length_append,List.length_singleton]at hq;exact⟨q,.go ho h1 hq,hQ⟩
  .exact⟨q,.out ho h1,h2⟩
theorem ja.fold{σ ρ α β:Type}[Inhabited ρ]{step:σ->Lp σ ρ}{ob:σ->Prop}(xs:List α)(st:Nat->β->σ)(f:List α->β){fin:ρ}{s0:σ}(hs:st 0 (f [])=s0)
  (hgo:∀l x r,xs=l++x::r->ob (st l.length (f l))/\step (st l.length (f l))=.go (st (l.length+1) (f (l++[x]))))
  (hout:ob (st xs.length (f xs))/\step (st xs.length (f xs))=.out fin):ja step ob s0 fin:=by
 subst hs
 obtain⟨q,h1,h2⟩:=ja.list (step:=step) (ob:=ob) (Q:=λq=>q=fin) xs st (λl b=>b=f l) (b0:=f []) rfl rfl
  (λl x r b hx hb=>by subst hb;exact⟨(hgo l x r hx).1,.inl ⟨_,(hgo l x r hx).2,rfl⟩⟩)
  (λb hb=>by subst hb;exact⟨hout.1,_,hout.2,rfl⟩)
 rw[h2]at h1;exact h1
theorem NL{α:Type}{lt:α->α->Prop}(irr:∀a,¬ lt a a)(tr:∀ {a b c},lt a b->lt b c->lt a c):∀ {a b:List α},a.Pairwise lt->b.Pairwise lt->(∀x,x∈a↔x∈b)->a=b
 |[],[],_,_,_=>rfl
 |[],y::b,_,_,h=>absurd ((h y).2 (by simp)) (by simp)
 |x::a,[],_,_,h=>absurd ((h x).1 (by simp)) (by simp)
 |x::a,y::b,ha,hb,h=>by
  have ha':=List.pairwise_cons.1 ha;have hb':=List.pairwise_cons.1 hb
  have hxy:x=y:=by
   rcases List.mem_cons.1 ((h x).1 (by simp)) with e|e
   .exact e
   .rcases List.mem_cons.1 ((h y).2 (by simp)) with e2|e2
    .exact e2.symm
    .exact absurd (tr (hb'.1 x e) (ha'.1 y e2)) (irr _)
  subst hxy;refine congrArg (x::·) (NL irr tr ha'.2 hb'.2 λz=>⟨λhz=>?_,λhz=>?_⟩)
  .rcases List.mem_cons.1 ((h z).1 (by simp[hz])) with e|e
   .subst e;exact absurd (ha'.1 z hz) (irr _)
   .exact e
  .rcases List.mem_cons.1 ((h z).2 (by simp[hz])) with e|e
   .subst e;exact absurd (hb'.1 z hz) (irr _)
   .exact e
theorem Dw{a b:MP}(ha:Asc a)(hb:Asc b)(h:∀p,p∈a↔p∈b):a=b:=NL (lt:=λp q:List Int×Int=>ltK p.1 q.1=true) (λp hp=>by rw[Ff]at hp;cases hp) (λh1 h2=>Ig h1 h2) ha hb h
def nc(q:List Int×Int):MP->MP
 |[]=>[q]
 |p::m=>if ltK q.1 p.1=true then q::p::m else if p.1=q.1 then(q.1,ar .add .i64 q.2 p.2)::m else p::nc q m
def Jf(l:List (List Int×Int)):MP:=l.foldl (λm q=>nc q m) []
theorem PL(q:List Int×Int):∀(m:MP) (k:List Int),k∈ua (nc q m)↔k=q.1\/k∈ua m
 |[],k=>by simp[nc,ua]
 |p::m,k=>by
  simp only[nc];split
  .simp[ua]
  .split
   .rename_i h;simp[ua,h]
   .have:=PL q m k;simp only[ua,List.map_cons,List.mem_cons]at this⊢;rw[this];constructor
    .rintro (h|h|h)
     .exact .inr (.inl h)
     .exact .inl h
     .exact .inr (.inr h)
    .rintro (h|h|h)
     .exact .inr (.inl h)
     .exact .inl h
     .exact .inr (.inr h)
theorem Jah{n:Nat}{q:List Int×Int}{m:MP}(hm:Gb n m)(hq:q.1.length=n):Gb n (nc q m):=by
 intro p hp;have:p.1∈ua (nc q m):=List.mem_map.2 ⟨p,hp,rfl⟩;rcases (PL q m p.1).1 this with h|h
 .rw[h];exact hq
 .obtain⟨p',h1,h2⟩:=List.mem_map.1 h;rw[<-h2];exact hm p' h1
theorem QY{n:Nat}{q:List Int×Int}(hq:q.1.length=n):∀ {m:MP},Asc m->Gb n m->Asc (nc q m)
 |[],_,_=>by simp[nc,Asc]
 |p::m,ha,hk=>by
  have ha':=List.pairwise_cons.1 ha;simp only[nc];split
  .rename_i h;refine List.pairwise_cons.2 ⟨λs hs=>?_,ha⟩;rcases List.mem_cons.1 hs with rfl|hs
   .exact h
   .exact Ig h (ha'.1 s hs)
  .split
   .rename_i h1 h2;exact List.pairwise_cons.2 ⟨λs hs=>by show ltK q.1 s.1=true;rw[<-h2];exact ha'.1 s hs,ha'.2⟩
   .rename_i h1 h2
    have hpq:ltK p.1 q.1=true:=by
     rcases mw ((hk p (by simp)).trans hq.symm) h2 with h|h
     .exact h
     .exact absurd h h1
    refine List.pairwise_cons.2 ⟨λs hs=>?_,QY hq ha'.2 λs hs=>hk s (by simp[hs])⟩;rcases (PL q m s.1).1 (List.mem_map.2 ⟨s,hs,rfl⟩) with h|h
    .rw[h];exact hpq
    .obtain⟨s',h1,h2⟩:=List.mem_map.1 h;rw[<-h2];exact ha'.1 s' h1
theorem RY{n:Nat}{q:List Int×Int}(hq:q.1.length=n):∀ {m:MP},Asc m->Gb n m->∀k,ab (nc q m) k=if k=q.1 then(if q.1∈ua m then ar .add .i64 q.2 (ab m k) else q.2) else ab m k
 |[],_,_,k=>by
  simp only[nc,Df,ua,List.map_nil,List.not_mem_nil,if_false];by_cases h:q.1=k
  .simp[h]
  .simp[h,Ne.symm h]
 |p::m,ha,hk,k=>by
  have ha':=List.pairwise_cons.1 ha;simp only[nc];split
  .rename_i h
   have hne:q.1 ∉ ua (p::m):=by
    intro hm;obtain⟨s,hs,e⟩:=List.mem_map.1 hm;rcases List.mem_cons.1 hs with rfl|hs
    .rw[e,Ff]at h;cases h
    .have:=Ig h (ha'.1 s hs);rw[e,Ff]at this;cases this
   rw[if_neg hne,Df];by_cases h2:q.1=k
   .simp[h2]
   .simp[h2,Ne.symm h2]
  .split
   .rename_i h1 h2;have hm:q.1∈ua (p::m):=by simp[ua,h2]
    rw[if_pos hm,Df,Df];by_cases h3:q.1=k
    .simp[h3,h2.trans h3]
    .have h4:¬ p.1=k:=λe=>h3 (h2.symm.trans e);simp[h3,Ne.symm h3,h4]
   .rename_i h1 h2;rw[Df,RY hq ha'.2 (λs hs=>hk s (by simp[hs])) k,Df];have hmm:q.1∈ua (p::m)↔q.1∈ua m:=by simp[ua,Ne.symm h2]
    by_cases h3:p.1=k
    .have:¬ k=q.1:=λe=>h2 (h3.trans e);simp[h3,this]
    .simp only[h3,if_false,hmm]
theorem Kah{n:Nat}{l:List (List Int×Int)}(hk:Gb n l)(hr:∀q∈l,IntKind.i64.wrap q.2=q.2):Asc (Jf l)/\Gb n (Jf l)/\∀k,ab (Jf l) k=Ef l k:=by
 suffices ∀(l:List (List Int×Int)) (m:MP),Gb n l->(∀q∈l,IntKind.i64.wrap q.2=q.2)->Asc m->Gb n m->Asc (l.foldl (λm q=>nc q m) m)/\Gb n (l.foldl (λm q=>nc q m) m) /\
   ∀k,ab (l.foldl (λm q=>nc q m) m) k=l.foldl (λs q=>if q.1=k then ar .add .i64 s q.2 else s) (ab m k) by
  obtain⟨h1,h2,h3⟩:=this l [] hk hr (by simp[Asc]) (λp hp=>by simp at hp);refine⟨h1,h2,λk=>?_⟩;exact h3 k
 intro l
 induction l with
 |nil=>exact λm _ _ h1 h2=>⟨h1,h2,λ_=>rfl⟩
 |cons q r ih=>
  intro m hl hl2 ha hm;have hq:=hl q (by simp);obtain⟨h1,h2,h3⟩:=ih (nc q m) (λp hp=>hl p (by simp[hp])) (λp hp=>hl2 p (by simp[hp])) (QY hq ha hm) (Jah hm hq);refine⟨h1,h2,λk=>?_⟩;rw[List.foldl_cons,List.foldl_cons,h3 k,RY hq ha hm]
  congr 1
  by_cases h:k=q.1
  .subst h;simp only[if_true];by_cases hmem:q.1∈ua m
   .simp only[hmem,if_true];exact Iah _ _
   .simp only[hmem,if_false];rw[PK hmem];show q.2=IntKind.i64.wrap (0+q.2);rw[Int.zero_add,hl2 q (by simp)]
  .simp[h,Ne.symm h]
theorem SY{f:List Int->List Int}(hf:∀a b,f a=f b->a=b)(l:List (List Int×Int))(k:List Int):Ef (l.map λq=>(f q.1,q.2)) (f k)=Ef l k:=by
 unfold Ef;rw[List.foldl_map]
 congr 1
 funext s q
 by_cases h:q.1=k
 .simp[h]
 .have h2:¬ f q.1=f k:=λe=>h (hf _ _ e);simp[h,h2]
theorem Lah{l:List (List Int×Int)}{k:List Int}(h:∀q∈l,q.1≠k):Ef l k=0:=by
 suffices ∀(l:List (List Int×Int)) (s:Int),(∀q∈l,q.1≠k)->l.foldl (λs q=>if q.1=k then ar .add .i64 s q.2 else s) s=s from this l 0 h
 intro l
 induction l with
 |nil=>exact λ_ _=>rfl
 |cons q r ih=>
  intro s h;rw[List.foldl_cons,if_neg (h q (by simp))];exact ih s λp hp=>h p (by simp[hp])
theorem Fo{l:List (List Int×Int)}{k:List Int}(h:Ef l k≠0):∃q∈l,q.1=k:=by
 by_cases he:∃q∈l,q.1=k
 .exact he
 .exact absurd (Lah λq hq e=>he ⟨q,hq,e⟩) h
theorem TY{n:Nat}{l:List (List Int×Int)}(hk:Gb n l)(hr:∀q∈l,IntKind.i64.wrap q.2=q.2):(Jf l).filter (λp=>p.2 != 0)=tc l:=by
 obtain⟨h1,h2,h3⟩:=Kah hk hr
 have hnd:(ua (Jf l)).Nodup:=by
  refine List.Pairwise.map _ (λp q h e=>?_) h1;rw[e,Ff]at h;cases h
 refine Dw (h1.sublist List.filter_sublist) (Gi hk) λp=>?_;rw[Ye,List.mem_filter];constructor
 .rintro⟨a,b⟩;exact⟨by rw[<-h3,lw hnd a],by simpa using b⟩
 .rintro⟨a,b⟩;refine⟨?_,by simpa using b⟩;by_cases hm:p.1∈ua (Jf l)
  .obtain⟨q,hq,e⟩:=List.mem_map.1 hm;have:=lw hnd hq;rw[h3,e,<-a]at this;have:q=p:=Prod.ext e this.symm;rwa [this]at hq
  .exact absurd (by rw[a,<-h3,PK hm]) b
theorem UY{n m:Nat}{f:List Int->List Int}(hf:∀a b,f a=f b->a=b)(hn:∀k:List Int,k.length=n->(f k).length=m)
  (hlt:∀a b,a.length=n->b.length=n->ltK (f a) (f b)=ltK a b) {l:List (List Int×Int)} (hk:Gb n l) :
  tc (l.map λq=>(f q.1,q.2))=(tc l).map λq=>(f q.1,q.2):=by
 have hkm:Gb m (l.map λq=>(f q.1,q.2)):=by
  intro p hp;obtain⟨q,hq,rfl⟩:=List.mem_map.1 hp;exact hn _ (hk q hq)
 have hkey:∀p∈tc l,p.1.length=n:=by
  intro p hp;obtain⟨h1,h2⟩:=Ye.1 hp;obtain⟨q,hq,e⟩:=Fo (h1▸h2);rw[<-e];exact hk q hq
 refine Dw (Gi hkm) ?_ λp=>?_
 .refine List.pairwise_map.2 ((Gi hk).imp_of_mem λ{a b} ha hb h=>?_);show ltK (f a.1) (f b.1)=true;rw[hlt _ _ (hkey a ha) (hkey b hb)];exact h
 .rw[Ye,List.mem_map];constructor
  .rintro⟨h1,h2⟩;obtain⟨q,hq,e⟩:=Fo (h1▸h2);obtain⟨q',hq',rfl⟩:=List.mem_map.1 hq;have e:f q'.1=p.1:=e;refine⟨(q'.1,p.2),Ye.2 ⟨?_,h2⟩,Prod.ext e rfl⟩;rw[h1,<-e,SY hf]
  .rintro⟨q,hq,rfl⟩;obtain⟨h1,h2⟩:=Ye.1 hq;exact⟨by rw[SY hf];exact h1,h2⟩
end Go.Proofs.YtiiidenbemkihaaGreat
