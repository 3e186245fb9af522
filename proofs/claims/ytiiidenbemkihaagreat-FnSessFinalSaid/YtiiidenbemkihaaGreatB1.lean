/-
  What 'FlowTimes' computes: the times of a key's rows, and all their joins, in order. Printed by a program: what functions compute, and their contracts (part 1). Printed by a program: what functions compute, and their contracts (part 2). Sessions copied by hand: the copy's list of inputs may be written. Rules for loops over lists, and for the order that a fold sets up. What the drawing functions give: bounds. Sums of rows and of items in the reference: they are the gathered ones. What is drawn for laws of loops: bounds. Sets and steps of loops, by what they compute. Sums over changes, and what is left of them when they are put in order. Sums but for multiples of 2 to the power of 64: what is left of changes put in order depends on these alone. The times of a key's rows closed under joins: a set that has them, is closed, and has nothing else is known. No statement is proved here.
-/
import Derived.Test.YtiiidenbemkihaaGreatAR
import Derived.Test.YtiiidenbemkihaaGreatProg
import Derived.IntWalk
namespace Go.Proofs.YtiiidenbemkihaaGreat
open Go
def Ab(x:Row):Bool:=decide (0<=x.Key/\x.Key<=3/\0<=x.Val/\x.Val<=99/\(0<=x.At.A/\x.At.A<=7/\0<=x.At.B/\x.At.B<=7)/\-99999<=x.Diff/\x.Diff<=99999)
def Gb(xs:List Row):Bool:=xs.all Ab&&decide (xs.length<=400)
def za(t:Time):Bool:=decide (0<=t.A/\t.A<=7/\0<=t.B/\t.B<=7)
def jT(xs:List Row)(k:Int)(t:Time):Bool:=xs.any (λx=>decide (x.Key=k/\x.At.A=t.A/\x.At.B<=t.B))&&xs.any (λx=>decide (x.Key=k/\x.At.B=t.B/\x.At.A<=t.A))
def rowP(p:Time->Bool)(i:Int)(n:Nat):List Time:=((List.range n).filter λb:Nat=>p ⟨i,(b:Int)⟩).map λb:Nat=>(⟨i,(b:Int)⟩ : Time)
def yc(p:Time->Bool):Nat->List Time
 |0=>[]
 |n+1=>yc p n++rowP p n 8
def db(xs:List Row)(k:Int):List Time:=if Gb xs=true then yc (jT xs k) 8 else []
def II(xs:List Row)(_:Int):Prop:=xs.length<=1000000
def RS:Spec:=⟨[.lst .row,.int .i64],.one .fr (.lst .time),false,λx=>(db x.1 x.2.1,0),λx=>II x.1 x.2.1⟩
noncomputable section
set_option maxRecDepth 100000
def tt:TT:=[(2,⟨.scalar,1,[.int .i64 0],some .int,false⟩),
 (3,⟨.scalar,1,[.int .i64 0],some .int,false⟩),
 (4,⟨.scalar,1,[.bool false],some .bool,false⟩),
 (5,⟨.scalar,1,[.int .u8 0],some .byte,false⟩),
 (6,⟨.scalar,1,[.int .u8 0],some .byte,false⟩),
 (7,⟨(.struct [(0,1),(1,1),(2,1),(3,1)]),4,[.int .i64 0,.int .i64 0,.bool false,.int .u8 0],none,false⟩),
 (8,⟨(.struct [(0,1),(1,1),(2,1),(3,1)]),4,[.int .i64 0,.int .i64 0,.bool false,.int .u8 0],none,false⟩),
 (9,⟨.scalar,1,[.str ByteArray.empty],some .str,false⟩),
 (10,⟨.scalar,1,[.str ByteArray.empty],some .str,false⟩),
 (11,⟨.scalar,1,[.str ByteArray.empty],some .str,false⟩),
 (12,⟨.scalar,1,[.int .u64 0],none,false⟩),
 (13,⟨(.struct [(0,1),(1,1)]),2,[.str ByteArray.empty,.int .u64 0],none,false⟩),
 (14,⟨(.struct [(0,1),(1,1)]),2,[.str ByteArray.empty,.int .u64 0],none,false⟩),
 (21,⟨.scalar,1,[.int .i32 0],none,false⟩),
 (22,⟨(.slice 5),1,[.nl .byte],none,false⟩),
 (23,⟨(.slice 25),1,[.nl .plan],none,false⟩),
 (24,⟨(.struct [(0,1),(1,1),(2,1)]),3,[.int .i64 0,.int .i64 0,.nl .plan],some .plan,false⟩),
 (25,⟨(.struct [(0,1),(1,1),(2,1)]),3,[.int .i64 0,.int .i64 0,.nl .plan],some .plan,false⟩),
 (26,⟨(.slice 28),1,[.nl .lrow],none,false⟩),
 (27,⟨(.slice 32),1,[.nl .time],none,false⟩),
 (28,⟨(.slice 48),1,[.nl .row],some .lrow,false⟩),
 (29,⟨(.struct [(0,3),(3,1),(4,1),(5,1)]),6,[.int .i64 0,.int .i64 0,.nl .plan,.nl .lrow,.nl .time,.nl .row],some .sess,false⟩),
 (30,⟨(.struct [(0,3),(3,1),(4,1),(5,1)]),6,[.int .i64 0,.int .i64 0,.nl .plan,.nl .lrow,.nl .time,.nl .row],some .sess,false⟩),
 (31,⟨(.struct [(0,1),(1,1)]),2,[.int .i64 0,.int .i64 0],some .time,true⟩),
 (32,⟨(.struct [(0,1),(1,1)]),2,[.int .i64 0,.int .i64 0],some .time,true⟩),
 (35,⟨(.slice 77),1,[.nl .item],some .litem,false⟩),
 (47,⟨(.struct [(0,1),(1,1),(2,2),(4,1)]),5,[.int .i64 0,.int .i64 0,.int .i64 0,.int .i64 0,.int .i64 0],some .row,true⟩),
 (48,⟨(.struct [(0,1),(1,1),(2,2),(4,1)]),5,[.int .i64 0,.int .i64 0,.int .i64 0,.int .i64 0,.int .i64 0],some .row,true⟩),
 (67,⟨(.slice 35),1,[.nl .litem],none,false⟩),
 (76,⟨(.struct [(0,1),(1,1),(2,1)]),3,[.int .i64 0,.int .i64 0,.int .i64 0],some .item,true⟩),
 (77,⟨(.struct [(0,1),(1,1),(2,1)]),3,[.int .i64 0,.int .i64 0,.int .i64 0],some .item,true⟩),
 (88,⟨(.slice 3),1,[.nl .int],none,false⟩),
 (99,⟨(.struct [(0,1),(1,1)]),2,[.nl .byte,.int .i64 0],none,false⟩),
 (100,⟨(.struct [(0,1),(1,1)]),2,[.nl .byte,.int .i64 0],none,false⟩),
 (115,⟨.scalar,1,[.int .u64 0],none,false⟩),
 (123,⟨.scalar,1,[.int .u64 0],none,false⟩),
 (143,⟨.scalar,1,[.int .u32 0],none,false⟩),
 (145,⟨.scalar,1,[.int .u64 0],none,false⟩),
 (147,⟨.scalar,1,[.int .i64 0],some .int,false⟩),
 (157,⟨.scalar,1,[.int .u64 0],none,false⟩),
 (173,⟨.scalar,1,[.int .u8 0],some .byte,false⟩),
 (174,⟨.scalar,1,[.int .u8 0],some .byte,false⟩),
 (177,⟨.scalar,1,[.int .i32 0],none,false⟩),
 (178,⟨.scalar,1,[.int .i32 0],none,false⟩),
 (181,⟨(.struct [(0,1),(1,1)]),2,[.str ByteArray.empty,.int .u8 0],none,false⟩),
 (182,⟨(.struct [(0,1),(1,1)]),2,[.str ByteArray.empty,.int .u8 0],none,false⟩)]
abbrev Gd(s:SP):=Good Tryz.prog tt s
abbrev CP(f:Nat)(s:Spec):Prop:=Con Tryz.prog f s
abbrev OkP(fn:Func)(F:Fnn){R:Type}(fr:Fr){A X Y Z:Type}(S:Pb R A X Y Z):Prop:=OkF Tryz.prog tt fn F R fr S
structure GdB(s:SP)(f:Nat)(v:Sess->Sess)(p:Sess->Prop):Prop where
 g:Gd s
 b:ut Tryz.prog f v p
def aG:SP:=[]
abbrev F42:Fnn:=⟨[.tmp 2],.rdr,none,[]⟩
abbrev qN:=@OkP Tryz.f42 F42
def rN(x:LB):TA ((LB×Int)) LB:=.c (cmp .gtr (ba .byte x) 2000) (.w [le3 0 2000 (ba .byte x)] (.l (.n (List.drop (Int.toNat 0) (List.take (Int.toNat 2000) x)))))
 (.l (.n x))
def Lt:=λx=>pcT (rN x) [0,1] [(0,.S .byte x)] (rvF F42) (λq=>[(0,.S .byte q)])
theorem VX(G:Gd aG){fr x}:qN fr (Lt x):=ja G
def Mt(x:LB):TN ((LB×Int)):=.sn (Lt x) (λy=>.l (.r (y,0)))
def WX:=λx=>pcT (Mt x) [] [(0,.S .byte x)] (rvF F42)
theorem XX(G:Gd aG){fr x}:qN fr (WX x):=fa G (λe=>⟨Lt (gL .byte e 0 0)⟩) λ_=>VX G
def bG(x:LB):(LB×Int):=ocR (Mt x).val
def cG(x:LB):Prop:=(Mt x).ob
def sN:Spec:=spF [(.lst .byte)] .rdr bG cG
theorem YX(G:Gd aG):CP 42 sN:=ua (pts:=[(.lst .byte)]) (F:=F42) G λ_ _=>XX G
def tN:SP:=[]
abbrev F44:Fnn:=⟨[.tmp 4],.one .fr (.int .i64),some 0,[]⟩
abbrev ZX:=@OkP Tryz.f44 F44
def Nt(x:(LB×Int))(y:Int):TN (Int×Int):=.c (cond (cmp .lss y 1) true (cmp .eql (ba .byte x.1) 0)) (.l (.r (0,(ar .add .i64 x.2 1))))
 (.c (cmp .lss (ar .sub .i64 (ar .add .i64 x.2 1) 1) (ba .byte x.1)) (.w [inb (ar .sub .i64 (ar .add .i64 x.2 1) 1) (ba .byte x.1),(y:Int)≠0] (.l (.r ((ar .rem .i64 (IntKind.wrap .i64 (rd .byte x.1 (ar .sub .i64 (ar .add .i64 x.2 1) 1))) y),(ar .add .i64 x.2 1)))))
 (.w [((ba .byte x.1):Int)≠0,inb (ar .rem .i64 (ar .sub .i64 (ar .add .i64 x.2 1) 1) (ba .byte x.1)) (ba .byte x.1),((ba .byte x.1):Int)≠0,inb (ar .rem .i64 (ar .add .i64 (ar .mul .i64 (ar .sub .i64 (ar .add .i64 x.2 1) 1) 7) 3) (ba .byte x.1)) (ba .byte x.1),((ba .byte x.1):Int)≠0] (.w [(64:Int)≠0] (.w [(y:Int)≠0] (.l (.r ((ar .rem .i64 (xr .i64 (ar .add .i64 (ar .add .i64 (ar .add .i64 (ar .mul .i64 (IntKind.wrap .i64 (rd .byte x.1 (ar .rem .i64 (ar .sub .i64 (ar .add .i64 x.2 1) 1) (ba .byte x.1)))) 131) (ar .mul .i64 (IntKind.wrap .i64 (rd .byte x.1 (ar .rem .i64 (ar .add .i64 (ar .mul .i64 (ar .sub .i64 (ar .add .i64 x.2 1) 1) 7) 3) (ba .byte x.1)))) 1117)) (ar .mul .i64 (ar .sub .i64 (ar .add .i64 x.2 1) 1) 29)) (ar .mul .i64 (ar .quo .i64 (ar .sub .i64 (ar .add .i64 x.2 1) 1) (ba .byte x.1)) 53)) (ar .quo .i64 (ar .add .i64 (ar .add .i64 (ar .add .i64 (ar .mul .i64 (IntKind.wrap .i64 (rd .byte x.1 (ar .rem .i64 (ar .sub .i64 (ar .add .i64 x.2 1) 1) (ba .byte x.1)))) 131) (ar .mul .i64 (IntKind.wrap .i64 (rd .byte x.1 (ar .rem .i64 (ar .add .i64 (ar .mul .i64 (ar .sub .i64 (ar .add .i64 x.2 1) 1) 7) 3) (ba .byte x.1)))) 1117)) (ar .mul .i64 (ar .sub .i64 (ar .add .i64 x.2 1) 1) 29)) (ar .mul .i64 (ar .quo .i64 (ar .sub .i64 (ar .add .i64 x.2 1) 1) (ba .byte x.1)) 53)) 64)) y),(ar .add .i64 x.2 1))))))))
def aY:=λx y=>pcT (Nt x y) [] [(0,.R x.1 x.2),(1,.I y)] (rvR F44 x.1)
theorem cY(G:Gd tN){fr x y}:ZX fr (aY x y):=ja G
def ia(x:(LB×Int))(y:Int):Int×Int:=ocR (Nt x y).val
def Lb(x:(LB×Int))(y:Int):Prop:=(Nt x y).ob
def Of:Spec:=spR [.rdr,(.int .i64)] (.one .fr (.int .i64)) ia Lb
theorem eY(G:Gd tN):CP 44 Of:=Ze (pts:=[.rdr,(.int .i64)]) (F:=F44) G (λx=>x.1.1) λ_ _=>cY G
abbrev V88:=(LB×Int)->Int->Plan×Int
abbrev Q88:=(LB×Int)->Int->Prop
def Ot(v:V88)(p:Q88):Spec:=⟨[.rdr,(.int .i64)],.one .fr (.st .plan),true,λx=>v x.1 x.2.1,λx=>p x.1 x.2.1⟩
def uN(x:V88)(y:Q88):SP:=[(44,Of),(88,Ot x y)]
abbrev F88:Fnn:=⟨[.cell 4 25],.one .fr (.st .plan),some 0,[]⟩
abbrev fY:=@OkP Tryz.f88 F88
def Gh(a:V88)(b:Q88)(x:(LB×Int))(y:Int):TN (Plan×Int):=.k (ia (x.1,x.2) 6) λc=>.w [((!(cmp .lss y 2))&&true)=true->(Lb (x.1,x.2) 6)] (.c (cond (cmp .lss y 2) true (cmp .eql c.1 0)) (.k (ia (x.1,(cond ((!(cmp .lss y 2))&&true) c.2 x.2)) 2) λi=>.w [(Lb (x.1,(cond ((!(cmp .lss y 2))&&true) c.2 x.2)) 2)] (.l (.r ((Plan.mk 1 i.1 []),i.2))))
 (.k (ia (x.1,(cond ((!(cmp .lss y 2))&&true) c.2 x.2)) 6) λz=>.w [(Lb (x.1,(cond ((!(cmp .lss y 2))&&true) c.2 x.2)) 6)] (.c (cmp .eql z.1 0) (.k (ia (x.1,z.2) 7) λd=>.k (a (x.1,d.2) (ar .sub .i64 y 1)) λj=>.w [Lb (x.1,z.2) 7,b (x.1,d.2) (ar .sub .i64 y 1)] (.l (.r ((Plan.mk 2 (ar .add .i64 1 d.1) [(pE j.1)]),j.2))))
 (.c (cmp .eql z.1 1) (.k (a (x.1,z.2) (ar .sub .i64 y 1)) λf=>.k (a (x.1,f.2) (ar .sub .i64 y 1)) λk=>.w [b (x.1,z.2) (ar .sub .i64 y 1),b (x.1,f.2) (ar .sub .i64 y 1)] (.l (.r ((Plan.mk 3 0 [(pE f.1),(pE k.1)]),k.2))))
 (.c (cmp .eql z.1 2) (.k (a (x.1,z.2) (ar .sub .i64 y 1)) λl=>.w [b (x.1,z.2) (ar .sub .i64 y 1)] (.l (.r ((Plan.mk 4 0 [(pE l.1)]),l.2))))
 (.c (cmp .eql z.1 3) (.k (a (x.1,z.2) (ar .sub .i64 y 1)) λg=>.k (a (x.1,g.2) (ar .sub .i64 y 1)) λm=>.w [b (x.1,z.2) (ar .sub .i64 y 1),b (x.1,g.2) (ar .sub .i64 y 1)] (.l (.r ((Plan.mk 5 0 [(pE g.1),(pE m.1)]),m.2))))
 (.k (ia (x.1,z.2) 3) λh=>.k (a (x.1,h.2) (ar .sub .i64 y 1)) λn=>.w [Lb (x.1,z.2) 3,b (x.1,h.2) (ar .sub .i64 y 1)] (.l (.r ((Plan.mk 6 (ar .add .i64 1 h.1) [(pE n.1)]),n.2))))))))))
def gY:=λz a x y=>pcT (Gh z a x y) [] [(0,.R x.1 x.2),(1,.I y)] (rvR F88 x.1)
theorem hY{x:V88}{y:Q88}(G:Gd (uN x y)){fr z a}:fY fr (gY x y z a):=ja G
theorem iY{y:V88}{z:Q88}(G:Gd (uN y z)):CP 88 (Ot (λa b=>ocR (Gh y z a b).val) (λa b=>(Gh y z a b).ob)):=Ze (pts:=[.rdr,(.int .i64)]) (F:=F88) G (λx=>x.1.1) λ_ _=>hY G
def xc:Nat->V88×Q88
 |0=>(λ_ _=>default,λ_ _=>False)
 |n+1=>(λx y=>ocR (Gh (xc n).1 (xc n).2 x y).val,λx y=>(Gh (xc n).1 (xc n).2 x y).ob)
def Hh:V88:=(xc gc).1
def dG:Q88:=(xc gc).2
def vN:Spec:=Ot Hh dG
def Pt:SP:=[]
abbrev Wm:Fnn:=⟨[.tmp 2,.tmp 3,.tmp 4],.tup [(true,(.int .i64)),(true,(.int .i64)),(true,(.int .i64))],none,[]⟩
abbrev eG:=@OkP Tryz.f161 Wm
def wN(x:Int):TA (Int×Int×Int×Unit) Bool:=.c (cmp .eql x 3) (.l (.n (cmp .eql x 3)))
 (.l (.n (cmp .eql x 5)))
def Qt:=λx=>pcT (wN x) [0,1,1,1,1,0,1,0,1] [(5,.I x)] (rvF Wm) (λq=>[(5,.I x),(10,.O q)])
theorem jY(G:Gd Pt){fr x}:eG fr (Qt x):=ja G
def xN(x:Int):TA (Int×Int×Int×Unit) Unit:=.c (cmp .eql x 1) (.l (.r (0,(0,(1,())))))
 (.c (cmp .eql x 2) (.l (.r (1,(1,(7,())))))
 (.sn (Qt x) (λy=>.c y (.l (.r (2,(0,(0,())))))
 (.c (cmp .eql x 4) (.l (.r (1,(0,(0,())))))
 (.c (cmp .eql x 6) (.l (.r (1,(1,(3,())))))
 (.l (.n ())))))))
def Rt:=λx=>pcT (xN x) [0,1] [(0,.I x)] (rvF Wm) (λ_=>[])
theorem kY(G:Gd Pt){fr x}:eG fr (Rt x):=fa G (λe=>⟨Qt (gI e 5 0)⟩) λ_=>jY G
def St(x:Int):TN (Int×Int×Int×Unit):=.sn (Rt x) (λ_=>.l (.r ((-1),(0,(0,())))))
def lY:=λx=>pcT (St x) [] [(0,.I x)] (rvF Wm)
theorem mY(G:Gd Pt){fr x}:eG fr (lY x):=fa G (λe=>⟨Rt (gI e 0 0)⟩) λ_=>kY G
def ej(x:Int):Int×Int×Int×Unit:=ocR (St x).val
def Tt(x:Int):Prop:=(St x).ob
def fG:Spec:=spF [(.int .i64)] (.tup [(true,(.int .i64)),(true,(.int .i64)),(true,(.int .i64))]) ej Tt
theorem nY(G:Gd Pt):CP 161 fG:=ua (pts:=[(.int .i64)]) (F:=Wm) G λ_ _=>mY G
def yN:SP:=[]
abbrev F77:Fnn:=⟨[.tmp 6],.one .fr .bool,none,[]⟩
abbrev oY:=@OkP Tryz.f77 F77
def gG(x y z:Int):TN Bool:=.l (.r (cond (cmp .geq x y) (cmp .leq x z) false))
def pY:=λx y z=>pcT (gG x y z) [] [(0,.I x),(1,.I y),(2,.I z)] (rvF F77)
theorem qY(G:Gd yN){fr x y z}:oY fr (pY x y z):=ja G
def xd(x:Int)(y:Int)(z:Int):Bool:=ocR (gG x y z).val
def rg(x:Int)(y:Int)(z:Int):Prop:=(gG x y z).ob
def wk:Spec:=spF [(.int .i64),(.int .i64),(.int .i64)] (.one .fr .bool) xd rg
theorem rY(G:Gd yN):CP 77 wk:=ua (pts:=[(.int .i64),(.int .i64),(.int .i64)]) (F:=F77) G λ_ _=>qY G
abbrev jf:=Plan->Int->Bool
abbrev kf:=Plan->Int->Prop
def Ut(v:jf)(p:kf):Spec:=⟨[(.st .plan),(.int .i64)],.one .fr .bool,false,λx=>(v x.1 x.2.1,0),λx=>p x.1 x.2.1⟩
def Xm(x:jf)(y:kf):SP:=[(161,fG),(77,wk),(129,Ut x y)]
abbrev Ym:Fnn:=⟨[.tmp 4],.one .fr .bool,none,[]⟩
abbrev Vt:=@OkP Tryz.f129 Ym
def Wt(a:jf)(b:kf)(z _ _:Int)(y:LP)(x:Int):TX Bool Int Unit:=.c (cmp .lss x (ba .plan y)) (.w [inb x (ba .plan y),b (pE (rd .plan y x)) (ar .sub .i64 z 1)] (.c (!(a (pE (rd .plan y x)) (ar .sub .i64 z 1))) (.l (.r false))
 (.l (.n (ar .add .i64 x 1)))))
 (.l (.x ()))
def zN:=λc d x y z a b=>pcR (Wt c d x y z a b) [0,0,1,0,1,1,1] (λq=>[(1,.I x),(2,.box [(.fr,.i y),(.fr,.i z),(.sh,.lst .plan a)]),(8,.I q)]) b (rvF Ym) (λ_=>(0,[]))
theorem sY{x:jf}{y:kf}(G:Gd (Xm x y)){fr z a b c d}:Vt fr (zN x y z a b c d):=ja G
def Zm:=λx y z a b c=>pcL (λs:Int=>zN x y z a b c s) 0
theorem tY{x:jf}{y:kf}(G:Gd (Xm x y)){fr z a b c}:Vt fr (Zm x y z a b c):=Aa λ_=>sY G
def AN(x:jf)(y:kf)(z a b:Int)(c:LP):TA Bool Unit:=.sx (Zm x y z a b c) (λ_=>.l (.n ()))
def Xt:=λb c x y z a=>pcT (AN b c x y z a) [0,1,1,1] [(1,.I x),(2,.box [(.fr,.i y),(.fr,.i z),(.sh,.lst .plan a)])] (rvF Ym) (λ_=>[])
theorem uY{x:jf}{y:kf}(G:Gd (Xm x y)){fr z a b c}:Vt fr (Xt x y z a b c):=fa G (λe=>⟨Zm x y (gI e 1 0) (gI e 2 0) (gI e 2 1) (gL .plan e 2 2)⟩) λ_=>tY G
def Ih(a:jf)(b:kf)(x:Plan)(z:Int):TN Bool:=.k (ej x.Kind) λy=>.w [Tt x.Kind] (.w [((!(cond (cmp .lss z 1) true (cmp .neq (ba .plan x.Kids) y.1)))&&true)=true->(rg x.Num y.2.1 y.2.2.1)] (.c (cond (cond (cmp .lss z 1) true (cmp .neq (ba .plan x.Kids) y.1)) true (!(xd x.Num y.2.1 y.2.2.1))) (.l (.r false))
 (.sn (Xt a b z x.Kind x.Num x.Kids) (λ_=>.l (.r true)))))
def vY:=λz a x y=>pcT (Ih z a x y) [] [(0,.agg false [.i x.Kind,.i x.Num,.lst .plan x.Kids]),(1,.I y)] (rvF Ym)
theorem wY{x:jf}{y:kf}(G:Gd (Xm x y)){fr z a}:Vt fr (vY x y z a):=fa G (λe=>⟨Xt x y (gI e 1 0) (gI e 2 0) (gI e 2 1) (gL .plan e 2 2)⟩) λ_=>uY G
theorem xY{x:jf}{y:kf}(G:Gd (Xm x y)):CP 129 (Ut (λz a=>ocR (Ih x y z a).val) (λz a=>(Ih x y z a).ob)):=ua (pts:=[(.st .plan),(.int .i64)]) (F:=Ym) G λ_ _=>wY G
def Xc:Nat->jf×kf
 |0=>(λ_ _=>default,λ_ _=>False)
 |n+1=>(λx y=>ocR (Ih (Xc n).1 (Xc n).2 x y).val,λx y=>(Ih (Xc n).1 (Xc n).2 x y).ob)
def BN:jf:=(Xc gc).1
def CN:kf:=(Xc gc).2
def DN:Spec:=Ut BN CN
def EN:SP:=[(129,DN)]
abbrev F99:Fnn:=⟨[.tmp 2],.one .fr .bool,none,[]⟩
abbrev yY:=@OkP Tryz.f99 F99
def Yt(x:Plan):TN Bool:=.w [CN (pE x) 4] (.l (.r (BN (pE x) 4)))
def zY:=λx=>pcT (Yt x) [] [(0,.agg false [.i x.Kind,.i x.Num,.lst .plan x.Kids])] (rvF F99)
theorem AY(G:Gd EN){fr x}:yY fr (zY x):=ja G
def bn(x:Plan):Bool:=ocR (Yt x).val
def cn(x:Plan):Prop:=(Yt x).ob
def Zt:Spec:=spF [(.st .plan)] (.one .fr .bool) bn cn
theorem CY(G:Gd EN):CP 99 Zt:=ua (pts:=[(.st .plan)]) (F:=F99) G λ_ _=>AY G
abbrev V98:=Plan->Plan
abbrev Q98:=Plan->Prop
def au(v:V98)(p:Q98):Spec:=⟨[(.st .plan)],.one .fr (.st .plan),false,λx=>(v x.1,0),λx=>p x.1⟩
def jn(x:V98)(y:Q98):SP:=[(98,au x y)]
abbrev F98:Fnn:=⟨[.cell 2 25],.one .fr (.st .plan),none,[]⟩
abbrev eu:=@OkP Tryz.f98 F98
def fu(b:V98)(c:Q98)(_ _:Int)(y z:LP)(x:Int):TX Plan (LP×Int) LP:=.c (cmp .lss x (ba .plan y)) (.k (b (pE (rd .plan y x))) λa=>.w [inb x (ba .plan y),c (pE (rd .plan y x)),lim (ba .plan z) (ba .plan [(pE a)])] (.l (.n ((z++[(pE a)]),(ar .add .i64 x 1)))))
 (.l (.x z))
def FN:=λc d x y z a b=>pcR (fu c d x y z a b) [0,0,1,0,1,1] (λq=>[(1,.box [(.fr,.i x),(.fr,.i y),(.sh,.lst .plan z)]),(2,.box [(.fr,.i 0),(.fr,.i 0),(.fr,.nl .plan)]),(3,.box [(.fr,.i x),(.fr,.i y),((.acc true),.lst .plan q.1)]),(4,.I q.2)]) (a,b) (rvF F98) (λq=>(0,[(2,.box [(.fr,.i 0),(.fr,.i 0),(.fr,.nl .plan)]),(3,.box [(.fr,.i x),(.fr,.i y),((.acc true),.lst .plan q)])]))
theorem DY{x:V98}{y:Q98}(G:Gd (jn x y)){fr z a b c d}:eu fr (FN x y z a b c d):=ja G
def ln:=λx y z a b=>pcL (λs:LP×Int=>FN x y z a b s.1 s.2) ([],0)
theorem EY{x:V98}{y:Q98}(G:Gd (jn x y)){fr z a b}:eu fr (ln x y z a b):=Aa λ_=>DY G
def GN(x:V98)(y:Q98)(z a:Int)(b:LP):TA Plan LP:=.sx (ln x y z a b) (λc=>.l (.n c))
def gu:=λa b x y z=>pcT (GN a b x y z) [0,1,1] [(1,.box [(.fr,.i x),(.fr,.i y),(.sh,.lst .plan z)]),(2,.box [(.fr,.i 0),(.fr,.i 0),(.fr,.nl .plan)]),(3,.box [(.fr,.i x),(.fr,.i y),(.fr,.nl .plan)])] (rvF F98) (λq=>[(2,.box [(.fr,.i 0),(.fr,.i 0),(.fr,.nl .plan)]),(3,.box [(.fr,.i x),(.fr,.i y),((.acc true),.lst .plan q)])])
theorem FY{x:V98}{y:Q98}(G:Gd (jn x y)){fr z a b}:eu fr (gu x y z a b):=fa G (λe=>⟨ln x y (gI e 1 0) (gI e 1 1) (gL .plan e 1 2)⟩) λ_=>EY G
def xk(y:V98)(z:Q98)(x:Plan):TN Plan:=.sn (gu y z x.Kind x.Num x.Kids) (λa=>.l (.r (Plan.mk x.Kind x.Num a)))
def GY:=λy z x=>pcT (xk y z x) [] [(0,.agg false [.i x.Kind,.i x.Num,.lst .plan x.Kids])] (rvF F98)
theorem HY{x:V98}{y:Q98}(G:Gd (jn x y)){fr z}:eu fr (GY x y z):=fa G (λe=>⟨gu x y (gI e 1 0) (gI e 1 1) (gL .plan e 1 2)⟩) λ_=>FY G
theorem IY{x:V98}{y:Q98}(G:Gd (jn x y)):CP 98 (au (λz=>ocR (xk x y z).val) (λz=>(xk x y z).ob)):=ua (pts:=[(.st .plan)]) (F:=F98) G λ_ _=>HY G
def Ad:Nat->V98×Q98
 |0=>(λ_=>default,λ_=>False)
 |n+1=>(λx=>ocR (xk (Ad n).1 (Ad n).2 x).val,λx=>(xk (Ad n).1 (Ad n).2 x).ob)
def me:V98:=(Ad gc).1
def iu:Q98:=(Ad gc).2
def iG:Spec:=au me iu
def HN:SP:=[(99,Zt),(98,iG)]
abbrev F87:Fnn:=⟨[.cell 2 30,.tmp 3],.tup [(false,(.st .sess)),(true,.bool)],none,[]⟩
abbrev JY:=@OkP Tryz.f87 F87
def ku(x:Plan):TN (Sess×Bool×Unit):=.w [cn (pE x)] (.c (!(bn (pE x))) (.l (.r ((Sess.mk (Plan.mk 0 0 []) [] [] []),(false,()))))
 (.w [iu (pE x)] (.l (.r ((Sess.mk (pE (me (pE x))) [[],[]] [(Time.mk 0 0)] []),(true,()))))))
def LY:=λx=>pcT (ku x) [] [(0,.agg false [.i x.Kind,.i x.Num,.lst .plan x.Kids])] (rvF F87)
theorem MY(G:Gd HN){fr x}:JY fr (LY x):=ja G
def lu(x:Plan):Sess×Bool×Unit:=ocR (ku x).val
def nu(x:Plan):Prop:=(ku x).ob
def jG:Spec:=spF [(.st .plan)] (.tup [(false,(.st .sess)),(true,.bool)]) lu nu
theorem NY(G:Gd HN):CP 87 jG:=ua (pts:=[(.st .plan)]) (F:=F87) G λ_ _=>MY G
def JN:SP:=[(44,Of)]
abbrev F45:Fnn:=⟨[.cell 2 32],.one .fr (.st .time),some 0,[]⟩
abbrev PY:=@OkP Tryz.f45 F45
def pu(x:(LB×Int)):TN (Time×Int):=.k (ia (x.1,x.2) 10) λy=>.w [Lb (x.1,x.2) 10] (.c (cmp .eql y.1 0) (.k (ia (x.1,y.2) 8) λz=>.k (ia (x.1,z.2) 8) λb=>.w [Lb (x.1,y.2) 8,Lb (x.1,z.2) 8] (.l (.r ((Time.mk z.1 b.1),b.2))))
 (.k (ia (x.1,y.2) 4) λa=>.k (ia (x.1,a.2) 4) λc=>.w [Lb (x.1,y.2) 4,Lb (x.1,a.2) 4] (.l (.r ((Time.mk a.1 c.1),c.2)))))
def QY:=λx=>pcT (pu x) [] [(0,.R x.1 x.2)] (rvR F45 x.1)
theorem RY(G:Gd JN){fr x}:PY fr (QY x):=ja G
def Jh(x:(LB×Int)):Time×Int:=ocR (pu x).val
def yk(x:(LB×Int)):Prop:=(pu x).ob
def nn:Spec:=spR [.rdr] (.one .fr (.st .time)) Jh yk
theorem SY(G:Gd JN):CP 45 nn:=Ze (pts:=[.rdr]) (F:=F45) G (λx=>x.1.1) λ_ _=>RY G
def qn:SP:=[(44,Of),(45,nn)]
abbrev rn:Fnn:=⟨[.tmp 4],.one (.acc true) (.lst .time),some 0,[]⟩
abbrev qu:=@OkP Tryz.f128 rn
def ru(a:LB)(_ _ x:Int)(y:List Time)(b:Int):TX ((List Time)×Int) (Int×(List Time)×Int) (Int×(List Time)):=.c (cmp .gtr b 0) (.k (Jh (a,x)) λz=>.w [yk (a,x),lim (ba .time y) (ba .time [z.1])] (.l (.n (z.2,(y++[z.1]),(ar .sub .i64 b 1)))))
 (.l (.x (x,y)))
def LN:=λx b c y z a=>pcR (ru x b c y z a) [0,0,1,0,1,1] (λq=>[(0,.R x q.1),(5,.A .time q.2.1),(6,.I q.2.2)]) (y,z,a) (rvR rn x) (λq=>(0,[(0,.R x q.1),(5,.A .time q.2)]))
theorem TY(G:Gd qn){fr x y z a b c}:qu fr (LN x y z a b c):=ja G
def tn:=λz x y=>pcL (λs:Int×(List Time)×Int=>LN z x y s.1 s.2.1 s.2.2) (x,[],y)
theorem UY(G:Gd qn){fr x y z}:qu fr (tn x y z):=Aa λ_=>TY G
def MN(x:LB)(y z:Int):TA ((List Time)×Int) (Int×(List Time)):=.k (ia (x,y) (ar .add .i64 z 1)) λa=>.w [Lb (x,y) (ar .add .i64 z 1)] (.sx (tn x a.2 a.1) (λb=>.l (.n (b.1,b.2))))
def su:=λx y z=>pcT (MN x y z) [0,1,1] [(0,.R x y),(1,.I z),(5,.A .time [])] (rvR rn x) (λq=>[(0,.R x q.1),(5,.A .time q.2)])
theorem VY(G:Gd qn){fr x y z}:qu fr (su x y z):=fa G (λe=>⟨tn (gL .byte e 0 0) (gI e 0 1) (gI e 6 0)⟩) λ_=>UY G
def tu(x:(LB×Int))(z:Int):TN ((List Time)×Int):=.sn (su x.1 x.2 z) (λy=>.l (.r (y.2,y.1)))
def WY:=λx y=>pcT (tu x y) [] [(0,.R x.1 x.2),(1,.I y)] (rvR rn x.1)
theorem XY(G:Gd qn){fr x y}:qu fr (WY x y):=fa G (λe=>⟨su (gL .byte e 0 0) (gI e 0 1) (gI e 1 0)⟩) λ_=>VY G
def fj(x:(LB×Int))(y:Int):(List Time)×Int:=ocR (tu x y).val
def vu(x:(LB×Int))(y:Int):Prop:=(tu x y).ob
def kG:Spec:=spR [.rdr,(.int .i64)] (.one (.acc true) (.lst .time)) fj vu
theorem YY(G:Gd qn):CP 128 kG:=Ze (pts:=[.rdr,(.int .i64)]) (F:=rn) G (λx=>x.1.1) λ_ _=>XY G
def NN:SP:=[(77,wk)]
abbrev F49:Fnn:=⟨[.tmp 2],.one .fr .bool,none,[]⟩
abbrev ZY:=@OkP Tryz.f49 F49
def lG(x:Time):TN Bool:=.k (xd x.A 0 7) λy=>.w [rg x.A 0 7,(y&&true)=true->(rg x.B 0 7)] (.l (.r (cond y (xd x.B 0 7) false)))
def aZ:=λx=>pcT (lG x) [] [(0,.agg true [.i x.A,.i x.B])] (rvF F49)
theorem bZ(G:Gd NN){fr x}:ZY fr (aZ x):=ja G
def oe(x:Time):Bool:=ocR (lG x).val
def sg(x:Time):Prop:=(lG x).ob
def Kh:Spec:=spF [(.st .time)] (.one .fr .bool) oe sg
theorem cZ(G:Gd NN):CP 49 Kh:=ua (pts:=[(.st .time)]) (F:=F49) G λ_ _=>bZ G
def un:SP:=[(49,Kh)]
abbrev vn:Fnn:=⟨[.tmp 2],.one .fr .bool,none,[]⟩
abbrev wu:=@OkP Tryz.f125 vn
def xu(y:List Time)(x:Int):TX Bool Int Unit:=.c (cmp .lss x (ba .time y)) (.w [inb x (ba .time y),sg (rd .time y x)] (.c (!(oe (rd .time y x))) (.l (.r false))
 (.l (.n (ar .add .i64 x 1)))))
 (.l (.x ()))
def PN:=λx y=>pcR (xu x y) [0,0,1,0,1] (λq=>[(0,.S .time x),(3,.I q)]) y (rvF vn) (λ_=>(0,[]))
theorem eZ(G:Gd un){fr x y}:wu fr (PN x y):=ja G
def yu:=λx=>pcL (λs:Int=>PN x s) 0
theorem fZ(G:Gd un){fr x}:wu fr (yu x):=Aa λ_=>eZ G
def QN(x:List Time):TA Bool Unit:=.sx (yu x) (λ_=>.l (.n ()))
def zu:=λx=>pcT (QN x) [0,1] [(0,.S .time x)] (rvF vn) (λ_=>[])
theorem gZ(G:Gd un){fr x}:wu fr (zu x):=fa G (λe=>⟨yu (gL .time e 0 0)⟩) λ_=>fZ G
def Au(x:List Time):TN Bool:=.sn (zu x) (λ_=>.l (.r true))
def hZ:=λx=>pcT (Au x) [] [(0,.S .time x)] (rvF vn)
theorem iZ(G:Gd un){fr x}:wu fr (hZ x):=fa G (λe=>⟨zu (gL .time e 0 0)⟩) λ_=>gZ G
def mG(x:List Time):Bool:=ocR (Au x).val
def Bu(x:List Time):Prop:=(Au x).ob
def nG:Spec:=spF [(.lst .time)] (.one .fr .bool) mG Bu
theorem jZ(G:Gd un):CP 125 nG:=ua (pts:=[(.lst .time)]) (F:=vn) G λ_ _=>iZ G
def RN:SP:=[(49,Kh)]
abbrev F90:Fnn:=⟨[.tmp 4],.one .fr .bool,none,[]⟩
abbrev kZ:=@OkP Tryz.f90 F90
def oG(x y:Time):TN Bool:=.w [sg x,((oe x)&&true)=true->(sg y)] (.l (.r (cond (cond (cond (oe x) (oe y) false) (cmp .leq x.A y.A) false) (cmp .leq x.B y.B) false)))
def lZ:=λx y=>pcT (oG x y) [] [(0,.agg true [.i x.A,.i x.B]),(1,.agg true [.i y.A,.i y.B])] (rvF F90)
theorem mZ(G:Gd RN){fr x y}:kZ fr (lZ x y):=ja G
def gj(x:Time)(y:Time):Bool:=ocR (oG x y).val
def zk(x:Time)(y:Time):Prop:=(oG x y).ob
def Ak:Spec:=spF [(.st .time),(.st .time)] (.one .fr .bool) gj zk
theorem nZ(G:Gd RN):CP 90 Ak:=ua (pts:=[(.st .time),(.st .time)]) (F:=F90) G λ_ _=>mZ G
def Dd:SP:=[(125,nG),(90,Ak)]
abbrev F92:Fnn:=⟨[.tmp 2],.one (.acc true) (.lst .time),none,[]⟩
abbrev Td:=@OkP Tryz.f92 F92
def Cu(x _:List Time)(z a:Int)(b:Bool)(y:Int):TA (List Time) Bool:=.w [inb y (ba .time x)] (.c (cmp .eql (rd .time x y).A z&&(cmp .eql (rd .time x y).B a&&true)) (.l (.n true))
 (.l (.n b)))
def Du:=λz a x y c b=>pcT (Cu z a x y c b) [0,1,0,0,1,0,1,1,0,0,1,0,0,1,0,0,1,0,0,1,0,1,1,1] [(0,.S .time z),(3,.A .time a),(4,.I x),(5,.I y),(6,.B [x,y]),(7,.O c),(8,.I b)] (rvF F92) (λq=>[(0,.S .time z),(3,.A .time a),(4,.I x),(5,.I y),(6,.B [x,y]),(7,.O q),(8,.I b)])
theorem oZ(G:Gd Dd){fr x y z a b c}:Td fr (Du x y z a b c):=ja G
def wn(y a:List Time)(b c:Int)(z:Bool)(x:Int):TX (List Time) (Bool×Int) Bool:=.c (cmp .lss x (ba .time y)) (.sn (Du y a b c z x) (λd=>.l (.n (d,(ar .add .i64 x 1)))))
 (.l (.x z))
def SN:=λz a x y b c=>pcR (wn z a x y b c) [0,0,1,0,1,1,0,0,1,0,0,1,0,0,1,0,0,1,0,1,1,1] (λq=>[(0,.S .time z),(3,.A .time a),(4,.I x),(5,.I y),(6,.B [x,y]),(7,.O q.1),(8,.I q.2)]) (b,c) (rvF F92) (λq=>(4,[(0,.S .time z),(3,.A .time a),(4,.I x),(5,.I y),(6,.B [x,y]),(7,.O q)]))
theorem pZ(G:Gd Dd){fr x y z a b c}:Td fr (SN x y z a b c):=fa G (λe=>⟨Du (gL .time e 0 0) (gL .time e 3 0) (gI e 4 0) (gI e 5 0) (gB e 7 0) (gI e 8 0)⟩) λ_=>oZ G
def xn:=λx y z a=>pcL (λs:Bool×Int=>SN x y z a s.1 s.2) (false,0)
theorem qZ(G:Gd Dd){fr x y z a}:Td fr (xn x y z a):=Aa λ_=>pZ G
def Eu(x y:List Time)(z a:Int):TA (List Time) Bool:=.sx (xn x y z a) (λb=>.l (.n b))
def Fu:=λz a x y=>pcT (Eu z a x y) [0,1,1,0,0,1,0,0,1,0,0,1,0,0,1,0,1,1,1] [(0,.S .time z),(3,.A .time a),(4,.I x),(5,.I y),(6,.B [x,y]),(7,.O false)] (rvF F92) (λq=>[(0,.S .time z),(3,.A .time a),(4,.I x),(5,.I y),(6,.B [x,y]),(7,.O q)])
theorem rZ(G:Gd Dd){fr x y z a}:Td fr (Fu x y z a):=fa G (λe=>⟨xn (gL .time e 0 0) (gL .time e 3 0) (gI e 4 0) (gI e 5 0)⟩) λ_=>qZ G
def Gu(x _:List Time)(z a:Int)(b:Bool)(y:Int):TA (List Time) Bool:=.w [inb y (ba .time x),((!(cmp .eql (rd .time x y).A z&&(cmp .eql (rd .time x y).B a&&true)))&&true)=true->inb y (ba .time x),((!(cmp .eql (rd .time x y).A z&&(cmp .eql (rd .time x y).B a&&true)))&&true)=true->(zk (rd .time x y) (Time.mk z a))] (.c (cond (!(cmp .eql (rd .time x y).A z&&(cmp .eql (rd .time x y).B a&&true))) (gj (rd .time x y) (Time.mk z a)) false) (.l (.n false))
 (.l (.n b)))
def Hu:=λz a x y c b=>pcT (Gu z a x y c b) [0,1,0,0,1,0,1,1,1,0,0,1,0,0,1,0,0,1,0,0,1,0,1,1,1] [(0,.S .time z),(3,.A .time a),(4,.I x),(5,.I y),(6,.B [x,y]),(7,.O c),(9,.I b)] (rvF F92) (λq=>[(0,.S .time z),(3,.A .time a),(4,.I x),(5,.I y),(6,.B [x,y]),(7,.O q),(9,.I b)])
theorem sZ(G:Gd Dd){fr x y z a b c}:Td fr (Hu x y z a b c):=ja G
def yn(y a:List Time)(b c:Int)(_ z:Bool)(x:Int):TX (List Time) (Bool×Int) Bool:=.c (cmp .lss x (ba .time y)) (.sn (Hu y a b c z x) (λd=>.l (.n (d,(ar .add .i64 x 1)))))
 (.l (.x z))
def UN:=λz a x y d b c=>pcR (yn z a x y d b c) [0,0,1,0,1,1,1,0,0,1,0,0,1,0,0,1,0,0,1,0,1,1,1] (λq=>[(0,.S .time z),(3,.A .time a),(4,.I x),(5,.I y),(6,.B [x,y]),(7,.O q.1),(9,.I q.2)]) (b,c) (rvF F92) (λq=>(6,[(0,.S .time z),(3,.A .time a),(4,.I x),(5,.I y),(6,.B [x,y]),(7,.O q)]))
theorem tZ(G:Gd Dd){fr x y z a b c d}:Td fr (UN x y z a b c d):=fa G (λe=>⟨Hu (gL .time e 0 0) (gL .time e 3 0) (gI e 4 0) (gI e 5 0) (gB e 7 0) (gI e 9 0)⟩) λ_=>sZ G
def zn:=λy z a b x=>pcL (λs:Bool×Int=>UN y z a b x s.1 s.2) (x,0)
theorem uZ(G:Gd Dd){fr x y z a b}:Td fr (zn x y z a b):=Aa λ_=>tZ G
def Iu(x y:List Time)(z a:Int)(b:Bool):TA (List Time) Bool:=.sx (zn x y z a b) (λc=>.l (.n c))
def Ju:=λz a x y b=>pcT (Iu z a x y b) [0,1,1,1,0,0,1,0,0,1,0,0,1,0,0,1,0,1,1,1] [(0,.S .time z),(3,.A .time a),(4,.I x),(5,.I y),(6,.B [x,y]),(7,.O b)] (rvF F92) (λq=>[(0,.S .time z),(3,.A .time a),(4,.I x),(5,.I y),(6,.B [x,y]),(7,.O q)])
theorem vZ(G:Gd Dd){fr x y z a b}:Td fr (Ju x y z a b):=fa G (λe=>⟨zn (gL .time e 0 0) (gL .time e 3 0) (gI e 4 0) (gI e 5 0) (gB e 7 0)⟩) λ_=>uZ G
def Ku(a x:List Time)(y z:Int):TA (List Time) ((List Time)):=.sn (Fu a x y z) (λb=>.sn (Ju a x y z b) (λc=>.c c (.w [lim (ba .time x) (ba .time [(Time.mk y z)])] (.l (.n (x++[(Time.mk y z)]))))
 (.l (.n x))))
def Lu:=λx a y z=>pcT (Ku x a y z) [0,1,0,0,1,0,0,1,0,0,1,0,1,1,1] [(0,.S .time x),(3,.A .time a),(4,.I y),(5,.I z)] (rvF F92) (λq=>[(0,.S .time x),(3,.A .time q),(4,.I y),(5,.I z)])
theorem wZ(G:Gd Dd){fr x y z a}:Td fr (Lu x y z a):=Nd G [λe=>⟨Fu (gL .time e 0 0) (gL .time e 3 0) (gI e 4 0) (gI e 5 0)⟩,λe=>⟨Ju (gL .time e 0 0) (gL .time e 3 0) (gI e 4 0) (gI e 5 0) (gB e 7 0)⟩] ⟨λ_=>rZ G,λ_=>vZ G,trivial⟩
def Bn(z _:List Time)(a:Int)(y:List Time)(x:Int):TX (List Time) ((List Time)×Int) ((List Time)):=.c (cmp .geq x 0) (.sn (Lu z y a x) (λb=>.l (.n (b,(ar .sub .i64 x 1)))))
 (.l (.x y))
def VN:=λx b y z a=>pcR (Bn x b y z a) [0,0,1,0,0,1,0,0,1,0,1,1,1] (λq=>[(0,.S .time x),(3,.A .time q.1),(4,.I y),(5,.I q.2)]) (z,a) (rvF F92) (λq=>(2,[(0,.S .time x),(3,.A .time q),(4,.I y)]))
theorem xZ(G:Gd Dd){fr x y z a b}:Td fr (VN x y z a b):=fa G (λe=>⟨Lu (gL .time e 0 0) (gL .time e 3 0) (gI e 4 0) (gI e 5 0)⟩) λ_=>wZ G
def Cn:=λy x z=>pcL (λs:(List Time)×Int=>VN y x z s.1 s.2) (x,7)
theorem yZ(G:Gd Dd){fr x y z}:Td fr (Cn x y z):=Aa λ_=>xZ G
def Mu(x y:List Time)(z:Int):TA (List Time) ((List Time)):=.sx (Cn x y z) (λa=>.l (.n a))
def Nu:=λx z y=>pcT (Mu x z y) [0,1,0,0,1,0,1,1,1] [(0,.S .time x),(3,.A .time z),(4,.I y)] (rvF F92) (λq=>[(0,.S .time x),(3,.A .time q),(4,.I y)])
theorem zZ(G:Gd Dd){fr x y z}:Td fr (Nu x y z):=fa G (λe=>⟨Cn (gL .time e 0 0) (gL .time e 3 0) (gI e 4 0)⟩) λ_=>yZ G
def Dn(z y:List Time)(x:Int):TX (List Time) ((List Time)×Int) ((List Time)):=.c (cmp .leq x 7) (.sn (Nu z y x) (λa=>.l (.n (a,(ar .add .i64 x 1)))))
 (.l (.x y))
def WN:=λx y z=>pcR (Dn x y z) [0,0,1,0,1,1,1] (λq=>[(0,.S .time x),(3,.A .time q.1),(4,.I q.2)]) (y,z) (rvF F92) (λq=>(0,[(3,.A .time q)]))
theorem AZ(G:Gd Dd){fr x y z}:Td fr (WN x y z):=fa G (λe=>⟨Nu (gL .time e 0 0) (gL .time e 3 0) (gI e 4 0)⟩) λ_=>zZ G
def En:=λx=>pcL (λs:(List Time)×Int=>WN x s.1 s.2) ([],0)
theorem BZ(G:Gd Dd){fr x}:Td fr (En x):=Aa λ_=>AZ G
def XN(x:List Time):TA (List Time) ((List Time)):=.sx (En x) (λy=>.l (.n y))
def Ou:=λx=>pcT (XN x) [0,1,1,1] [(0,.S .time x),(3,.A .time [])] (rvF F92) (λq=>[(3,.A .time q)])
theorem CZ(G:Gd Dd){fr x}:Td fr (Ou x):=fa G (λe=>⟨En (gL .time e 0 0)⟩) λ_=>BZ G
def Pu(x:List Time):TN (List Time):=.w [Bu x] (.c (!(mG x)) (.l (.r []))
 (.sn (Ou x) (λy=>.l (.r y))))
def DZ:=λx=>pcT (Pu x) [] [(0,.S .time x)] (rvF F92)
theorem EZ(G:Gd Dd){fr x}:Td fr (DZ x):=fa G (λe=>⟨Ou (gL .time e 0 0)⟩) λ_=>CZ G
def Gn(x:List Time):List Time:=ocR (Pu x).val
def Hn(x:List Time):Prop:=(Pu x).ob
def Qu:Spec:=spF [(.lst .time)] (.one (.acc true) (.lst .time)) Gn Hn
theorem FZ(G:Gd Dd):CP 92 Qu:=ua (pts:=[(.lst .time)]) (F:=F92) G λ_ _=>EZ G
def YN:SP:=[(128,kG),(92,Qu)]
abbrev F97:Fnn:=⟨[.tmp 2],.one (.acc true) (.lst .time),some 0,[]⟩
abbrev GZ:=@OkP Tryz.f97 F97
def Ru(x:(LB×Int)):TN ((List Time)×Int):=.k (fj (x.1,x.2) 4) λy=>.w [vu (x.1,x.2) 4,Hn y.1] (.l (.r ((Gn y.1),y.2)))
def HZ:=λx=>pcT (Ru x) [] [(0,.R x.1 x.2)] (rvR F97 x.1)
theorem IZ(G:Gd YN){fr x}:GZ fr (HZ x):=ja G
def Qg(x:(LB×Int)):(List Time)×Int:=ocR (Ru x).val
def Su(x:(LB×Int)):Prop:=(Ru x).ob
def pG:Spec:=spR [.rdr] (.one (.acc true) (.lst .time)) Qg Su
theorem JZ(G:Gd YN):CP 97 pG:=Ze (pts:=[.rdr]) (F:=F97) G (λx=>x.1.1) λ_ _=>IZ G
def In:SP:=[(49,Kh)]
abbrev F57:Fnn:=⟨[.tmp 2],.one .fr .bool,none,[]⟩
abbrev Tu:=@OkP Tryz.f57 F57
def Jn(y:List Time)(x:Int):TX Bool Int Unit:=.c (cmp .lss x (ba .time y)) (.k (oe (rd .time y x)) λz=>.w [inb x (ba .time y),sg (rd .time y x),((cmp .gtr x 0)&&((!(!z))&&true))=true->inb (ar .sub .i64 x 1) (ba .time y),((cmp .gtr x 0)&&((!(!z))&&true))=true->inb x (ba .time y),((!(cmp .geq (rd .time y (ar .sub .i64 x 1)).A (rd .time y x).A))&&((cmp .gtr x 0)&&((!(!z))&&true)))=true->inb (ar .sub .i64 x 1) (ba .time y),((!(cmp .geq (rd .time y (ar .sub .i64 x 1)).A (rd .time y x).A))&&((cmp .gtr x 0)&&((!(!z))&&true)))=true->inb x (ba .time y)] (.c (cond (!z) true (cond (cmp .gtr x 0) (cond (cmp .geq (rd .time y (ar .sub .i64 x 1)).A (rd .time y x).A) true (cmp .leq (rd .time y (ar .sub .i64 x 1)).B (rd .time y x).B)) false)) (.l (.r false))
 (.l (.n (ar .add .i64 x 1)))))
 (.l (.x ()))
def ZN:=λx y=>pcR (Jn x y) [0,0,1,0,1] (λq=>[(0,.S .time x),(3,.I q)]) y (rvF F57) (λ_=>(0,[]))
theorem LZ(G:Gd In){fr x y}:Tu fr (ZN x y):=ja G
def Nn:=λx=>pcL (λs:Int=>ZN x s) 0
theorem MZ(G:Gd In){fr x}:Tu fr (Nn x):=Aa λ_=>LZ G
def aO(x:List Time):TA Bool Unit:=.sx (Nn x) (λ_=>.l (.n ()))
def Uu:=λx=>pcT (aO x) [0,1] [(0,.S .time x)] (rvF F57) (λ_=>[])
theorem NZ(G:Gd In){fr x}:Tu fr (Uu x):=fa G (λe=>⟨Nn (gL .time e 0 0)⟩) λ_=>MZ G
def Vu(x:List Time):TN Bool:=.sn (Uu x) (λ_=>.l (.r true))
def PZ:=λx=>pcT (Vu x) [] [(0,.S .time x)] (rvF F57)
theorem QZ(G:Gd In){fr x}:Tu fr (PZ x):=fa G (λe=>⟨Uu (gL .time e 0 0)⟩) λ_=>NZ G
def mf(x:List Time):Bool:=ocR (Vu x).val
def Rg(x:List Time):Prop:=(Vu x).ob
def ij:Spec:=spF [(.lst .time)] (.one .fr .bool) mf Rg
theorem RZ(G:Gd In):CP 57 ij:=ua (pts:=[(.lst .time)]) (F:=F57) G λ_ _=>QZ G
def bO:SP:=[(49,Kh)]
abbrev F91:Fnn:=⟨[.cell 4 32],.one .fr (.st .time),none,[]⟩
abbrev SZ:=@OkP Tryz.f91 F91
def Pn(x y:Time):TN Time:=.w [sg x,((!(!(oe x)))&&true)=true->(sg y)] (.c (cond (!(oe x)) true (!(oe y))) (.l (.r (Time.mk 0 0)))
 (.l (.r (Time.mk (mx x.A y.A) (mx x.B y.B)))))
def TZ:=λx y=>pcT (Pn x y) [] [(0,.agg true [.i x.A,.i x.B]),(1,.agg true [.i y.A,.i y.B])] (rvF F91)
theorem UZ(G:Gd bO){fr x y}:SZ fr (TZ x y):=ja G
def jj(x:Time)(y:Time):Time:=ocR (Pn x y).val
def Sg(x:Time)(y:Time):Prop:=(Pn x y).ob
def Bk:Spec:=spF [(.st .time),(.st .time)] (.one .fr (.st .time)) jj Sg
theorem VZ(G:Gd bO):CP 91 Bk:=ua (pts:=[(.st .time),(.st .time)]) (F:=F91) G λ_ _=>UZ G
def Lh:SP:=[(57,ij),(91,Bk),(92,Qu)]
abbrev F47:Fnn:=⟨[.tmp 4],.one (.acc true) (.lst .time),none,[]⟩
abbrev lj:=@OkP Tryz.f47 F47
def Wu(z y _:List Time)(a:Int)(b:List Time)(x:Int):TX (List Time) ((List Time)×Int) ((List Time)):=.c (cmp .lss x (ba .time y)) (.k (jj (rd .time z a) (rd .time y x)) λc=>.w [inb a (ba .time z),inb x (ba .time y),Sg (rd .time z a) (rd .time y x),lim (ba .time b) (ba .time [c])] (.l (.n ((b++[c]),(ar .add .i64 x 1)))))
 (.l (.x b))
def cO:=λx y c z a b=>pcR (Wu x y c z a b) [0,0,1,0,0,1,0,0,1,0,1,1,1] (λq=>[(0,.S .time x),(1,.S .time y),(5,.A .time q.1),(6,.I z),(7,.I q.2)]) (a,b) (rvF F47) (λq=>(2,[(0,.S .time x),(1,.S .time y),(5,.A .time q),(6,.I z)]))
theorem WZ(G:Gd Lh){fr x y z a b c}:lj fr (cO x y z a b c):=ja G
def Qn:=λy z x a=>pcL (λs:(List Time)×Int=>cO y z x a s.1 s.2) (x,0)
theorem XZ(G:Gd Lh){fr x y z a}:lj fr (Qn x y z a):=Aa λ_=>WZ G
def dO(x y z:List Time)(a:Int):TA (List Time) ((List Time)):=.sx (Qn x y z a) (λb=>.l (.n b))
def Xu:=λx y a z=>pcT (dO x y a z) [0,1,0,0,1,0,1,1,1] [(0,.S .time x),(1,.S .time y),(5,.A .time a),(6,.I z)] (rvF F47) (λq=>[(0,.S .time x),(1,.S .time y),(5,.A .time q),(6,.I z)])
theorem YZ(G:Gd Lh){fr x y z a}:lj fr (Xu x y z a):=fa G (λe=>⟨Qn (gL .time e 0 0) (gL .time e 1 0) (gL .time e 5 0) (gI e 6 0)⟩) λ_=>XZ G
def Yu(y a z:List Time)(x:Int):TX (List Time) ((List Time)×Int) ((List Time)):=.c (cmp .lss x (ba .time y)) (.sn (Xu y a z x) (λb=>.l (.n (b,(ar .add .i64 x 1)))))
 (.l (.x z))
def eO:=λx y z a=>pcR (Yu x y z a) [0,0,1,0,1,1,1] (λq=>[(0,.S .time x),(1,.S .time y),(5,.A .time q.1),(6,.I q.2)]) (z,a) (rvF F47) (λq=>(0,[(5,.A .time q)]))
theorem ZZ(G:Gd Lh){fr x y z a}:lj fr (eO x y z a):=fa G (λe=>⟨Xu (gL .time e 0 0) (gL .time e 1 0) (gL .time e 5 0) (gI e 6 0)⟩) λ_=>YZ G
def Rn:=λx y=>pcL (λs:(List Time)×Int=>eO x y s.1 s.2) ([],0)
theorem j0(G:Gd Lh){fr x y}:lj fr (Rn x y):=Aa λ_=>ZZ G
def fO(x y:List Time):TA (List Time) ((List Time)):=.sx (Rn x y) (λz=>.l (.n z))
def Zu:=λx y=>pcT (fO x y) [0,1,1,1] [(0,.S .time x),(1,.S .time y),(5,.A .time [])] (rvF F47) (λq=>[(5,.A .time q)])
theorem G0(G:Gd Lh){fr x y}:lj fr (Zu x y):=fa G (λe=>⟨Rn (gL .time e 0 0) (gL .time e 1 0)⟩) λ_=>j0 G
def bv(x y:List Time):TN (List Time):=.w [Rg x,((!(!(mf x)))&&true)=true->(Rg y)] (.c (cond (!(mf x)) true (!(mf y))) (.l (.r []))
 (.sn (Zu x y) (λz=>.w [Hn z] (.l (.r (Gn z))))))
def H0:=λx y=>pcT (bv x y) [] [(0,.S .time x),(1,.S .time y)] (rvF F47)
theorem O0(G:Gd Lh){fr x y}:lj fr (H0 x y):=fa G (λe=>⟨Zu (gL .time e 0 0) (gL .time e 1 0)⟩) λ_=>G0 G
def cv(x:List Time)(y:List Time):List Time:=ocR (bv x y).val
def dv(x:List Time)(y:List Time):Prop:=(bv x y).ob
def qG:Spec:=spF [(.lst .time),(.lst .time)] (.one (.acc true) (.lst .time)) cv dv
theorem P0(G:Gd Lh):CP 47 qG:=ua (pts:=[(.lst .time),(.lst .time)]) (F:=F47) G λ_ _=>O0 G
def gO:SP:=[(97,pG),(44,Of),(47,qG)]
abbrev F56:Fnn:=⟨[.tmp 4],.one (.acc true) (.lst .time),some 0,[]⟩
abbrev Q0:=@OkP Tryz.f56 F56
def ev(x:(LB×Int))(a:Sess):TN ((List Time)×Int):=.k (Qg (x.1,x.2)) λy=>.w [Su (x.1,x.2)] (.k (ia (x.1,y.2) 10) λz=>.w [Lb (x.1,y.2) 10] (.c (cmp .eql z.1 0) (.l (.r (y.1,z.2)))
 (.w [dv a.Front y.1] (.l (.r ((cv a.Front y.1),z.2))))))
def T0:=λy x=>pcT (ev y x) [] [(0,.R y.1 y.2),(1,.agg false [.i x.Plan.Kind,.i x.Plan.Num,.lst .plan x.Plan.Kids,.lst .lrow x.Ins,.lst .time x.Front,.lst .row x.Told])] (rvR F56 y.1)
theorem U0(G:Gd gO){fr x y}:Q0 fr (T0 x y):=ja G
def Ud(x:(LB×Int))(y:Sess):(List Time)×Int:=ocR (ev x y).val
def fv(x:(LB×Int))(y:Sess):Prop:=(ev x y).ob
def rG:Spec:=spR [.rdr,(.st .sess)] (.one (.acc true) (.lst .time)) Ud fv
theorem V0(G:Gd gO):CP 56 rG:=Ze (pts:=[.rdr,(.st .sess)]) (F:=F56) G (λx=>x.1.1) λ_ _=>U0 G
def iO:SP:=[(77,wk),(49,Kh)]
abbrev sG:Fnn:=⟨[.tmp 2],.one .fr .bool,none,[]⟩
abbrev X0:=@OkP Tryz.f126 sG
def tG(x:Row):TN Bool:=.k (xd x.Key 0 3) λy=>.k (xd x.Val 0 99) λz=>.k (oe x.At) λa=>.w [rg x.Key 0 3,(y&&true)=true->(rg x.Val 0 99),((cond y z false)&&true)=true->(sg x.At),((cond (cond y z false) a false)&&true)=true->(rg x.Diff (-99999) 99999)] (.l (.r (cond (cond (cond y z false) a false) (xd x.Diff (-99999) 99999) false)))
def Y0:=λx=>pcT (tG x) [] [(0,.agg true [.i x.Key,.i x.Val,.i x.At.A,.i x.At.B,.i x.Diff])] (rvF sG)
theorem Z0(G:Gd iO){fr x}:X0 fr (Y0 x):=ja G
def uG(x:Row):Bool:=ocR (tG x).val
def vG(x:Row):Prop:=(tG x).ob
def wG:Spec:=spF [(.st .row)] (.one .fr .bool) uG vG
theorem C1(G:Gd iO):CP 126 wG:=ua (pts:=[(.st .row)]) (F:=sG) G λ_ _=>Z0 G
def Sn:SP:=[(126,wG)]
abbrev F93:Fnn:=⟨[.tmp 2],.one .fr .bool,none,[]⟩
abbrev gv:=@OkP Tryz.f93 F93
def iv(y:LR)(x:Int):TX Bool Int Unit:=.c (cmp .lss x (ba .row y)) (.w [inb x (ba .row y),vG (rd .row y x)] (.c (!(uG (rd .row y x))) (.l (.r false))
 (.l (.n (ar .add .i64 x 1)))))
 (.l (.x ()))
def jO:=λx y=>pcR (iv x y) [0,0,1,0,1,1] (λq=>[(0,.S .row x),(3,.I q)]) y (rvF F93) (λ_=>(0,[]))
theorem D1(G:Gd Sn){fr x y}:gv fr (jO x y):=ja G
def Tn:=λx=>pcL (λs:Int=>jO x s) 0
theorem H1(G:Gd Sn){fr x}:gv fr (Tn x):=Aa λ_=>D1 G
def kO(x:LR):TA Bool Unit:=.sx (Tn x) (λ_=>.l (.n ()))
def jv:=λx=>pcT (kO x) [0,1,1] [(0,.S .row x)] (rvF F93) (λ_=>[])
theorem I1(G:Gd Sn){fr x}:gv fr (jv x):=fa G (λe=>⟨Tn (gL .row e 0 0)⟩) λ_=>H1 G
def lv(x:LR):TN Bool:=.c (cmp .gtr (ba .row x) 400) (.l (.r false))
 (.sn (jv x) (λ_=>.l (.r true)))
def J1:=λx=>pcT (lv x) [] [(0,.S .row x)] (rvF F93)
theorem L1(G:Gd Sn){fr x}:gv fr (J1 x):=fa G (λe=>⟨jv (gL .row e 0 0)⟩) λ_=>I1 G
def Ug(x:LR):Bool:=ocR (lv x).val
def Mh(x:LR):Prop:=(lv x).ob
def mj:Spec:=spF [(.lst .row)] (.one .fr .bool) Ug Mh
theorem Q1(G:Gd Sn):CP 93 mj:=ua (pts:=[(.lst .row)]) (F:=F93) G λ_ _=>L1 G
def Un:SP:=[]
abbrev Vn:Fnn:=⟨[.tmp 4],.one .fr (.int .i64),none,[]⟩
abbrev nv:=@OkP Tryz.f113 Vn
def Vg(y z:LB)(x:Int):TX Int Int Unit:=.c (cmp .lss x (ba .int y)) (.w [inb x (ba .int y),inb x (ba .int z)] (.c (cmp .lss (rd .int y x) (rd .int z x)) (.l (.r (-1)))
 (.w [inb x (ba .int y),inb x (ba .int z)] (.c (cmp .gtr (rd .int y x) (rd .int z x)) (.l (.r 1))
 (.l (.n (ar .add .i64 x 1)))))))
 (.l (.x ()))
def lO:=λx y z=>pcR (Vg x y z) [0,0,1,0,1,1,1] (λq=>[(5,.A .int x),(6,.A .int y),(7,.I q)]) z (rvF Vn) (λ_=>(0,[]))
theorem R1(G:Gd Un){fr x y z}:nv fr (lO x y z):=ja G
def Wn:=λx y=>pcL (λs:Int=>lO x y s) 0
theorem U1(G:Gd Un){fr x y}:nv fr (Wn x y):=Aa λ_=>R1 G
def mO(x y:LB):TA Int Unit:=.sx (Wn x y) (λ_=>.l (.n ()))
def ov:=λx y=>pcT (mO x y) [0,1,1,1] [(5,.A .int x),(6,.A .int y)] (rvF Vn) (λ_=>[])
theorem V1(G:Gd Un){fr x y}:nv fr (ov x y):=fa G (λe=>⟨Wn (gL .int e 5 0) (gL .int e 6 0)⟩) λ_=>U1 G
def qv(x y:Row):TN Int:=.sn (ov [x.Key,x.Val,x.At.A,x.At.B] [y.Key,y.Val,y.At.A,y.At.B]) (λ_=>.l (.r 0))
def X1:=λx y=>pcT (qv x y) [] [(0,.agg true [.i x.Key,.i x.Val,.i x.At.A,.i x.At.B,.i x.Diff]),(1,.agg true [.i y.Key,.i y.Val,.i y.At.A,.i y.At.B,.i y.Diff])] (rvF Vn)
theorem Y1(G:Gd Un){fr x y}:nv fr (X1 x y):=fa G (λe=>⟨ov (gL .int e 5 0) (gL .int e 6 0)⟩) λ_=>V1 G
def nj(x:Row)(y:Row):Int:=ocR (qv x y).val
def Xn(x:Row)(y:Row):Prop:=(qv x y).ob
def uv:Spec:=spF [(.st .row),(.st .row)] (.one .fr (.int .i64)) nj Xn
theorem Z1(G:Gd Un):CP 113 uv:=ua (pts:=[(.st .row),(.st .row)]) (F:=Vn) G λ_ _=>Y1 G
def Yn:SP:=[(93,mj),(113,uv)]
abbrev F78:Fnn:=⟨[.tmp 2],.one .fr .bool,none,[]⟩
abbrev wv:=@OkP Tryz.f78 F78
def Zn(y:LR)(x:Int):TX Bool Int Unit:=.c (cmp .lss x (ba .row y)) (.w [inb x (ba .row y),((cmp .gtr x 0)&&((!(cmp .eql (rd .row y x).Diff 0))&&true))=true->inb (ar .sub .i64 x 1) (ba .row y),((cmp .gtr x 0)&&((!(cmp .eql (rd .row y x).Diff 0))&&true))=true->inb x (ba .row y),((cmp .gtr x 0)&&((!(cmp .eql (rd .row y x).Diff 0))&&true))=true->(Xn (rd .row y (ar .sub .i64 x 1)) (rd .row y x))] (.c (cond (cmp .eql (rd .row y x).Diff 0) true (cond (cmp .gtr x 0) (cmp .geq (nj (rd .row y (ar .sub .i64 x 1)) (rd .row y x)) 0) false)) (.l (.r false))
 (.l (.n (ar .add .i64 x 1)))))
 (.l (.x ()))
def nO:=λx y=>pcR (Zn x y) [0,0,1,0,1,1] (λq=>[(0,.S .row x),(3,.I q)]) y (rvF F78) (λ_=>(0,[]))
theorem C2(G:Gd Yn){fr x y}:wv fr (nO x y):=ja G
def ao:=λx=>pcL (λs:Int=>nO x s) 0
theorem D2(G:Gd Yn){fr x}:wv fr (ao x):=Aa λ_=>C2 G
def oO(x:LR):TA Bool Unit:=.sx (ao x) (λ_=>.l (.n ()))
def xv:=λx=>pcT (oO x) [0,1,1] [(0,.S .row x)] (rvF F78) (λ_=>[])
theorem H2(G:Gd Yn){fr x}:wv fr (xv x):=fa G (λe=>⟨ao (gL .row e 0 0)⟩) λ_=>D2 G
def yv(x:LR):TN Bool:=.w [Mh x] (.c (!(Ug x)) (.l (.r false))
 (.sn (xv x) (λ_=>.l (.r true))))
def I2:=λx=>pcT (yv x) [] [(0,.S .row x)] (rvF F78)
theorem J2(G:Gd Yn){fr x}:wv fr (I2 x):=fa G (λe=>⟨xv (gL .row e 0 0)⟩) λ_=>H2 G
def Wg(x:LR):Bool:=ocR (yv x).val
def Nh(x:LR):Prop:=(yv x).ob
def Ck:Spec:=spF [(.lst .row)] (.one .fr .bool) Wg Nh
theorem L2(G:Gd Yn):CP 78 Ck:=ua (pts:=[(.lst .row)]) (F:=F78) G λ_ _=>J2 G
def pO:SP:=[]
abbrev xG:Fnn:=⟨[.tmp 6,.tmp 7,.tmp 8],.tup [(true,(.int .i64)),(true,(.int .i64)),(true,.bool)],none,[]⟩
abbrev R2:=@OkP Tryz.f162 xG
def Av(y x z:Int):TN (Int×Int×Bool×Unit):=.c (cmp .eql z 1) (.w [(4:Int)≠0,(4:Int)≠0] (.l (.r ((ar .rem .i64 x 4),((ar .add .i64 (ar .mul .i64 (ar .quo .i64 x 4) 4) y),(true,()))))))
 (.c (cmp .eql z 2) (.w [(100:Int)≠0] (.l (.r (y,((ar .rem .i64 (ar .add .i64 x 1) 100),(true,()))))))
 (.c (cmp .eql z 3) (.w [(4:Int)≠0] (.l (.r ((ar .rem .i64 x 4),(x,(true,()))))))
 (.c (cmp .eql z 4) (.l (.r (0,(x,(true,())))))
 (.c (cmp .eql z 5) (.w [(2:Int)≠0] (.l (.r (y,(x,((cmp .eql (ar .rem .i64 x 2) 0),()))))))
 (.c (cmp .eql z 6) (.w [(2:Int)≠0] (.l (.r (y,(x,((cmp .eql (ar .rem .i64 y 2) 0),()))))))
 (.l (.r (y,(x,((cmp .lss x 10),()))))))))))
def U2:=λx y z=>pcT (Av x y z) [] [(0,.I x),(1,.I y),(2,.I z)] (rvF xG)
theorem V2(G:Gd pO){fr x y z}:R2 fr (U2 x y z):=ja G
def Bv(x:Int)(y:Int)(z:Int):Int×Int×Bool×Unit:=ocR (Av x y z).val
def Cv(x:Int)(y:Int)(z:Int):Prop:=(Av x y z).ob
def yG:Spec:=spF [(.int .i64),(.int .i64),(.int .i64)] (.tup [(true,(.int .i64)),(true,(.int .i64)),(true,.bool)]) Bv Cv
theorem X2(G:Gd pO):CP 162 yG:=ua (pts:=[(.int .i64),(.int .i64),(.int .i64)]) (F:=xG) G λ_ _=>V2 G
def Oh:SP:=[(113,uv)]
abbrev Ph:Fnn:=⟨[.tmp 4],.one (.acc true) (.lst .row),none,[]⟩
abbrev pj:=@OkP Tryz.f101 Ph
def qO(_:LR)(y z a b c:Int)(x:LR)(d:Bool)(_ f:Int):TA LR (LR×Bool):=.c (cond (!d) (cmp .gtr f 0) false) (.w [lim (ba .row x) (ba .row [(Row.mk y z (Time.mk a b) c)])] (.l (.n ((x++[(Row.mk y z (Time.mk a b) c)]),true))))
 (.l (.n (x,d)))
def Ev:=λx y z a b c g h d f=>pcT (qO x y z a b c g h d f) [0,1,0,0,1,0,0,1,0,1,1,1] [(0,.S .row x),(3,.B [y,z,a,b,c]),(5,.A .row g),(6,.O h),(7,.I d),(8,.I f)] (rvF Ph) (λq=>[(0,.S .row x),(3,.B [y,z,a,b,c]),(5,.A .row q.1),(6,.O q.2),(7,.I d),(8,.I f)])
theorem Y2(G:Gd Oh){fr x y z a b c d f g h}:pj fr (Ev x y z a b c d f g h):=ja G
def rO(x:LR)(b c d f z:Int)(h:LR)(i:Bool)(y:Int):TA LR (Int×LR×Bool):=.k (nj (rd .row x y) (Row.mk b c (Time.mk d f) z)) λg=>.w [inb y (ba .row x),Xn (rd .row x y) (Row.mk b c (Time.mk d f) z)] (.sn (Ev x b c d f z h i y g) (λa=>.c (cond (!a.2) (cmp .eql g 0) false) (.w [inb y (ba .row x)] (.w [lim (ba .row a.1) (ba .row [(Row.mk b c (Time.mk d f) (ar .add .i64 z (rd .row x y).Diff))])] (.l (.n ((ar .add .i64 z (rd .row x y).Diff),(a.1++[(Row.mk b c (Time.mk d f) (ar .add .i64 z (rd .row x y).Diff))]),true)))))
 (.w [inb y (ba .row x),lim (ba .row a.1) (ba .row [(rd .row x y)])] (.l (.n (z,(a.1++[(rd .row x y)]),a.2))))))
def eo:=λx y z a b d f g c=>pcT (rO x y z a b d f g c) [0,1,0,0,1,0,1,1,1] [(0,.S .row x),(3,.B [y,z,a,b,d]),(5,.A .row f),(6,.O g),(7,.I c)] (rvF Ph) (λq=>[(0,.S .row x),(3,.B [y,z,a,b,q.1]),(5,.A .row q.2.1),(6,.O q.2.2),(7,.I c)])
theorem Z2(G:Gd Oh){fr x y z a b c d f g}:pj fr (eo x y z a b c d f g):=fa G (λe=>⟨Ev (gL .row e 0 0) (gI e 3 0) (gI e 3 1) (gI e 3 2) (gI e 3 3) (gI e 3 4) (gL .row e 5 0) (gB e 6 0) (gI e 7 0) (gI e 8 0)⟩) λ_=>Y2 G
def Qh(a:LR)(x:Row)(b:Int)(c:LR)(d:Bool)(y:Int):TX LR (Int×LR×Bool×Int) (Int×LR×Bool):=.c (cmp .lss y (ba .row a)) (.sn (eo a x.Key x.Val x.At.A x.At.B b c d y) (λz=>.l (.n (z.1,z.2.1,z.2.2,(ar .add .i64 y 1)))))
 (.l (.x (b,c,d)))
def sO:=λy x z a b c=>pcR (Qh y x z a b c) [0,0,1,0,1,1,1] (λq=>[(0,.S .row y),(3,.B [x.Key,x.Val,x.At.A,x.At.B,q.1]),(5,.A .row q.2.1),(6,.O q.2.2.1),(7,.I q.2.2.2)]) (z,a,b,c) (rvF Ph) (λq=>(0,[(3,.B [x.Key,x.Val,x.At.A,x.At.B,q.1]),(5,.A .row q.2.1),(6,.O q.2.2)]))
theorem C3(G:Gd Oh){fr x y z a b c}:pj fr (sO x y z a b c):=fa G (λe=>⟨eo (gL .row e 0 0) (gI e 3 0) (gI e 3 1) (gI e 3 2) (gI e 3 3) (gI e 3 4) (gL .row e 5 0) (gB e 6 0) (gI e 7 0)⟩) λ_=>Z2 G
def fo:=λy x=>pcL (λs:Int×LR×Bool×Int=>sO y x s.1 s.2.1 s.2.2.1 s.2.2.2) (x.Diff,[],false,0)
theorem D3(G:Gd Oh){fr x y}:pj fr (fo x y):=Aa λ_=>C3 G
def tO(y:LR)(z:Row):TA LR (Int×LR×Bool):=.sx (fo y z) (λx=>.l (.n (x.1,x.2.1,x.2.2)))
def Fv:=λy x=>pcT (tO y x) [0,1,1,1] [(0,.S .row y),(3,.B [x.Key,x.Val,x.At.A,x.At.B,x.Diff]),(5,.A .row []),(6,.O false)] (rvF Ph) (λq=>[(3,.B [x.Key,x.Val,x.At.A,x.At.B,q.1]),(5,.A .row q.2.1),(6,.O q.2.2)])
theorem E3(G:Gd Oh){fr x y}:pj fr (Fv x y):=fa G (λe=>⟨fo (gL .row e 0 0) (gRow e 3)⟩) λ_=>D3 G
def zG(y z a b c:Int)(x:LR)(d:Bool):TA LR LR:=.c (!d) (.w [lim (ba .row x) (ba .row [(Row.mk y z (Time.mk a b) c)])] (.l (.n (x++[(Row.mk y z (Time.mk a b) c)]))))
 (.l (.n x))
def Gv:=λx y z a b c d=>pcT (zG x y z a b c d) [0,1,1,1,1] [(3,.B [x,y,z,a,b]),(5,.A .row c),(6,.O d)] (rvF Ph) (λq=>[(5,.A .row q)])
theorem H3(G:Gd Oh){fr x y z a b c d}:pj fr (Gv x y z a b c d):=ja G
def Hv(z:LR)(x:Row):TN LR:=.sn (Fv z x) (λy=>.sn (Gv x.Key x.Val x.At.A x.At.B y.1 y.2.1 y.2.2) (λa=>.l (.r a)))
def I3:=λy x=>pcT (Hv y x) [] [(0,.S .row y),(1,.agg true [.i x.Key,.i x.Val,.i x.At.A,.i x.At.B,.i x.Diff])] (rvF Ph)
theorem J3(G:Gd Oh){fr x y}:pj fr (I3 x y):=Nd G [λe=>⟨Fv (gL .row e 0 0) (gRow e 3)⟩,λe=>⟨Gv (gI e 3 0) (gI e 3 1) (gI e 3 2) (gI e 3 3) (gI e 3 4) (gL .row e 5 0) (gB e 6 0)⟩] ⟨λ_=>E3 G,λ_=>H3 G,trivial⟩
def Iv(x:LR)(y:Row):LR:=ocR (Hv x y).val
def Jv(x:LR)(y:Row):Prop:=(Hv x y).ob
def AG:Spec:=spF [(.lst .row),(.st .row)] (.one (.acc true) (.lst .row)) Iv Jv
theorem L3(G:Gd Oh):CP 101 AG:=ua (pts:=[(.lst .row),(.st .row)]) (F:=Ph) G λ_ _=>J3 G
def Xg:SP:=[(101,AG)]
abbrev F61:Fnn:=⟨[.tmp 2],.one (.acc true) (.lst .row),none,[]⟩
abbrev Rh:=@OkP Tryz.f61 F61
def Kv(y z:LR)(x:Int):TX LR (LR×Int) LR:=.c (cmp .lss x (ba .row y)) (.w [inb x (ba .row y),Jv z (rd .row y x)] (.l (.n ((Iv z (rd .row y x)),(ar .add .i64 x 1)))))
 (.l (.x z))
def uO:=λx y z=>pcR (Kv x y z) [0,0,1,0,1,1] (λq=>[(0,.S .row x),(3,.A .row q.1),(4,.I q.2)]) (y,z) (rvF F61) (λq=>(0,[(3,.A .row q)]))
theorem P3(G:Gd Xg){fr x y z}:Rh fr (uO x y z):=ja G
def jo:=λx=>pcL (λs:LR×Int=>uO x s.1 s.2) ([],0)
theorem Q3(G:Gd Xg){fr x}:Rh fr (jo x):=Aa λ_=>P3 G
def vO(x:LR):TA LR LR:=.sx (jo x) (λy=>.l (.n y))
def Lv:=λx=>pcT (vO x) [0,1,1] [(0,.S .row x),(3,.A .row [])] (rvF F61) (λq=>[(3,.A .row q)])
theorem R3(G:Gd Xg){fr x}:Rh fr (Lv x):=fa G (λe=>⟨jo (gL .row e 0 0)⟩) λ_=>Q3 G
def wO(x z:LR)(y:Int):TA LR LR:=.w [inb y (ba .row x)] (.c (cmp .neq (rd .row x y).Diff 0) (.w [inb y (ba .row x),lim (ba .row z) (ba .row [(rd .row x y)])] (.l (.n (z++[(rd .row x y)]))))
 (.l (.n z)))
def ko:=λx z y=>pcT (wO x z y) [0,1,0,0,1,0,1,1,1,1] [(3,.A .row x),(5,.A .row z),(6,.I y)] (rvF F61) (λq=>[(3,.A .row x),(5,.A .row q),(6,.I y)])
theorem U3(G:Gd Xg){fr x y z}:Rh fr (ko x y z):=ja G
def Mv(y z:LR)(x:Int):TX LR (LR×Int) LR:=.c (cmp .lss x (ba .row y)) (.sn (ko y z x) (λa=>.l (.n (a,(ar .add .i64 x 1)))))
 (.l (.x z))
def xO:=λx y z=>pcR (Mv x y z) [0,0,1,0,1,1,1,1] (λq=>[(3,.A .row x),(5,.A .row q.1),(6,.I q.2)]) (y,z) (rvF F61) (λq=>(2,[(5,.A .row q)]))
theorem V3(G:Gd Xg){fr x y z}:Rh fr (xO x y z):=fa G (λe=>⟨ko (gL .row e 3 0) (gL .row e 5 0) (gI e 6 0)⟩) λ_=>U3 G
def mo:=λx=>pcL (λs:LR×Int=>xO x s.1 s.2) ([],0)
theorem X3(G:Gd Xg){fr x}:Rh fr (mo x):=Aa λ_=>V3 G
def yO(x:LR):TA LR LR:=.sx (mo x) (λy=>.l (.n y))
def Nv:=λx=>pcT (yO x) [0,1,1,1,1] [(3,.A .row x),(5,.A .row [])] (rvF F61) (λq=>[(5,.A .row q)])
theorem Y3(G:Gd Xg){fr x}:Rh fr (Nv x):=fa G (λe=>⟨mo (gL .row e 3 0)⟩) λ_=>X3 G
def Ov(x:LR):TN LR:=.sn (Lv x) (λy=>.sn (Nv y) (λz=>.l (.r z)))
def Z3:=λx=>pcT (Ov x) [] [(0,.S .row x)] (rvF F61)
theorem B4(G:Gd Xg){fr x}:Rh fr (Z3 x):=Nd G [λe=>⟨Lv (gL .row e 0 0)⟩,λe=>⟨Nv (gL .row e 3 0)⟩] ⟨λ_=>R3 G,λ_=>Y3 G,trivial⟩
def He(x:LR):LR:=ocR (Ov x).val
def nf(x:LR):Prop:=(Ov x).ob
def Pf:Spec:=spF [(.lst .row)] (.one (.acc true) (.lst .row)) He nf
theorem C4(G:Gd Xg):CP 61 Pf:=ua (pts:=[(.lst .row)]) (F:=F61) G λ_ _=>B4 G
def Dk:SP:=[(162,yG),(61,Pf)]
abbrev Fk:Fnn:=⟨[.tmp 4],.one (.acc true) (.lst .row),none,[]⟩
abbrev po:=@OkP Tryz.f130 Fk
def zO(x:LR)(b:Int)(a:LR)(y:Int):TA LR LR:=.k (Bv (rd .row x y).Key (rd .row x y).Val b) λz=>.w [inb y (ba .row x),inb y (ba .row x),Cv (rd .row x y).Key (rd .row x y).Val b] (.c z.2.2.1 (.w [inb y (ba .row x),inb y (ba .row x),lim (ba .row a) (ba .row [(Row.mk z.1 z.2.1 (rd .row x y).At (rd .row x y).Diff)])] (.l (.n (a++[(Row.mk z.1 z.2.1 (rd .row x y).At (rd .row x y).Diff)]))))
 (.l (.n a)))
def Pv:=λx y a z=>pcT (zO x y a z) [0,1,0,0,1,0,1,1] [(0,.S .row x),(1,.I y),(5,.A .row a),(6,.I z)] (rvF Fk) (λq=>[(0,.S .row x),(1,.I y),(5,.A .row q),(6,.I z)])
theorem D4(G:Gd Dk){fr x y z a}:po fr (Pv x y z a):=ja G
def Qv(y:LR)(a:Int)(z:LR)(x:Int):TX LR (LR×Int) LR:=.c (cmp .lss x (ba .row y)) (.sn (Pv y a z x) (λb=>.l (.n (b,(ar .add .i64 x 1)))))
 (.l (.x z))
def AO:=λx y z a=>pcR (Qv x y z a) [0,0,1,0,1,1] (λq=>[(0,.S .row x),(1,.I y),(5,.A .row q.1),(6,.I q.2)]) (z,a) (rvF Fk) (λq=>(0,[(5,.A .row q)]))
theorem E4(G:Gd Dk){fr x y z a}:po fr (AO x y z a):=fa G (λe=>⟨Pv (gL .row e 0 0) (gI e 1 0) (gL .row e 5 0) (gI e 6 0)⟩) λ_=>D4 G
def qo:=λx y=>pcL (λs:LR×Int=>AO x y s.1 s.2) ([],0)
theorem H4(G:Gd Dk){fr x y}:po fr (qo x y):=Aa λ_=>E4 G
def BO(x:LR)(y:Int):TA LR LR:=.sx (qo x y) (λz=>.l (.n z))
def Rv:=λx y=>pcT (BO x y) [0,1,1] [(0,.S .row x),(1,.I y),(5,.A .row [])] (rvF Fk) (λq=>[(5,.A .row q)])
theorem I4(G:Gd Dk){fr x y}:po fr (Rv x y):=fa G (λe=>⟨qo (gL .row e 0 0) (gI e 1 0)⟩) λ_=>H4 G
def Sv(y:LR)(z:Int):TN LR:=.sn (Rv y z) (λx=>.w [nf x] (.l (.r (He x))))
def J4:=λx y=>pcT (Sv x y) [] [(0,.S .row x),(1,.I y)] (rvF Fk)
theorem L4(G:Gd Dk){fr x y}:po fr (J4 x y):=fa G (λe=>⟨Rv (gL .row e 0 0) (gI e 1 0)⟩) λ_=>I4 G
def Tv(x:LR)(y:Int):LR:=ocR (Sv x y).val
def Uv(x:LR)(y:Int):Prop:=(Sv x y).ob
def BG:Spec:=spF [(.lst .row),(.int .i64)] (.one (.acc true) (.lst .row)) Tv Uv
theorem P4(G:Gd Dk):CP 130 BG:=ua (pts:=[(.lst .row),(.int .i64)]) (F:=Fk) G λ_ _=>L4 G
def CO:SP:=[(78,Ck)]
abbrev CG:Fnn:=⟨[.tmp 2],.one .sh (.lst .row),none,[]⟩
abbrev Q4:=@OkP Tryz.f102 CG
def Vv(x:LR):TN LR:=.w [Nh x] (.c (!(Wg x)) (.l (.r []))
 (.l (.r x)))
def R4:=λx=>pcT (Vv x) [] [(0,.S .row x)] (rvF CG)
theorem U4(G:Gd CO){fr x}:Q4 fr (R4 x):=ja G
def ro(x:LR):LR:=ocR (Vv x).val
def uo(x:LR):Prop:=(Vv x).ob
def Wv:Spec:=spF [(.lst .row)] (.one .sh (.lst .row)) ro uo
theorem V4(G:Gd CO):CP 102 Wv:=ua (pts:=[(.lst .row)]) (F:=CG) G λ_ _=>U4 G
def vo:SP:=[(93,mj),(61,Pf),(102,Wv)]
abbrev F62:Fnn:=⟨[.tmp 2],.one .sh (.lst .row),none,[]⟩
abbrev Xv:=@OkP Tryz.f62 F62
def Yv(x z:LR)(y:Int):TX LR (LR×Int) LR:=.w [((cmp .lss y (ba .row x))&&true)=true->(Mh x)] (.c (cond (cmp .lss y (ba .row x)) (Ug x) false) (.w [inb y (ba .row x)] (.w [lim (ba .row z) (ba .row [(Row.mk (rd .row x y).Key (rd .row x y).Val (rd .row x y).At (IntKind.wrap .i64 (0 - (rd .row x y).Diff)))])] (.l (.n ((z++[(Row.mk (rd .row x y).Key (rd .row x y).Val (rd .row x y).At (IntKind.wrap .i64 (0 - (rd .row x y).Diff)))]),(ar .add .i64 y 1))))))
 (.l (.x z)))
def DO:=λx y z=>pcR (Yv x y z) [0,0,1,0,1,1] (λq=>[(0,.S .row x),(3,.A .row q.1),(4,.I q.2)]) (y,z) (rvF F62) (λq=>(0,[(3,.A .row q)]))
theorem X4(G:Gd vo){fr x y z}:Xv fr (DO x y z):=ja G
def wo:=λx=>pcL (λs:LR×Int=>DO x s.1 s.2) ([],0)
theorem Y4(G:Gd vo){fr x}:Xv fr (wo x):=Aa λ_=>X4 G
def EO(x:LR):TA LR LR:=.sx (wo x) (λy=>.l (.n y))
def Zv:=λx=>pcT (EO x) [0,1,1] [(0,.S .row x),(3,.A .row [])] (rvF F62) (λq=>[(3,.A .row q)])
theorem Z4(G:Gd vo){fr x}:Xv fr (Zv x):=fa G (λe=>⟨wo (gL .row e 0 0)⟩) λ_=>Y4 G
def aw(y:LR):TN LR:=.sn (Zv y) (λx=>.w [nf x,uo (He x)] (.l (.r (ro (He x)))))
def l5:=λx=>pcT (aw x) [] [(0,.S .row x)] (rvF F62)
theorem B5(G:Gd vo){fr x}:Xv fr (l5 x):=fa G (λe=>⟨Zv (gL .row e 0 0)⟩) λ_=>Z4 G
def qj(x:LR):LR:=ocR (aw x).val
def xo(x:LR):Prop:=(aw x).ob
def bw:Spec:=spF [(.lst .row)] (.one .sh (.lst .row)) qj xo
theorem C5(G:Gd vo):CP 62 bw:=ua (pts:=[(.lst .row)]) (F:=F62) G λ_ _=>B5 G
def FO:SP:=[]
abbrev DG:Fnn:=⟨[.tmp 4],.one .fr (.int .i64),none,[]⟩
abbrev D5:=@OkP Tryz.f163 DG
def EG(x y:Int):TN Int:=.w [(100:Int)≠0] (.l (.r (ar .rem .i64 (ar .add .i64 (ar .mul .i64 x 10) y) 100)))
def E5:=λx y=>pcT (EG x y) [] [(0,.I x),(1,.I y)] (rvF DG)
theorem H5(G:Gd FO){fr x y}:D5 fr (E5 x y):=ja G
def FG(x:Int)(y:Int):Int:=ocR (EG x y).val
def GG(x:Int)(y:Int):Prop:=(EG x y).ob
def HG:Spec:=spF [(.int .i64),(.int .i64)] (.one .fr (.int .i64)) FG GG
theorem I5(G:Gd FO):CP 163 HG:=ua (pts:=[(.int .i64),(.int .i64)]) (F:=DG) G λ_ _=>H5 G
def Yg:SP:=[(163,HG),(91,Bk),(61,Pf)]
abbrev Th:Fnn:=⟨[.tmp 4],.one (.acc true) (.lst .row),none,[]⟩
abbrev Uh:=@OkP Tryz.f131 Th
def GO(x z b:LR)(y a:Int):TA LR LR:=.w [inb y (ba .row x),inb a (ba .row z)] (.c (cmp .eql (rd .row x y).Key (rd .row z a).Key) (.k (FG (rd .row x y).Val (rd .row z a).Val) λc=>.k (jj (rd .row x y).At (rd .row z a).At) λd=>.w [inb y (ba .row x),inb y (ba .row x),inb a (ba .row z),GG (rd .row x y).Val (rd .row z a).Val,inb y (ba .row x),inb a (ba .row z),Sg (rd .row x y).At (rd .row z a).At,inb y (ba .row x),inb a (ba .row z),lim (ba .row b) (ba .row [(Row.mk (rd .row x y).Key c d (ar .mul .i64 (rd .row x y).Diff (rd .row z a).Diff))])] (.l (.n (b++[(Row.mk (rd .row x y).Key c d (ar .mul .i64 (rd .row x y).Diff (rd .row z a).Diff))]))))
 (.l (.n b)))
def cw:=λx y b z a=>pcT (GO x y b z a) [0,1,0,0,1,0,0,1,0,0,1,0,1,1] [(0,.S .row x),(1,.S .row y),(5,.A .row b),(6,.I z),(7,.I a)] (rvF Th) (λq=>[(0,.S .row x),(1,.S .row y),(5,.A .row q),(6,.I z),(7,.I a)])
theorem L5(G:Gd Yg){fr x y z a b}:Uh fr (cw x y z a b):=ja G
def dw(a y _:LR)(b:Int)(z:LR)(x:Int):TX LR (LR×Int) LR:=.c (cmp .lss x (ba .row y)) (.sn (cw a y z b x) (λc=>.l (.n (c,(ar .add .i64 x 1)))))
 (.l (.x z))
def JO:=λx y c z a b=>pcR (dw x y c z a b) [0,0,1,0,0,1,0,0,1,0,1,1] (λq=>[(0,.S .row x),(1,.S .row y),(5,.A .row q.1),(6,.I z),(7,.I q.2)]) (a,b) (rvF Th) (λq=>(2,[(0,.S .row x),(1,.S .row y),(5,.A .row q),(6,.I z)]))
theorem O5(G:Gd Yg){fr x y z a b c}:Uh fr (JO x y z a b c):=fa G (λe=>⟨cw (gL .row e 0 0) (gL .row e 1 0) (gL .row e 5 0) (gI e 6 0) (gI e 7 0)⟩) λ_=>L5 G
def yo:=λy z x a=>pcL (λs:LR×Int=>JO y z x a s.1 s.2) (x,0)
theorem P5(G:Gd Yg){fr x y z a}:Uh fr (yo x y z a):=Aa λ_=>O5 G
def LO(x y z:LR)(a:Int):TA LR LR:=.sx (yo x y z a) (λb=>.l (.n b))
def ew:=λx y a z=>pcT (LO x y a z) [0,1,0,0,1,0,1,1] [(0,.S .row x),(1,.S .row y),(5,.A .row a),(6,.I z)] (rvF Th) (λq=>[(0,.S .row x),(1,.S .row y),(5,.A .row q),(6,.I z)])
theorem R5(G:Gd Yg){fr x y z a}:Uh fr (ew x y z a):=fa G (λe=>⟨yo (gL .row e 0 0) (gL .row e 1 0) (gL .row e 5 0) (gI e 6 0)⟩) λ_=>P5 G
def fw(y a z:LR)(x:Int):TX LR (LR×Int) LR:=.c (cmp .lss x (ba .row y)) (.sn (ew y a z x) (λb=>.l (.n (b,(ar .add .i64 x 1)))))
 (.l (.x z))
def MO:=λx y z a=>pcR (fw x y z a) [0,0,1,0,1,1] (λq=>[(0,.S .row x),(1,.S .row y),(5,.A .row q.1),(6,.I q.2)]) (z,a) (rvF Th) (λq=>(0,[(5,.A .row q)]))
theorem U5(G:Gd Yg){fr x y z a}:Uh fr (MO x y z a):=fa G (λe=>⟨ew (gL .row e 0 0) (gL .row e 1 0) (gL .row e 5 0) (gI e 6 0)⟩) λ_=>R5 G
def zo:=λx y=>pcL (λs:LR×Int=>MO x y s.1 s.2) ([],0)
theorem X5(G:Gd Yg){fr x y}:Uh fr (zo x y):=Aa λ_=>U5 G
def NO(x y:LR):TA LR LR:=.sx (zo x y) (λz=>.l (.n z))
def gw:=λx y=>pcT (NO x y) [0,1,1] [(0,.S .row x),(1,.S .row y),(5,.A .row [])] (rvF Th) (λq=>[(5,.A .row q)])
theorem Y5(G:Gd Yg){fr x y}:Uh fr (gw x y):=fa G (λe=>⟨zo (gL .row e 0 0) (gL .row e 1 0)⟩) λ_=>X5 G
def iw(y z:LR):TN LR:=.sn (gw y z) (λx=>.w [nf x] (.l (.r (He x))))
def Z5:=λx y=>pcT (iw x y) [] [(0,.S .row x),(1,.S .row y)] (rvF Th)
theorem d6(G:Gd Yg){fr x y}:Uh fr (Z5 x y):=fa G (λe=>⟨gw (gL .row e 0 0) (gL .row e 1 0)⟩) λ_=>Y5 G
def jw(x:LR)(y:LR):LR:=ocR (iw x y).val
def kw(x:LR)(y:LR):Prop:=(iw x y).ob
def IG:Spec:=spF [(.lst .row),(.lst .row)] (.one (.acc true) (.lst .row)) jw kw
theorem l6(G:Gd Yg):CP 131 IG:=ua (pts:=[(.lst .row),(.lst .row)]) (F:=Th) G λ_ _=>d6 G
def Ao:SP:=[]
abbrev Bo:Fnn:=⟨[.tmp 4],.one .fr .bool,none,[]⟩
abbrev lw:=@OkP Tryz.f174 Bo
def mw(y:List Time)(z:Time)(x:Int):TX Bool Int Unit:=.c (cmp .lss x (ba .time y)) (.w [inb x (ba .time y)] (.c (cmp .eql (rd .time y x).A z.A&&(cmp .eql (rd .time y x).B z.B&&true)) (.l (.r true))
 (.l (.n (ar .add .i64 x 1)))))
 (.l (.x ()))
def OO:=λy x z=>pcR (mw y x z) [0,0,1,0,1] (λq=>[(0,.S .time y),(3,.B [x.A,x.B]),(5,.I q)]) z (rvF Bo) (λ_=>(0,[]))
theorem t6(G:Gd Ao){fr x y z}:lw fr (OO x y z):=ja G
def Co:=λx y=>pcL (λs:Int=>OO x y s) 0
theorem v6(G:Gd Ao){fr x y}:lw fr (Co x y):=Aa λ_=>t6 G
def PO(x:List Time)(y:Time):TA Bool Unit:=.sx (Co x y) (λ_=>.l (.n ()))
def nw:=λy x=>pcT (PO y x) [0,1] [(0,.S .time y),(3,.B [x.A,x.B])] (rvF Bo) (λ_=>[])
theorem w6(G:Gd Ao){fr x y}:lw fr (nw x y):=fa G (λe=>⟨Co (gL .time e 0 0) (Pc e 3)⟩) λ_=>v6 G
def qw(x:List Time)(y:Time):TN Bool:=.sn (nw x y) (λ_=>.l (.r false))
def z6:=λy x=>pcT (qw y x) [] [(0,.S .time y),(1,.agg true [.i x.A,.i x.B])] (rvF Bo)
theorem A6(G:Gd Ao){fr x y}:lw fr (z6 x y):=fa G (λe=>⟨nw (gL .time e 0 0) (Pc e 3)⟩) λ_=>w6 G
def Gk(x:List Time)(y:Time):Bool:=ocR (qw x y).val
def Hk(x:List Time)(y:Time):Prop:=(qw x y).ob
def JG:Spec:=spF [(.lst .time),(.st .time)] (.one .fr .bool) Gk Hk
theorem B6(G:Gd Ao):CP 174 JG:=ua (pts:=[(.lst .time),(.st .time)]) (F:=Bo) G λ_ _=>A6 G
def Tc:SP:=[(93,mj),(174,JG),(91,Bk)]
abbrev Vd:Fnn:=⟨[.tmp 4],.one (.acc true) (.lst .time),none,[]⟩
abbrev Yc:=@OkP Tryz.f171 Vd
def QO(x:LR)(a:Int)(z:List Time)(y:Int):TA (List Time) ((List Time)):=.w [inb y (ba .row x),((cmp .eql (rd .row x y).Key a)&&true)=true->inb y (ba .row x),((cmp .eql (rd .row x y).Key a)&&true)=true->(Hk z (rd .row x y).At)] (.c (cond (cmp .eql (rd .row x y).Key a) (!(Gk z (rd .row x y).At)) false) (.w [inb y (ba .row x),lim (ba .time z) (ba .time [(rd .row x y).At])] (.l (.n (z++[(rd .row x y).At]))))
 (.l (.n z)))
def sw:=λx y a z=>pcT (QO x y a z) [0,1,0,0,1,0,1,1] [(0,.S .row x),(1,.I y),(5,.A .time a),(6,.I z)] (rvF Vd) (λq=>[(0,.S .row x),(1,.I y),(5,.A .time q),(6,.I z)])
theorem C6(G:Gd Tc){fr x y z a}:Yc fr (sw x y z a):=ja G
def tw(x:LR)(a:Int)(z:List Time)(y:Int):TX (List Time) ((List Time)×Int) ((List Time)):=.w [((cmp .lss y (ba .row x))&&true)=true->(Mh x)] (.c (cond (cmp .lss y (ba .row x)) (Ug x) false) (.sn (sw x a z y) (λb=>.l (.n (b,(ar .add .i64 y 1)))))
 (.l (.x z)))
def RO:=λx y z a=>pcR (tw x y z a) [0,0,1,0,1,1] (λq=>[(0,.S .row x),(1,.I y),(5,.A .time q.1),(6,.I q.2)]) (z,a) (rvF Vd) (λq=>(0,[(5,.A .time q)]))
theorem D6(G:Gd Tc){fr x y z a}:Yc fr (RO x y z a):=fa G (λe=>⟨sw (gL .row e 0 0) (gI e 1 0) (gL .time e 5 0) (gI e 6 0)⟩) λ_=>C6 G
def Do:=λx y=>pcL (λs:(List Time)×Int=>RO x y s.1 s.2) ([],0)
theorem E6(G:Gd Tc){fr x y}:Yc fr (Do x y):=Aa λ_=>D6 G
def SO(x:LR)(y:Int):TA (List Time) ((List Time)):=.sx (Do x y) (λz=>.l (.n z))
def uw:=λx y=>pcT (SO x y) [0,1,1] [(0,.S .row x),(1,.I y),(5,.A .time [])] (rvF Vd) (λq=>[(5,.A .time q)])
theorem G6(G:Gd Tc){fr x y}:Yc fr (uw x y):=fa G (λe=>⟨Do (gL .row e 0 0) (gI e 1 0)⟩) λ_=>E6 G
def TO(x:List Time)(z a:Int):TA (List Time) ((List Time)):=.k (jj (rd .time x z) (rd .time x a)) λy=>.w [inb z (ba .time x),inb a (ba .time x),Sg (rd .time x z) (rd .time x a)] (.w [Hk x y] (.c (!(Gk x y)) (.w [lim (ba .time x) (ba .time [y])] (.l (.n (x++[y]))))
 (.l (.n x))))
def vw:=λz x y=>pcT (TO z x y) [0,1,0,0,1,0,0,1,0,0,1,0,1,1,1] [(5,.A .time z),(7,.I x),(8,.I y)] (rvF Vd) (λq=>[(5,.A .time q),(7,.I x),(8,.I y)])
theorem H6(G:Gd Tc){fr x y z}:Yc fr (vw x y z):=ja G
def ww(_:List Time)(y:Int)(z:List Time)(x:Int):TX (List Time) ((List Time)×Int) ((List Time)):=.c (cmp .lss x y) (.sn (vw z y x) (λa=>.l (.n (a,(ar .add .i64 x 1)))))
 (.l (.x z))
def UO:=λa x y z=>pcR (ww a x y z) [0,0,1,0,0,1,0,0,1,0,1,1,1] (λq=>[(5,.A .time q.1),(7,.I x),(8,.I q.2)]) (y,z) (rvF Vd) (λq=>(4,[(5,.A .time q),(7,.I x)]))
theorem I6(G:Gd Tc){fr x y z a}:Yc fr (UO x y z a):=fa G (λe=>⟨vw (gL .time e 5 0) (gI e 7 0) (gI e 8 0)⟩) λ_=>H6 G
def Eo:=λx y=>pcL (λs:(List Time)×Int=>UO x y s.1 s.2) (x,0)
theorem J6(G:Gd Tc){fr x y}:Yc fr (Eo x y):=Aa λ_=>I6 G
def VO(x:List Time)(y:Int):TA (List Time) ((List Time)):=.sx (Eo x y) (λz=>.l (.n z))
def xw:=λy x=>pcT (VO y x) [0,1,0,0,1,0,1,1,1] [(5,.A .time y),(7,.I x)] (rvF Vd) (λq=>[(5,.A .time q),(7,.I x)])
theorem L6(G:Gd Tc){fr x y}:Yc fr (xw x y):=fa G (λe=>⟨Eo (gL .time e 5 0) (gI e 7 0)⟩) λ_=>J6 G
def yw(_ x:List Time)(y:Int):TX (List Time) ((List Time)×Int) ((List Time)):=.c (cmp .lss y (ba .time x)) (.sn (xw x y) (λz=>.l (.n (z,(ar .add .i64 y 1)))))
 (.l (.x x))
def WO:=λz x y=>pcR (yw z x y) [0,0,1,0,1,1,1] (λq=>[(5,.A .time q.1),(7,.I q.2)]) (x,y) (rvF Vd) (λq=>(2,[(5,.A .time q)]))
theorem O6(G:Gd Tc){fr x y z}:Yc fr (WO x y z):=fa G (λe=>⟨xw (gL .time e 5 0) (gI e 7 0)⟩) λ_=>L6 G
def Fo:=λx=>pcL (λs:(List Time)×Int=>WO x s.1 s.2) (x,0)
theorem P6(G:Gd Tc){fr x}:Yc fr (Fo x):=Aa λ_=>O6 G
def XO(x:List Time):TA (List Time) ((List Time)):=.sx (Fo x) (λy=>.l (.n y))
def zw:=λx=>pcT (XO x) [0,1,1,1] [(5,.A .time x)] (rvF Vd) (λq=>[(5,.A .time q)])
theorem Q6(G:Gd Tc){fr x}:Yc fr (zw x):=fa G (λe=>⟨Fo (gL .time e 5 0)⟩) λ_=>P6 G
def YO(a z:List Time)(x y:Int):TA (List Time) ((List Time)):=.w [Hk a (Time.mk x y)] (.c (Gk a (Time.mk x y)) (.w [lim (ba .time z) (ba .time [(Time.mk x y)])] (.l (.n (z++[(Time.mk x y)]))))
 (.l (.n z)))
def Aw:=λx a y z=>pcT (YO x a y z) [0,1,0,0,1,0,0,1,0,0,1,0,1,1,1,1,1] [(5,.A .time x),(10,.A .time a),(11,.I y),(12,.I z)] (rvF Vd) (λq=>[(5,.A .time x),(10,.A .time q),(11,.I y),(12,.I z)])
theorem R6(G:Gd Tc){fr x y z a}:Yc fr (Aw x y z a):=ja G
def Ho(z _:List Time)(a:Int)(y:List Time)(x:Int):TX (List Time) ((List Time)×Int) ((List Time)):=.c (cmp .leq x 7) (.sn (Aw z y a x) (λb=>.l (.n (b,(ar .add .i64 x 1)))))
 (.l (.x y))
def ZO:=λx b y z a=>pcR (Ho x b y z a) [0,0,1,0,0,1,0,0,1,0,1,1,1,1,1] (λq=>[(5,.A .time x),(10,.A .time q.1),(11,.I y),(12,.I q.2)]) (z,a) (rvF Vd) (λq=>(8,[(5,.A .time x),(10,.A .time q),(11,.I y)]))
theorem T6(G:Gd Tc){fr x y z a b}:Yc fr (ZO x y z a b):=fa G (λe=>⟨Aw (gL .time e 5 0) (gL .time e 10 0) (gI e 11 0) (gI e 12 0)⟩) λ_=>R6 G
def Io:=λy x z=>pcL (λs:(List Time)×Int=>ZO y x z s.1 s.2) (x,0)
theorem U6(G:Gd Tc){fr x y z}:Yc fr (Io x y z):=Aa λ_=>T6 G
def aP(x y:List Time)(z:Int):TA (List Time) ((List Time)):=.sx (Io x y z) (λa=>.l (.n a))
def Bw:=λx z y=>pcT (aP x z y) [0,1,0,0,1,0,1,1,1,1,1] [(5,.A .time x),(10,.A .time z),(11,.I y)] (rvF Vd) (λq=>[(5,.A .time x),(10,.A .time q),(11,.I y)])
theorem V6(G:Gd Tc){fr x y z}:Yc fr (Bw x y z):=fa G (λe=>⟨Io (gL .time e 5 0) (gL .time e 10 0) (gI e 11 0)⟩) λ_=>U6 G
def Cw(z y:List Time)(x:Int):TX (List Time) ((List Time)×Int) ((List Time)):=.c (cmp .leq x 7) (.sn (Bw z y x) (λa=>.l (.n (a,(ar .add .i64 x 1)))))
 (.l (.x y))
def bP:=λx y z=>pcR (Cw x y z) [0,0,1,0,1,1,1,1,1] (λq=>[(5,.A .time x),(10,.A .time q.1),(11,.I q.2)]) (y,z) (rvF Vd) (λq=>(6,[(10,.A .time q)]))
theorem X6(G:Gd Tc){fr x y z}:Yc fr (bP x y z):=fa G (λe=>⟨Bw (gL .time e 5 0) (gL .time e 10 0) (gI e 11 0)⟩) λ_=>V6 G
def Jo:=λx=>pcL (λs:(List Time)×Int=>bP x s.1 s.2) ([],0)
theorem Y6(G:Gd Tc){fr x}:Yc fr (Jo x):=Aa λ_=>X6 G
def cP(x:List Time):TA (List Time) ((List Time)):=.sx (Jo x) (λy=>.l (.n y))
def Dw:=λx=>pcT (cP x) [0,1,1,1,1,1] [(5,.A .time x),(10,.A .time [])] (rvF Vd) (λq=>[(10,.A .time q)])
theorem Z6(G:Gd Tc){fr x}:Yc fr (Dw x):=fa G (λe=>⟨Jo (gL .time e 5 0)⟩) λ_=>Y6 G
def Ew(x:LR)(y:Int):TN (List Time):=.sn (uw x y) (λz=>.sn (zw z) (λa=>.sn (Dw a) (λb=>.l (.r b))))
def c7:=λx y=>pcT (Ew x y) [] [(0,.S .row x),(1,.I y)] (rvF Vd)
theorem d7(G:Gd Tc){fr x y}:Yc fr (c7 x y):=Nd G [λe=>⟨uw (gL .row e 0 0) (gI e 1 0)⟩,λe=>⟨zw (gL .time e 5 0)⟩,λe=>⟨Dw (gL .time e 5 0)⟩] ⟨λ_=>G6 G,λ_=>Q6 G,λ_=>Z6 G,trivial⟩
def Fw(x:LR)(y:Int):List Time:=ocR (Ew x y).val
def Gw(x:LR)(y:Int):Prop:=(Ew x y).ob
def LG:Spec:=spF [(.lst .row),(.int .i64)] (.one (.acc true) (.lst .time)) Fw Gw
theorem g7(G:Gd Tc):CP 171 LG:=ua (pts:=[(.lst .row),(.int .i64)]) (F:=Vd) G λ_ _=>d7 G
def Vh:SP:=[(61,Pf)]
abbrev F94:Fnn:=⟨[.tmp 2],.one (.acc true) (.lst .item),none,[]⟩
abbrev rj:=@OkP Tryz.f94 F94
def Hw(y:LI)(z:LR)(x:Int):TX LI (LR×Int) LR:=.c (cmp .lss x (ba .item y)) (.w [inb x (ba .item y),inb x (ba .item y),inb x (ba .item y),lim (ba .row z) (ba .row [(Row.mk (rd .item y x).Key (rd .item y x).Val (Time.mk 0 0) (rd .item y x).Count)])] (.l (.n ((z++[(Row.mk (rd .item y x).Key (rd .item y x).Val (Time.mk 0 0) (rd .item y x).Count)]),(ar .add .i64 x 1)))))
 (.l (.x z))
def dP:=λx y z=>pcR (Hw x y z) [0,0,1,0,1,1] (λq=>[(0,.S .item x),(3,.A .row q.1),(4,.I q.2)]) (y,z) (rvF F94) (λq=>(0,[(3,.A .row q)]))
theorem l7(G:Gd Vh){fr x y z}:rj fr (dP x y z):=ja G
def Ko:=λx=>pcL (λs:LR×Int=>dP x s.1 s.2) ([],0)
theorem m7(G:Gd Vh){fr x}:rj fr (Ko x):=Aa λ_=>l7 G
def eP(x:LI):TA LI LR:=.sx (Ko x) (λy=>.l (.n y))
def Iw:=λx=>pcT (eP x) [0,1,1] [(0,.S .item x),(3,.A .row [])] (rvF F94) (λq=>[(3,.A .row q)])
theorem t7(G:Gd Vh){fr x}:rj fr (Iw x):=fa G (λe=>⟨Ko (gL .item e 0 0)⟩) λ_=>m7 G
def Jw(y:LR)(z:LI)(x:Int):TX LI (LI×Int) LI:=.c (cmp .lss x (ba .row y)) (.w [inb x (ba .row y),inb x (ba .row y),inb x (ba .row y),lim (ba .item z) (ba .item [(Item.mk (rd .row y x).Key (rd .row y x).Val (rd .row y x).Diff)])] (.l (.n ((z++[(Item.mk (rd .row y x).Key (rd .row y x).Val (rd .row y x).Diff)]),(ar .add .i64 x 1)))))
 (.l (.x z))
def fP:=λx y z=>pcR (Jw x y z) [0,0,1,0,1,1,1,1,1] (λq=>[(5,.A .row x),(6,.A .item q.1),(7,.I q.2)]) (y,z) (rvF F94) (λq=>(2,[(6,.A .item q)]))
theorem v7(G:Gd Vh){fr x y z}:rj fr (fP x y z):=ja G
def Lo:=λx=>pcL (λs:LI×Int=>fP x s.1 s.2) ([],0)
theorem z7(G:Gd Vh){fr x}:rj fr (Lo x):=Aa λ_=>v7 G
def gP(x:LR):TA LI LI:=.sx (Lo x) (λy=>.l (.n y))
def Kw:=λx=>pcT (gP x) [0,1,1,1,1,1] [(5,.A .row x),(6,.A .item [])] (rvF F94) (λq=>[(6,.A .item q)])
theorem A7(G:Gd Vh){fr x}:rj fr (Kw x):=fa G (λe=>⟨Lo (gL .row e 5 0)⟩) λ_=>z7 G
def Lw(y:LI):TN LI:=.sn (Iw y) (λx=>.w [nf x] (.sn (Kw (He x)) (λz=>.l (.r z))))
def B7:=λx=>pcT (Lw x) [] [(0,.S .item x)] (rvF F94)
theorem G7(G:Gd Vh){fr x}:rj fr (B7 x):=Nd G [λe=>⟨Iw (gL .item e 0 0)⟩,λe=>⟨Kw (gL .row e 5 0)⟩] ⟨λ_=>t7 G,λ_=>A7 G,trivial⟩
def Mo(x:LI):LI:=ocR (Lw x).val
def Oo(x:LI):Prop:=(Lw x).ob
def Mw:Spec:=spF [(.lst .item)] (.one (.acc true) (.lst .item)) Mo Oo
theorem H7(G:Gd Vh):CP 94 Mw:=ua (pts:=[(.lst .item)]) (F:=F94) G λ_ _=>G7 G
def Ik:SP:=[(93,mj),(49,Kh),(90,Ak),(94,Mw)]
abbrev F50:Fnn:=⟨[.tmp 4],.one (.acc true) (.lst .item),none,[]⟩
abbrev Po:=@OkP Tryz.f50 F50
def iP(x:LR)(a:Time)(z:LI)(y:Int):TA LI LI:=.w [inb y (ba .row x),zk (rd .row x y).At a] (.c (gj (rd .row x y).At a) (.w [inb y (ba .row x),inb y (ba .row x),inb y (ba .row x),lim (ba .item z) (ba .item [(Item.mk (rd .row x y).Key (rd .row x y).Val (rd .row x y).Diff)])] (.l (.n (z++[(Item.mk (rd .row x y).Key (rd .row x y).Val (rd .row x y).Diff)]))))
 (.l (.n z)))
def Nw:=λy x a z=>pcT (iP y x a z) [0,1,0,0,1,0,1,1,1] [(0,.S .row y),(3,.B [x.A,x.B]),(5,.A .item a),(6,.I z)] (rvF F50) (λq=>[(0,.S .row y),(3,.B [x.A,x.B]),(5,.A .item q),(6,.I z)])
theorem I7(G:Gd Ik){fr x y z a}:Po fr (Nw x y z a):=ja G
def Ow(y:LR)(a:Time)(z:LI)(x:Int):TX LI (LI×Int) LI:=.c (cmp .lss x (ba .row y)) (.sn (Nw y a z x) (λb=>.l (.n (b,(ar .add .i64 x 1)))))
 (.l (.x z))
def jP:=λy x z a=>pcR (Ow y x z a) [0,0,1,0,1,1,1] (λq=>[(0,.S .row y),(3,.B [x.A,x.B]),(5,.A .item q.1),(6,.I q.2)]) (z,a) (rvF F50) (λq=>(0,[(5,.A .item q)]))
theorem J7(G:Gd Ik){fr x y z a}:Po fr (jP x y z a):=fa G (λe=>⟨Nw (gL .row e 0 0) (Pc e 3) (gL .item e 5 0) (gI e 6 0)⟩) λ_=>I7 G
def Qo:=λx y=>pcL (λs:LI×Int=>jP x y s.1 s.2) ([],0)
theorem L7(G:Gd Ik){fr x y}:Po fr (Qo x y):=Aa λ_=>J7 G
def kP(x:LR)(y:Time):TA LI LI:=.sx (Qo x y) (λz=>.l (.n z))
def Pw:=λy x=>pcT (kP y x) [0,1,1,1] [(0,.S .row y),(3,.B [x.A,x.B]),(5,.A .item [])] (rvF F50) (λq=>[(5,.A .item q)])
theorem O7(G:Gd Ik){fr x y}:Po fr (Pw x y):=fa G (λe=>⟨Qo (gL .row e 0 0) (Pc e 3)⟩) λ_=>L7 G
def Qw(x:LR)(y:Time):TN LI:=.w [Mh x,((!(!(Ug x)))&&true)=true->(sg y)] (.c (cond (!(Ug x)) true (!(oe y))) (.l (.r []))
 (.sn (Pw x y) (λz=>.w [Oo z] (.l (.r (Mo z))))))
def P7:=λy x=>pcT (Qw y x) [] [(0,.S .row y),(1,.agg true [.i x.A,.i x.B])] (rvF F50)
theorem Q7(G:Gd Ik){fr x y}:Po fr (P7 x y):=fa G (λe=>⟨Pw (gL .row e 0 0) (Pc e 3)⟩) λ_=>O7 G
def Sw(x:LR)(y:Time):LI:=ocR (Qw x y).val
def Tw(x:LR)(y:Time):Prop:=(Qw x y).ob
def MG:Spec:=spF [(.lst .row),(.st .time)] (.one (.acc true) (.lst .item)) Sw Tw
theorem R7(G:Gd Ik):CP 50 MG:=ua (pts:=[(.lst .row),(.st .time)]) (F:=F50) G λ_ _=>Q7 G
def lP:SP:=[]
abbrev RG:Fnn:=⟨[.tmp 2],.one .fr (.int .i64),none,[]⟩
abbrev T7:=@OkP Tryz.f175 RG
def SG(x:Int):TN Int:=.w [(100:Int)≠0,(100:Int)≠0] (.l (.r (ar .rem .i64 (ar .add .i64 (ar .rem .i64 x 100) 100) 100)))
def U7:=λx=>pcT (SG x) [] [(0,.I x)] (rvF RG)
theorem V7(G:Gd lP){fr x}:T7 fr (U7 x):=ja G
def Uw(x:Int):Int:=ocR (SG x).val
def UG(x:Int):Prop:=(SG x).ob
def VG:Spec:=spF [(.int .i64)] (.one .fr (.int .i64)) Uw UG
theorem X7(G:Gd lP):CP 175 VG:=ua (pts:=[(.int .i64)]) (F:=RG) G λ_ _=>V7 G
def sj:SP:=[(175,VG)]
abbrev tj:Fnn:=⟨[.tmp 6],.one (.acc true) (.lst .item),none,[]⟩
abbrev Jk:=@OkP Tryz.f172 tj
def mP(x:LI)(a c:Int)(z:LI)(b y:Int):TA LI (LI×Int):=.w [inb y (ba .item x)] (.c (cmp .neq (rd .item x y).Key a) (.l (.n (z,b)))
 (.w [inb y (ba .item x)] (.w [inb y (ba .item x)] (.c (cond (cmp .gtr (rd .item x y).Count 0) (cond (cmp .eql c 2) true (cond (cmp .eql c 3) (cmp .eql (ba .item z) 0) false)) false) (.w [inb y (ba .item x),lim (ba .item z) (ba .item [(Item.mk a (rd .item x y).Val 1)])] (.l (.n ((z++[(Item.mk a (rd .item x y).Val 1)]),(ar .add .i64 b (rd .item x y).Count)))))
 (.l (.n (z,(ar .add .i64 b (rd .item x y).Count))))))))
def Vw:=λx y z b c a=>pcT (mP x y z b c a) [0,1,0,0,1,0,1,1,1] [(0,.S .item x),(1,.I y),(2,.I z),(7,.A .item b),(8,.I c),(9,.I a)] (rvF tj) (λq=>[(0,.S .item x),(1,.I y),(2,.I z),(7,.A .item q.1),(8,.I q.2),(9,.I a)])
theorem Y7(G:Gd sj){fr x y z a b c}:Jk fr (Vw x y z a b c):=ja G
def Ww(y:LI)(c d:Int)(z:LI)(a x:Int):TX LI (LI×Int×Int) (LI×Int):=.c (cmp .lss x (ba .item y)) (.sn (Vw y c d z a x) (λb=>.l (.n (b.1,b.2,(ar .add .i64 x 1)))))
 (.l (.x (z,a)))
def nP:=λz x y a b c=>pcR (Ww z x y a b c) [0,0,1,0,1,1,1] (λq=>[(0,.S .item z),(1,.I x),(2,.I y),(7,.A .item q.1),(8,.I q.2.1),(9,.I q.2.2)]) (a,b,c) (rvF tj) (λq=>(0,[(1,.I x),(2,.I y),(7,.A .item q.1),(8,.I q.2)]))
theorem Z7(G:Gd sj){fr x y z a b c}:Jk fr (nP x y z a b c):=fa G (λe=>⟨Vw (gL .item e 0 0) (gI e 1 0) (gI e 2 0) (gL .item e 7 0) (gI e 8 0) (gI e 9 0)⟩) λ_=>Y7 G
def Ro:=λx y z=>pcL (λs:LI×Int×Int=>nP x y z s.1 s.2.1 s.2.2) ([],0,0)
theorem c8(G:Gd sj){fr x y z}:Jk fr (Ro x y z):=Aa λ_=>Z7 G
def oP(y:LI)(z a:Int):TA LI (LI×Int):=.sx (Ro y z a) (λx=>.l (.n (x.1,x.2)))
def Xw:=λz x y=>pcT (oP z x y) [0,1,1,1] [(0,.S .item z),(1,.I x),(2,.I y),(7,.A .item []),(8,.I 0)] (rvF tj) (λq=>[(1,.I x),(2,.I y),(7,.A .item q.1),(8,.I q.2)])
theorem d8(G:Gd sj){fr x y z}:Jk fr (Xw x y z):=fa G (λe=>⟨Ro (gL .item e 0 0) (gI e 1 0) (gI e 2 0)⟩) λ_=>c8 G
def pP(z a:Int)(y:LI)(x:Int):TA LI LI:=.c (cond (cmp .eql a 1) (cmp .neq x 0) false) (.w [UG x,lim (ba .item y) (ba .item [(Item.mk z (Uw x) 1)])] (.l (.n (y++[(Item.mk z (Uw x) 1)]))))
 (.l (.n y))
def Yw:=λx y z a=>pcT (pP x y z a) [0,1,1,1,1] [(1,.I x),(2,.I y),(7,.A .item z),(8,.I a)] (rvF tj) (λq=>[(7,.A .item q)])
theorem g8(G:Gd sj){fr x y z a}:Jk fr (Yw x y z a):=ja G
def Zw(a:LI)(x y:Int):TN LI:=.sn (Xw a x y) (λz=>.sn (Yw x y z.1 z.2) (λb=>.l (.r b)))
def j8:=λx y z=>pcT (Zw x y z) [] [(0,.S .item x),(1,.I y),(2,.I z)] (rvF tj)
theorem l8(G:Gd sj){fr x y z}:Jk fr (j8 x y z):=Nd G [λe=>⟨Xw (gL .item e 0 0) (gI e 1 0) (gI e 2 0)⟩,λe=>⟨Yw (gI e 1 0) (gI e 2 0) (gL .item e 7 0) (gI e 8 0)⟩] ⟨λ_=>d8 G,λ_=>g8 G,trivial⟩
def ax(x:LI)(y:Int)(z:Int):LI:=ocR (Zw x y z).val
def cx(x:LI)(y:Int)(z:Int):Prop:=(Zw x y z).ob
def WG:Spec:=spF [(.lst .item),(.int .i64),(.int .i64)] (.one (.acc true) (.lst .item)) ax cx
theorem m8(G:Gd sj):CP 172 WG:=ua (pts:=[(.lst .item),(.int .i64),(.int .i64)]) (F:=tj) G λ_ _=>l8 G
def Wd:SP:=[(171,LG),(50,MG),(172,WG),(90,Ak),(94,Mw)]
abbrev Qe:Fnn:=⟨[.tmp 6],.one (.acc true) (.lst .row),none,[]⟩
abbrev pe:=@OkP Tryz.f164 Qe
def qP(x:LR)(a _:Int)(z:LR)(y:Int):TA LR LR:=.w [inb y (ba .row x)] (.c (cmp .eql (rd .row x y).Key a) (.w [inb y (ba .row x),lim (ba .row z) (ba .row [(rd .row x y)])] (.l (.n (z++[(rd .row x y)]))))
 (.l (.n z)))
def dx:=λx y z b a=>pcT (qP x y z b a) [0,1,0,0,1,0,1,1] [(0,.S .row x),(1,.I y),(2,.I z),(7,.A .row b),(8,.I a)] (rvF Qe) (λq=>[(0,.S .row x),(1,.I y),(2,.I z),(7,.A .row q),(8,.I a)])
theorem n8(G:Gd Wd){fr x y z a b}:pe fr (dx x y z a b):=ja G
def fx(y:LR)(a b:Int)(z:LR)(x:Int):TX LR (LR×Int) LR:=.c (cmp .lss x (ba .row y)) (.sn (dx y a b z x) (λc=>.l (.n (c,(ar .add .i64 x 1)))))
 (.l (.x z))
def rP:=λx y z a b=>pcR (fx x y z a b) [0,0,1,0,1,1] (λq=>[(0,.S .row x),(1,.I y),(2,.I z),(7,.A .row q.1),(8,.I q.2)]) (a,b) (rvF Qe) (λq=>(0,[(0,.S .row x),(1,.I y),(2,.I z),(7,.A .row q)]))
theorem t8(G:Gd Wd){fr x y z a b}:pe fr (rP x y z a b):=fa G (λe=>⟨dx (gL .row e 0 0) (gI e 1 0) (gI e 2 0) (gL .row e 7 0) (gI e 8 0)⟩) λ_=>n8 G
def So:=λx y z=>pcL (λs:LR×Int=>rP x y z s.1 s.2) ([],0)
theorem v8(G:Gd Wd){fr x y z}:pe fr (So x y z):=Aa λ_=>t8 G
def sP(x:LR)(y z:Int):TA LR LR:=.sx (So x y z) (λa=>.l (.n a))
def jx:=λx y z=>pcT (sP x y z) [0,1,1] [(0,.S .row x),(1,.I y),(2,.I z),(7,.A .row [])] (rvF Qe) (λq=>[(0,.S .row x),(1,.I y),(2,.I z),(7,.A .row q)])
theorem z8(G:Gd Wd){fr x y z}:pe fr (jx x y z):=fa G (λe=>⟨So (gL .row e 0 0) (gI e 1 0) (gI e 2 0)⟩) λ_=>v8 G
def tP(a _:Int)(_ x:LR)(_:List Time)(_:Int)(b:Time)(z:LI)(y:Int):TA LR LI:=.w [inb y (ba .row x),zk (rd .row x y).At b] (.c (gj (rd .row x y).At b) (.w [inb y (ba .row x),inb y (ba .row x),lim (ba .item z) (ba .item [(Item.mk a (rd .row x y).Val (IntKind.wrap .i64 (0 - (rd .row x y).Diff)))])] (.l (.n (z++[(Item.mk a (rd .row x y).Val (IntKind.wrap .i64 (0 - (rd .row x y).Diff)))]))))
 (.l (.n z)))
def nx:=λy z a b c d x g f=>pcT (tP y z a b c d x g f) [0,1,0,0,1,0,1,1,0,0,1,0,0,1,0,1,1,1,1,1] [(1,.I y),(2,.I z),(7,.A .row a),(9,.A .row b),(10,.A .time c),(11,.I d),(12,.B [x.A,x.B]),(13,.A .item g),(14,.I f)] (rvF Qe) (λq=>[(1,.I y),(2,.I z),(7,.A .row a),(9,.A .row b),(10,.A .time c),(11,.I d),(12,.B [x.A,x.B]),(13,.A .item q),(14,.I f)])
theorem A8(G:Gd Wd){fr x y z a b c d f g}:pe fr (nx x y z a b c d f g):=ja G
def qx(a b:Int)(c y:LR)(d:List Time)(f:Int)(g:Time)(_ z:LI)(x:Int):TX LR (LI×Int) LI:=.c (cmp .lss x (ba .row y)) (.sn (nx a b c y d f g z x) (λh=>.l (.n (h,(ar .add .i64 x 1)))))
 (.l (.x z))
def uP:=λy z a b c d x h f g=>pcR (qx y z a b c d x h f g) [0,0,1,0,1,1,0,0,1,0,0,1,0,1,1,1,1,1] (λq=>[(1,.I y),(2,.I z),(7,.A .row a),(9,.A .row b),(10,.A .time c),(11,.I d),(12,.B [x.A,x.B]),(13,.A .item q.1),(14,.I q.2)]) (f,g) (rvF Qe) (λq=>(4,[(1,.I y),(2,.I z),(7,.A .row a),(9,.A .row b),(10,.A .time c),(11,.I d),(12,.B [x.A,x.B]),(13,.A .item q)]))
theorem B8(G:Gd Wd){fr x y z a b c d f g h}:pe fr (uP x y z a b c d f g h):=fa G (λe=>⟨nx (gI e 1 0) (gI e 2 0) (gL .row e 7 0) (gL .row e 9 0) (gL .time e 10 0) (gI e 11 0) (Pc e 12) (gL .item e 13 0) (gI e 14 0)⟩) λ_=>A8 G
def To:=λy z a b c d f x=>pcL (λs:LI×Int=>uP y z a b c d f x s.1 s.2) (x,0)
theorem D8(G:Gd Wd){fr x y z a b c d f}:pe fr (To x y z a b c d f):=Aa λ_=>B8 G
def vP(x y:Int)(z a:LR)(b:List Time)(c:Int)(d:Time)(f:LI):TA LR LI:=.sx (To x y z a b c d f) (λg=>.l (.n g))
def rx:=λy z a b c d x f=>pcT (vP y z a b c d x f) [0,1,1,0,0,1,0,0,1,0,1,1,1,1,1] [(1,.I y),(2,.I z),(7,.A .row a),(9,.A .row b),(10,.A .time c),(11,.I d),(12,.B [x.A,x.B]),(13,.A .item f)] (rvF Qe) (λq=>[(1,.I y),(2,.I z),(7,.A .row a),(9,.A .row b),(10,.A .time c),(11,.I d),(12,.B [x.A,x.B]),(13,.A .item q)])
theorem E8(G:Gd Wd){fr x y z a b c d f}:pe fr (rx x y z a b c d f):=fa G (λe=>⟨To (gI e 1 0) (gI e 2 0) (gL .row e 7 0) (gL .row e 9 0) (gL .time e 10 0) (gI e 11 0) (Pc e 12) (gL .item e 13 0)⟩) λ_=>D8 G
def tx(a _:Int)(_ _:LR)(_:List Time)(_:Int)(b:Time)(y:LI)(z:LR)(x:Int):TX LR (LR×Int) LR:=.c (cmp .lss x (ba .item y)) (.w [inb x (ba .item y),inb x (ba .item y),lim (ba .row z) (ba .row [(Row.mk a (rd .item y x).Val b (rd .item y x).Count)])] (.l (.n ((z++[(Row.mk a (rd .item y x).Val b (rd .item y x).Count)]),(ar .add .i64 x 1)))))
 (.l (.x z))
def wP:=λx y z h a b c d f g=>pcR (tx x y z h a b c d f g) [0,0,1,1,1,1,1,0,0,1,0,0,1,0,1,1,1,1,1] (λq=>[(1,.I x),(2,.I y),(7,.A .row z),(9,.A .row q.1),(10,.A .time a),(11,.I b),(12,.B [c.A,c.B]),(13,.A .item d),(15,.I q.2)]) (f,g) (rvF Qe) (λq=>(6,[(1,.I x),(2,.I y),(7,.A .row z),(9,.A .row q),(10,.A .time a),(11,.I b)]))
theorem G8(G:Gd Wd){fr x y z a b c d f g h}:pe fr (wP x y z a b c d f g h):=ja G
def Uo:=λy z a x b c d f=>pcL (λs:LR×Int=>wP y z a x b c d f s.1 s.2) (x,0)
theorem H8(G:Gd Wd){fr x y z a b c d f}:pe fr (Uo x y z a b c d f):=Aa λ_=>G8 G
def ux(z a:Int)(b c:LR)(x:List Time)(y:Int):TA LR LR:=.w [inb y (ba .time x)] (.k (Sw b (rd .time x y)) λd=>.w [Tw b (rd .time x y),cx d z a] (.sn (rx z a b c x y (rd .time x y) (ax d z a)) (λf=>.w [Oo f] (.sx (Uo z a b c x y (rd .time x y) (Mo f)) (λg=>.l (.n g))))))
def vx:=λx y z c a b=>pcT (ux x y z c a b) [0,1,0,0,1,0,1,1,1,1,1] [(1,.I x),(2,.I y),(7,.A .row z),(9,.A .row c),(10,.A .time a),(11,.I b)] (rvF Qe) (λq=>[(1,.I x),(2,.I y),(7,.A .row z),(9,.A .row q),(10,.A .time a),(11,.I b)])
theorem I8(G:Gd Wd){fr x y z a b c}:pe fr (vx x y z a b c):=Nd G [λe=>⟨rx (gI e 1 0) (gI e 2 0) (gL .row e 7 0) (gL .row e 9 0) (gL .time e 10 0) (gI e 11 0) (Pc e 12) (gL .item e 13 0)⟩,λe=>⟨Uo (gI e 1 0) (gI e 2 0) (gL .row e 7 0) (gL .row e 9 0) (gL .time e 10 0) (gI e 11 0) (Pc e 12) (gL .item e 13 0)⟩] ⟨λ_=>E8 G,λ_=>H8 G,trivial⟩
def yx(a b:Int)(c:LR)(y:List Time)(z:LR)(x:Int):TX LR (LR×Int) LR:=.c (cmp .lss x (ba .time y)) (.sn (vx a b c z y x) (λd=>.l (.n (d,(ar .add .i64 x 1)))))
 (.l (.x z))
def xP:=λx y z a b c=>pcR (yx x y z a b c) [0,0,1,0,1,1,1,1,1] (λq=>[(1,.I x),(2,.I y),(7,.A .row z),(9,.A .row q.1),(10,.A .time a),(11,.I q.2)]) (b,c) (rvF Qe) (λq=>(2,[(9,.A .row q)]))
theorem J8(G:Gd Wd){fr x y z a b c}:pe fr (xP x y z a b c):=fa G (λe=>⟨vx (gI e 1 0) (gI e 2 0) (gL .row e 7 0) (gL .row e 9 0) (gL .time e 10 0) (gI e 11 0)⟩) λ_=>I8 G
def Vo:=λx y z a=>pcL (λs:LR×Int=>xP x y z a s.1 s.2) ([],0)
theorem L8(G:Gd Wd){fr x y z a}:pe fr (Vo x y z a):=Aa λ_=>J8 G
def yP(x y:Int)(z:LR)(a:List Time):TA LR LR:=.sx (Vo x y z a) (λb=>.l (.n b))
def zx:=λx y z a=>pcT (yP x y z a) [0,1,1,1,1,1] [(1,.I x),(2,.I y),(7,.A .row z),(9,.A .row []),(10,.A .time a)] (rvF Qe) (λq=>[(9,.A .row q)])
theorem M8(G:Gd Wd){fr x y z a}:pe fr (zx x y z a):=fa G (λe=>⟨Vo (gI e 1 0) (gI e 2 0) (gL .row e 7 0) (gL .time e 10 0)⟩) λ_=>L8 G
def Ax(y:LR)(x z:Int):TN LR:=.sn (jx y x z) (λa=>.w [Gw y x] (.sn (zx x z a (Fw y x)) (λb=>.l (.r b))))
def O8:=λx y z=>pcT (Ax x y z) [] [(0,.S .row x),(1,.I y),(2,.I z)] (rvF Qe)
theorem P8(G:Gd Wd){fr x y z}:pe fr (O8 x y z):=Nd G [λe=>⟨jx (gL .row e 0 0) (gI e 1 0) (gI e 2 0)⟩,λe=>⟨zx (gI e 1 0) (gI e 2 0) (gL .row e 7 0) (gL .time e 10 0)⟩] ⟨λ_=>z8 G,λ_=>M8 G,trivial⟩
def Bx(x:LR)(y:Int)(z:Int):LR:=ocR (Ax x y z).val
def Cx(x:LR)(y:Int)(z:Int):Prop:=(Ax x y z).ob
def XG:Spec:=spF [(.lst .row),(.int .i64),(.int .i64)] (.one (.acc true) (.lst .row)) Bx Cx
theorem Q8(G:Gd Wd):CP 164 XG:=ua (pts:=[(.lst .row),(.int .i64),(.int .i64)]) (F:=Qe) G λ_ _=>P8 G
def Wo:SP:=[(164,XG),(61,Pf)]
abbrev Xo:Fnn:=⟨[.tmp 4],.one (.acc true) (.lst .row),none,[]⟩
abbrev Dx:=@OkP Tryz.f132 Xo
def Ex(z:LR)(a:Int)(y:LR)(x:Int):TX LR (LR×Int) LR:=.c (cmp .lss x 4) (.k (Bx z x a) λb=>.w [Cx z x a,lim (ba .row y) (ba .row b)] (.l (.n ((y++b),(ar .add .i64 x 1)))))
 (.l (.x y))
def zP:=λx y z a=>pcR (Ex x y z a) [0,0,1,0,1,1] (λq=>[(0,.S .row x),(1,.I y),(5,.A .row q.1),(6,.I q.2)]) (z,a) (rvF Xo) (λq=>(0,[(5,.A .row q)]))
theorem R8(G:Gd Wo){fr x y z a}:Dx fr (zP x y z a):=ja G
def Yo:=λx y=>pcL (λs:LR×Int=>zP x y s.1 s.2) ([],0)
theorem S8(G:Gd Wo){fr x y}:Dx fr (Yo x y):=Aa λ_=>R8 G
def AP(x:LR)(y:Int):TA LR LR:=.sx (Yo x y) (λz=>.l (.n z))
def Gx:=λx y=>pcT (AP x y) [0,1,1] [(0,.S .row x),(1,.I y),(5,.A .row [])] (rvF Xo) (λq=>[(5,.A .row q)])
theorem U8(G:Gd Wo){fr x y}:Dx fr (Gx x y):=fa G (λe=>⟨Yo (gL .row e 0 0) (gI e 1 0)⟩) λ_=>S8 G
def Hx(y:LR)(z:Int):TN LR:=.sn (Gx y z) (λx=>.w [nf x] (.l (.r (He x))))
def V8:=λx y=>pcT (Hx x y) [] [(0,.S .row x),(1,.I y)] (rvF Xo)
theorem X8(G:Gd Wo){fr x y}:Dx fr (V8 x y):=fa G (λe=>⟨Gx (gL .row e 0 0) (gI e 1 0)⟩) λ_=>U8 G
def Ix(x:LR)(y:Int):LR:=ocR (Hx x y).val
def Jx(x:LR)(y:Int):Prop:=(Hx x y).ob
def YG:Spec:=spF [(.lst .row),(.int .i64)] (.one (.acc true) (.lst .row)) Ix Jx
theorem Y8(G:Gd Wo):CP 132 YG:=ua (pts:=[(.lst .row),(.int .i64)]) (F:=Xo) G λ_ _=>X8 G
abbrev Xd:=Plan->List LR->LR×Bool×Unit
abbrev Yd:=Plan->List LR->Prop
def Kx(v:Xd)(p:Yd):Spec:=⟨[(.st .plan),(.lst .lrow)],.tup [(false,(.lst .row)),(true,.bool)],false,λx=>(v x.1 x.2.1,0),λx=>p x.1 x.2.1⟩
def uj(x:Xd)(y:Yd):SP:=[(100,Kx x y),(130,BG),(61,Pf),(62,bw),(131,IG),(132,YG),(78,Ck)]
abbrev wj:Fnn:=⟨[.tmp 4,.tmp 5],.tup [(false,(.lst .row)),(true,.bool)],none,[]⟩
abbrev Kk:=@OkP Tryz.f100 wj
def Lx(c:Xd)(d:Yd)(b:List LR)(_ _:Int)(y:LP)(z:List LR)(x:Int):TX (LR×Bool×Unit) ((List LR)×Int) ((List LR)):=.c (cmp .lss x (ba .plan y)) (.k (c (pE (rd .plan y x)) b) λa=>.w [inb x (ba .plan y),d (pE (rd .plan y x)) b] (.c (!a.2.1) (.l (.r ([],(false,()))))
 (.w [lim (ba .lrow z) (ba .lrow [a.1])] (.l (.n ((z++[a.1]),(ar .add .i64 x 1)))))))
 (.l (.x z))
def BP:=λd f x y z a b c=>pcR (Lx d f x y z a b c) [0,0,1,0,1,1] (λq=>[(1,.S .lrow x),(2,.box [(.fr,.i y),(.fr,.i z),(.sh,.lst .plan a)]),(6,.v (.acc false) (.lst .lrow q.1)),(7,.I q.2)]) (b,c) (rvF wj) (λq=>(0,[(1,.S .lrow x),(2,.box [(.fr,.i y),(.fr,.i z),(.sh,.lst .plan a)]),(6,.v (.acc false) (.lst .lrow q))]))
theorem Z8{x:Xd}{y:Yd}(G:Gd (uj x y)){fr z a b c d f}:Kk fr (BP x y z a b c d f):=ja G
def Zo:=λx y z a b c=>pcL (λs:(List LR)×Int=>BP x y z a b c s.1 s.2) ([],0)
theorem b9{x:Xd}{y:Yd}(G:Gd (uj x y)){fr z a b c}:Kk fr (Zo x y z a b c):=Aa λ_=>Z8 G
def DP(x:Xd)(y:Yd)(z:List LR)(a b:Int)(c:LP):TA (LR×Bool×Unit) ((List LR)):=.sx (Zo x y z a b c) (λd=>.l (.n d))
def Mx:=λb c x y z a=>pcT (DP b c x y z a) [0,1,1] [(1,.S .lrow x),(2,.box [(.fr,.i y),(.fr,.i z),(.sh,.lst .plan a)]),(6,.A .lrow [])] (rvF wj) (λq=>[(1,.S .lrow x),(2,.box [(.fr,.i y),(.fr,.i z),(.sh,.lst .plan a)]),(6,.v (.acc false) (.lst .lrow q))])
theorem c9{x:Xd}{y:Yd}(G:Gd (uj x y)){fr z a b c}:Kk fr (Mx x y z a b c):=fa G (λe=>⟨Zo x y (gL .lrow e 1 0) (gI e 2 0) (gI e 2 1) (gL .plan e 2 2)⟩) λ_=>b9 G
def ZG(_:Xd)(_:Yd)(x:List LR):TA (LR×Bool×Unit) LR:=.w [inb 0 (ba .lrow x),lim (ba .row []) (ba .row (rd .lrow x 0)),inb 1 (ba .lrow x),lim (ba .row ([]++(rd .lrow x 0))) (ba .row (rd .lrow x 1)),nf (([]++(rd .lrow x 0))++(rd .lrow x 1))] (.l (.n (He (([]++(rd .lrow x 0))++(rd .lrow x 1)))))
def Nx:=λy z x=>pcT (ZG y z x) [0,1,1,1,1,1,0,1,0,1,1,1,1] [(6,.v (.acc false) (.lst .lrow x))] (rvF wj) (λq=>[(10,.A .row q)])
theorem d9{x:Xd}{y:Yd}(G:Gd (uj x y)){fr z}:Kk fr (Nx x y z):=ym G [10] [6,10,64,65,66,67,68,69,70,71,72,73] (ZG x y z)
def Ox(b:Xd)(c:Yd)(a:List LR)(z y:Int)(_:LP)(x:List LR):TA (LR×Bool×Unit) LR:=.c (cmp .eql z 1) (.w [inb y (ba .lrow a),lim (ba .row []) (ba .row (rd .lrow a y))] (.l (.n ([]++(rd .lrow a y)))))
 (.c (cmp .eql z 2) (.w [inb 0 (ba .lrow x),Uv (rd .lrow x 0) y] (.l (.n (Tv (rd .lrow x 0) y))))
 (.c (cmp .eql z 3) (.sn (Nx b c x) (λd=>.l (.n d)))
 (.c (cmp .eql z 4) (.w [inb 0 (ba .lrow x),xo (rd .lrow x 0)] (.l (.n (qj (rd .lrow x 0)))))
 (.c (cmp .eql z 5) (.w [inb 0 (ba .lrow x),inb 1 (ba .lrow x),kw (rd .lrow x 0) (rd .lrow x 1)] (.l (.n (jw (rd .lrow x 0) (rd .lrow x 1)))))
 (.w [inb 0 (ba .lrow x),Jx (rd .lrow x 0) y] (.l (.n (Ix (rd .lrow x 0) y))))))))
def Px:=λc d x y z a b=>pcT (Ox c d x y z a b) [0,1,1,1,1] [(1,.S .lrow x),(2,.box [(.fr,.i y),(.fr,.i z),(.sh,.lst .plan a)]),(6,.v (.acc false) (.lst .lrow b)),(10,.A .row [])] (rvF wj) (λq=>[(10,.S .row q)])
theorem g9{x:Xd}{y:Yd}(G:Gd (uj x y)){fr z a b c d}:Kk fr (Px x y z a b c d):=fa G (λe=>⟨Nx x y (gL .lrow e 6 0)⟩) λ_=>d9 G
def Lk(z:Xd)(a:Yd)(x:Plan)(b:List LR):TN (LR×Bool×Unit):=.sn (Mx z a b x.Kind x.Num x.Kids) (λc=>.sn (Px z a b x.Kind x.Num x.Kids c) (λy=>.w [Nh y] (.l (.r (y,((Wg y),()))))))
def j9:=λz a x y=>pcT (Lk z a x y) [] [(0,.agg false [.i x.Kind,.i x.Num,.lst .plan x.Kids]),(1,.S .lrow y)] (rvF wj)
theorem l9{x:Xd}{y:Yd}(G:Gd (uj x y)){fr z a}:Kk fr (j9 x y z a):=Nd G [λe=>⟨Mx x y (gL .lrow e 1 0) (gI e 2 0) (gI e 2 1) (gL .plan e 2 2)⟩,λe=>⟨Px x y (gL .lrow e 1 0) (gI e 2 0) (gI e 2 1) (gL .plan e 2 2) (gL .lrow e 6 0)⟩] ⟨λ_=>c9 G,λ_=>g9 G,trivial⟩
theorem m9{x:Xd}{y:Yd}(G:Gd (uj x y)):CP 100 (Kx (λz a=>ocR (Lk x y z a).val) (λz a=>(Lk x y z a).ob)):=ua (pts:=[(.st .plan),(.lst .lrow)]) (F:=wj) G λ_ _=>l9 G
def Lc:Nat->Xd×Yd
 |0=>(λ_ _=>default,λ_ _=>False)
 |n+1=>(λx y=>ocR (Lk (Lc n).1 (Lc n).2 x y).val,λx y=>(Lk (Lc n).1 (Lc n).2 x y).ob)
def aH:Xd:=(Lc gc).1
def bH:Yd:=(Lc gc).2
def FP:Spec:=Kx aH bH
def cp:SP:=[(99,Zt),(78,Ck),(100,FP)]
abbrev F59:Fnn:=⟨[.tmp 4,.tmp 5],.tup [(false,(.lst .row)),(true,.bool)],none,[]⟩
abbrev Qx:=@OkP Tryz.f59 F59
def Rx(y:List LR)(_ _:Int)(_:LP)(x:Int):TX (LR×Bool×Unit) Int Unit:=.c (cmp .lss x (ba .lrow y)) (.w [inb x (ba .lrow y),Nh (rd .lrow y x)] (.c (!(Wg (rd .lrow y x))) (.l (.r ([],(false,()))))
 (.l (.n (ar .add .i64 x 1)))))
 (.l (.x ()))
def GP:=λx y z a b=>pcR (Rx x y z a b) [0,0,1,0,1,1] (λq=>[(1,.S .lrow x),(2,.box [(.fr,.i y),(.fr,.i z),(.sh,.lst .plan a)]),(6,.I q)]) b (rvF F59) (λ_=>(0,[(1,.S .lrow x),(2,.box [(.fr,.i y),(.fr,.i z),(.sh,.lst .plan a)])]))
theorem n9(G:Gd cp){fr x y z a b}:Qx fr (GP x y z a b):=ja G
def dp:=λx y z a=>pcL (λs:Int=>GP x y z a s) 0
theorem r9(G:Gd cp){fr x y z a}:Qx fr (dp x y z a):=Aa λ_=>n9 G
def HP(x:List LR)(y z:Int)(a:LP):TA (LR×Bool×Unit) Unit:=.sx (dp x y z a) (λ_=>.l (.n ()))
def Sx:=λx y z a=>pcT (HP x y z a) [0,1,1] [(1,.S .lrow x),(2,.box [(.fr,.i y),(.fr,.i z),(.sh,.lst .plan a)])] (rvF F59) (λ_=>[(1,.S .lrow x),(2,.box [(.fr,.i y),(.fr,.i z),(.sh,.lst .plan a)])])
theorem w9(G:Gd cp){fr x y z a}:Qx fr (Sx x y z a):=fa G (λe=>⟨dp (gL .lrow e 1 0) (gI e 2 0) (gI e 2 1) (gL .plan e 2 2)⟩) λ_=>r9 G
def Tx(x:Plan)(y:List LR):TN (LR×Bool×Unit):=.w [cn (pE x)] (.c (cond (!(bn (pE x))) true (cmp .neq (ba .lrow y) 2)) (.l (.r ([],(false,()))))
 (.sn (Sx y x.Kind x.Num x.Kids) (λ_=>.k (aH (pE x) y) λz=>.w [bH (pE x) y] (.c (!z.2.1) (.l (.r ([],(false,()))))
 (.l (.r (z.1,(true,()))))))))
def A9:=λx y=>pcT (Tx x y) [] [(0,.agg false [.i x.Kind,.i x.Num,.lst .plan x.Kids]),(1,.S .lrow y)] (rvF F59)
theorem B9(G:Gd cp){fr x y}:Qx fr (A9 x y):=fa G (λe=>⟨Sx (gL .lrow e 1 0) (gI e 2 0) (gI e 2 1) (gL .plan e 2 2)⟩) λ_=>w9 G
def ep(x:Plan)(y:List LR):LR×Bool×Unit:=ocR (Tx x y).val
def fp(x:Plan)(y:List LR):Prop:=(Tx x y).ob
def Ux:Spec:=spF [(.st .plan),(.lst .lrow)] (.tup [(false,(.lst .row)),(true,.bool)]) ep fp
theorem C9(G:Gd cp):CP 59 Ux:=ua (pts:=[(.st .plan),(.lst .lrow)]) (F:=F59) G λ_ _=>B9 G
def gp:SP:=[(57,ij),(90,Ak)]
abbrev F46:Fnn:=⟨[.tmp 4],.one .fr .bool,none,[]⟩
abbrev Vx:=@OkP Tryz.f46 F46
def Wx(y:List Time)(z:Time)(x:Int):TX Bool Int Unit:=.c (cmp .lss x (ba .time y)) (.w [inb x (ba .time y),zk (rd .time y x) z] (.c (gj (rd .time y x) z) (.l (.r true))
 (.l (.n (ar .add .i64 x 1)))))
 (.l (.x ()))
def IP:=λy x z=>pcR (Wx y x z) [0,0,1,0,1,1] (λq=>[(0,.S .time y),(3,.B [x.A,x.B]),(5,.I q)]) z (rvF F46) (λ_=>(0,[]))
theorem E9(G:Gd gp){fr x y z}:Vx fr (IP x y z):=ja G
def ip:=λx y=>pcL (λs:Int=>IP x y s) 0
theorem H9(G:Gd gp){fr x y}:Vx fr (ip x y):=Aa λ_=>E9 G
def JP(x:List Time)(y:Time):TA Bool Unit:=.sx (ip x y) (λ_=>.l (.n ()))
def Xx:=λy x=>pcT (JP y x) [0,1,1] [(0,.S .time y),(3,.B [x.A,x.B])] (rvF F46) (λ_=>[])
theorem I9(G:Gd gp){fr x y}:Vx fr (Xx x y):=fa G (λe=>⟨ip (gL .time e 0 0) (Pc e 3)⟩) λ_=>H9 G
def Yx(x:List Time)(y:Time):TN Bool:=.w [Rg x] (.c (!(mf x)) (.l (.r false))
 (.sn (Xx x y) (λ_=>.l (.r false))))
def J9:=λy x=>pcT (Yx y x) [] [(0,.S .time y),(1,.agg true [.i x.A,.i x.B])] (rvF F46)
theorem L9(G:Gd gp){fr x y}:Vx fr (J9 x y):=fa G (λe=>⟨Xx (gL .time e 0 0) (Pc e 3)⟩) λ_=>I9 G
def Mk(x:List Time)(y:Time):Bool:=ocR (Yx x y).val
def Nk(x:List Time)(y:Time):Prop:=(Yx x y).ob
def Zx:Spec:=spF [(.lst .time),(.st .time)] (.one .fr .bool) Mk Nk
theorem M9(G:Gd gp):CP 46 Zx:=ua (pts:=[(.lst .time),(.st .time)]) (F:=F46) G λ_ _=>L9 G
def Ok:SP:=[(46,Zx)]
abbrev F60:Fnn:=⟨[.tmp 4],.one .fr (.lst .row),none,[]⟩
abbrev jp:=@OkP Tryz.f60 F60
def ay(x:LR)(a:List Time)(z:LR)(y:Int):TA LR LR:=.w [inb y (ba .row x),Nk a (rd .row x y).At] (.c (!(Mk a (rd .row x y).At)) (.w [inb y (ba .row x),lim (ba .row z) (ba .row [(rd .row x y)])] (.l (.n (z++[(rd .row x y)]))))
 (.l (.n z)))
def cy:=λx y a z=>pcT (ay x y a z) [0,1,0,0,1,0,1,1] [(0,.S .row x),(1,.S .time y),(5,.A .row a),(6,.I z)] (rvF F60) (λq=>[(0,.S .row x),(1,.S .time y),(5,.A .row q),(6,.I z)])
theorem O9(G:Gd Ok){fr x y z a}:jp fr (cy x y z a):=ja G
def dy(y:LR)(a:List Time)(z:LR)(x:Int):TX LR (LR×Int) LR:=.c (cmp .lss x (ba .row y)) (.sn (cy y a z x) (λb=>.l (.n (b,(ar .add .i64 x 1)))))
 (.l (.x z))
def OP:=λx y z a=>pcR (dy x y z a) [0,0,1,0,1,1] (λq=>[(0,.S .row x),(1,.S .time y),(5,.A .row q.1),(6,.I q.2)]) (z,a) (rvF F60) (λq=>(0,[(5,.A .row q)]))
theorem P9(G:Gd Ok){fr x y z a}:jp fr (OP x y z a):=fa G (λe=>⟨cy (gL .row e 0 0) (gL .time e 1 0) (gL .row e 5 0) (gI e 6 0)⟩) λ_=>O9 G
def np:=λx y=>pcL (λs:LR×Int=>OP x y s.1 s.2) ([],0)
theorem Q9(G:Gd Ok){fr x y}:jp fr (np x y):=Aa λ_=>P9 G
def PP(x:LR)(y:List Time):TA LR LR:=.sx (np x y) (λz=>.l (.n z))
def ey:=λx y=>pcT (PP x y) [0,1,1] [(0,.S .row x),(1,.S .time y),(5,.A .row [])] (rvF F60) (λq=>[(5,.A .row q)])
theorem R9(G:Gd Ok){fr x y}:jp fr (ey x y):=fa G (λe=>⟨np (gL .row e 0 0) (gL .time e 1 0)⟩) λ_=>Q9 G
def fy(x:LR)(y:List Time):TN LR:=.sn (ey x y) (λz=>.l (.r z))
def S9:=λx y=>pcT (fy x y) [] [(0,.S .row x),(1,.S .time y)] (rvF F60)
theorem T9(G:Gd Ok){fr x y}:jp fr (S9 x y):=fa G (λe=>⟨ey (gL .row e 0 0) (gL .time e 1 0)⟩) λ_=>R9 G
def Qk(x:LR)(y:List Time):LR:=ocR (fy x y).val
def Rk(x:LR)(y:List Time):Prop:=(fy x y).ob
def qp:Spec:=spF [(.lst .row),(.lst .time)] (.one .fr (.lst .row)) Qk Rk
theorem U9(G:Gd Ok):CP 60 qp:=ua (pts:=[(.lst .row),(.lst .time)]) (F:=F60) G λ_ _=>T9 G
def rp:SP:=[]
abbrev F68:Fnn:=⟨[.tmp 4],.one .fr .bool,none,[]⟩
abbrev iy:=@OkP Tryz.f68 F68
def vp(y z:LR)(x:Int):TX Bool Int Unit:=.c (cmp .lss x (ba .row y)) (.w [inb x (ba .row y),inb x (ba .row z)] (.c (!(cmp .eql (rd .row y x).Key (rd .row z x).Key&&(cmp .eql (rd .row y x).Val (rd .row z x).Val&&(cmp .eql (rd .row y x).At.A (rd .row z x).At.A&&(cmp .eql (rd .row y x).At.B (rd .row z x).At.B&&(cmp .eql (rd .row y x).Diff (rd .row z x).Diff&&true)))))) (.l (.r false))
 (.l (.n (ar .add .i64 x 1)))))
 (.l (.x ()))
def QP:=λx y z=>pcR (vp x y z) [0,0,1,0,1,1] (λq=>[(0,.S .row x),(1,.S .row y),(5,.I q)]) z (rvF F68) (λ_=>(0,[]))
theorem V9(G:Gd rp){fr x y z}:iy fr (QP x y z):=ja G
def Sk:=λx y=>pcL (λs:Int=>QP x y s) 0
theorem W9(G:Gd rp){fr x y}:iy fr (Sk x y):=Aa λ_=>V9 G
def cH(x y:LR):TA Bool Unit:=.sx (Sk x y) (λ_=>.l (.n ()))
def Uk:=λx y=>pcT (cH x y) [0,1,1] [(0,.S .row x),(1,.S .row y)] (rvF F68) (λ_=>[])
theorem X9(G:Gd rp){fr x y}:iy fr (Uk x y):=fa G (λe=>⟨Sk (gL .row e 0 0) (gL .row e 1 0)⟩) λ_=>W9 G
def Vk(x y:LR):TN Bool:=.c (cmp .neq (ba .row x) (ba .row y)) (.l (.r false))
 (.sn (Uk x y) (λ_=>.l (.r true)))
def Y9:=λx y=>pcT (Vk x y) [] [(0,.S .row x),(1,.S .row y)] (rvF F68)
theorem Z9(G:Gd rp){fr x y}:iy fr (Y9 x y):=fa G (λe=>⟨Uk (gL .row e 0 0) (gL .row e 1 0)⟩) λ_=>X9 G
def Xk(x:LR)(y:LR):Bool:=ocR (Vk x y).val
def Yk(x:LR)(y:LR):Prop:=(Vk x y).ob
def dH:Spec:=spF [(.lst .row),(.lst .row)] (.one .fr .bool) Xk Yk
theorem aaa(G:Gd rp):CP 68 dH:=ua (pts:=[(.lst .row),(.lst .row)]) (F:=F68) G λ_ _=>Z9 G
def TP:SP:=[(57,ij),(59,Ux),(60,qp),(68,dH)]
abbrev F28:Fnn:=⟨[.tmp 2],.one .fr .bool,none,[]⟩
abbrev baa:=@OkP Tryz.f28 F28
def jy(x:Sess):TN Bool:=.w [Rg x.Front] (.c (!(mf x.Front)) (.l (.r false))
 (.k (ep (pE x.Plan) x.Ins) λy=>.w [fp (pE x.Plan) x.Ins] (.k (Qk y.1 x.Front) λz=>.w [(y.2.1&&true)=true->(Rk y.1 x.Front),(y.2.1&&true)=true->(Yk z x.Told)] (.l (.r (cond y.2.1 (Xk z x.Told) false))))))
def caa:=λx=>pcT (jy x) [] [(0,.agg false [.i x.Plan.Kind,.i x.Plan.Num,.lst .plan x.Plan.Kids,.lst .lrow x.Ins,.lst .time x.Front,.lst .row x.Told])] (rvF F28)
theorem daa(G:Gd TP){fr x}:baa fr (caa x):=ja G
def Wh(x:Sess):Bool:=ocR (jy x).val
def Xh(x:Sess):Prop:=(jy x).ob
def ly:Spec:=spF [(.st .sess)] (.one .fr .bool) Wh Xh
theorem eaa(G:Gd TP):CP 28 ly:=ua (pts:=[(.st .sess)]) (F:=F28) G λ_ _=>daa G
def Yh:SP:=[(98,iG)]
abbrev F58:Fnn:=⟨[.cell 2 30],.one .sh (.st .sess),none,[]⟩
abbrev Zk:=@OkP Tryz.f58 F58
def my(x y:Int)(z:LP)(_:List LR)(a:List Time)(b:LR):TA Sess (Int×Int×LP×(List Time)×LR):=.w [iu (Plan.mk x y z),lim (ba .time []) (ba .time a),lim (ba .row []) (ba .row b)] (.l (.n ((me (Plan.mk x y z)).Kind,(me (Plan.mk x y z)).Num,(me (Plan.mk x y z)).Kids,([]++a),([]++b))))
def xp:=λx y z a b c=>pcT (my x y z a b c) [0,1] [(1,.box [(.fr,.i x),(.fr,.i y),(.sh,.lst .plan z),(.sh,.lst .lrow a),(.sh,.lst .time b),(.sh,.lst .row c)]),(2,.box [(.fr,.i 0),(.fr,.i 0),(.fr,.nl .plan),(.fr,.nl .lrow),(.fr,.nl .time),(.fr,.nl .row)])] (rvF F58) (λq=>[(1,.box [(.fr,.i x),(.fr,.i y),(.sh,.lst .plan z),(.sh,.lst .lrow a),(.sh,.lst .time b),(.sh,.lst .row c)]),(2,.box [(.fr,.i 0),(.fr,.i 0),(.fr,.nl .plan),(.fr,.nl .lrow),(.fr,.nl .time),(.fr,.nl .row)]),(3,.box [(.fr,.i q.1),(.fr,.i q.2.1),(.sh,.lst .plan q.2.2.1),(.sh,.nl .lrow),(.sh,.lst .time q.2.2.2.1),(.sh,.lst .row q.2.2.2.2)])])
theorem UP(G:Gd Yh){fr x y z a b c}:Zk fr (xp x y z a b c):=ym G [1,2,3] [1,2,3,5,6,7,8,9,10,11,12,13,14,15,16] (my x y z a b c)
def ny(_ _:Int)(_:LP)(x:List LR)(_:List Time)(_:LR)(_ _:Int)(_:LP)(z:List LR)(_:List Time)(_:LR)(y:Int):TA Sess ((List LR)):=.w [inb y (ba .lrow x),lim (ba .row []) (ba .row (rd .lrow x y)),lim (ba .lrow z) (ba .lrow [([]++(rd .lrow x y))])] (.l (.n (z++[([]++(rd .lrow x y))])))
def yp:=λx y z a b c d f g k h i j=>pcT (ny x y z a b c d f g k h i j) [0,0,1,0,0,1,0,1,1] [(1,.box [(.fr,.i x),(.fr,.i y),(.sh,.lst .plan z),(.sh,.lst .lrow a),(.sh,.lst .time b),(.sh,.lst .row c)]),(2,.box [(.fr,.i 0),(.fr,.i 0),(.fr,.nl .plan),(.fr,.nl .lrow),(.fr,.nl .time),(.fr,.nl .row)]),(3,.box [(.fr,.i d),(.fr,.i f),(.sh,.lst .plan g),((.acc false),.lst .lrow k),(.sh,.lst .time h),(.sh,.lst .row i)]),(4,.I j)] (rvF F58) (λq=>[(1,.box [(.fr,.i x),(.fr,.i y),(.sh,.lst .plan z),(.sh,.lst .lrow a),(.sh,.lst .time b),(.sh,.lst .row c)]),(2,.box [(.fr,.i 0),(.fr,.i 0),(.fr,.nl .plan),(.fr,.nl .lrow),(.fr,.nl .time),(.fr,.nl .row)]),(3,.box [(.fr,.i d),(.fr,.i f),(.sh,.lst .plan g),((.acc false),.lst .lrow q),(.sh,.lst .time h),(.sh,.lst .row i)]),(4,.I j)])
theorem faa(G:Gd Yh){fr x y z a b c d f g h i j k}:Zk fr (yp x y z a b c d f g h i j k):=ym G [1,2,3,4] [1,2,3,4,24,25,26,27,28,29,30,31,32,33,34,35] (ny x y z a b c d f g h i j k)
def zp(a b:Int)(c:LP)(y:List LR)(d:List Time)(f:LR)(g h:Int)(i:LP)(j:List Time)(k:LR)(z:List LR)(x:Int):TX Sess ((List LR)×Int) ((List LR)):=.c (cmp .lss x (ba .lrow y)) (.sn (yp a b c y d f g h i z j k x) (λl=>.l (.n (l,(ar .add .i64 x 1)))))
 (.l (.x z))
def eH:=λc d f g h i x y z a b j k=>pcR (zp c d f g h i x y z a b j k) [0,0,1,0,1,1] (λq=>[(1,.box [(.fr,.i c),(.fr,.i d),(.sh,.lst .plan f),(.sh,.lst .lrow g),(.sh,.lst .time h),(.sh,.lst .row i)]),(2,.box [(.fr,.i 0),(.fr,.i 0),(.fr,.nl .plan),(.fr,.nl .lrow),(.fr,.nl .time),(.fr,.nl .row)]),(3,.box [(.fr,.i x),(.fr,.i y),(.sh,.lst .plan z),((.acc false),.lst .lrow q.1),(.sh,.lst .time a),(.sh,.lst .row b)]),(4,.I q.2)]) (j,k) (rvF F58) (λq=>(0,[(2,.box [(.fr,.i 0),(.fr,.i 0),(.fr,.nl .plan),(.fr,.nl .lrow),(.fr,.nl .time),(.fr,.nl .row)]),(3,.box [(.fr,.i x),(.fr,.i y),(.sh,.lst .plan z),((.acc false),.lst .lrow q),(.sh,.lst .time a),(.sh,.lst .row b)])]))
theorem gaa(G:Gd Yh){fr x y z a b c d f g h i j k}:Zk fr (eH x y z a b c d f g h i j k):=fa G (λe=>⟨yp (gI e 1 0) (gI e 1 1) (gL .plan e 1 2) (gL .lrow e 1 3) (gL .time e 1 4) (gL .row e 1 5) (gI e 3 0) (gI e 3 1) (gL .plan e 3 2) (gL .lrow e 3 3) (gL .time e 3 4) (gL .row e 3 5) (gI e 4 0)⟩) λ_=>faa G
def al:=λx y z a b c d f g h i=>pcL (λs:(List LR)×Int=>eH x y z a b c d f g h i s.1 s.2) ([],0)
theorem haa(G:Gd Yh){fr x y z a b c d f g h i}:Zk fr (al x y z a b c d f g h i):=Aa λ_=>gaa G
def qy(x y:Int)(z:LP)(a:List LR)(b:List Time)(c:LR)(d f:Int)(g:LP)(h:List Time)(i:LR):TA Sess ((List LR)):=.sx (al x y z a b c d f g h i) (λj=>.l (.n j))
def Ap:=λc d f g h i x y z a b=>pcT (qy c d f g h i x y z a b) [0,1,1] [(1,.box [(.fr,.i c),(.fr,.i d),(.sh,.lst .plan f),(.sh,.lst .lrow g),(.sh,.lst .time h),(.sh,.lst .row i)]),(2,.box [(.fr,.i 0),(.fr,.i 0),(.fr,.nl .plan),(.fr,.nl .lrow),(.fr,.nl .time),(.fr,.nl .row)]),(3,.box [(.fr,.i x),(.fr,.i y),(.sh,.lst .plan z),(.sh,.nl .lrow),(.sh,.lst .time a),(.sh,.lst .row b)])] (rvF F58) (λq=>[(2,.box [(.fr,.i 0),(.fr,.i 0),(.fr,.nl .plan),(.fr,.nl .lrow),(.fr,.nl .time),(.fr,.nl .row)]),(3,.box [(.fr,.i x),(.fr,.i y),(.sh,.lst .plan z),((.acc false),.lst .lrow q),(.sh,.lst .time a),(.sh,.lst .row b)])])
theorem VP(G:Gd Yh){fr x y z a b c d f g h i}:Zk fr (Ap x y z a b c d f g h i):=fa G (λe=>⟨al (gI e 1 0) (gI e 1 1) (gL .plan e 1 2) (gL .lrow e 1 3) (gL .time e 1 4) (gL .row e 1 5) (gI e 3 0) (gI e 3 1) (gL .plan e 3 2) (gL .time e 3 4) (gL .row e 3 5)⟩) λ_=>haa G
def cl(x:Sess):TN Sess:=.sn (xp x.Plan.Kind x.Plan.Num x.Plan.Kids x.Ins x.Front x.Told) (λy=>.sn (Ap x.Plan.Kind x.Plan.Num x.Plan.Kids x.Ins x.Front x.Told y.1 y.2.1 y.2.2.1 y.2.2.2.1 y.2.2.2.2) (λz=>.l (.r (Sess.mk (Plan.mk y.1 y.2.1 y.2.2.1) z y.2.2.2.1 y.2.2.2.2))))
def iaa:=λx=>pcT (cl x) [] [(0,.agg false [.i x.Plan.Kind,.i x.Plan.Num,.lst .plan x.Plan.Kids,.lst .lrow x.Ins,.lst .time x.Front,.lst .row x.Told])] (rvF F58)
theorem jaa(G:Gd Yh){fr x}:Zk fr (iaa x):=Nd G [λe=>⟨xp (gI e 1 0) (gI e 1 1) (gL .plan e 1 2) (gL .lrow e 1 3) (gL .time e 1 4) (gL .row e 1 5)⟩,λe=>⟨Ap (gI e 1 0) (gI e 1 1) (gL .plan e 1 2) (gL .lrow e 1 3) (gL .time e 1 4) (gL .row e 1 5) (gI e 3 0) (gI e 3 1) (gL .plan e 3 2) (gL .time e 3 4) (gL .row e 3 5)⟩] ⟨λ_=>UP G,λ_=>VP G,trivial⟩
def Zc(x:Sess):Sess:=ocR (cl x).val
def Qf(x:Sess):Prop:=(cl x).ob
def ry:Spec:=spF [(.st .sess)] (.one .sh (.st .sess)) Zc Qf
theorem kaa(G:Gd Yh):CP 58 ry:=ua (pts:=[(.st .sess)]) (F:=F58) G λ_ _=>jaa G
def dl:SP:=[(28,ly),(57,ij),(46,Zx),(58,ry),(59,Ux),(60,qp),(62,bw),(61,Pf)]
abbrev F22:Fnn:=⟨[.cell 4 30,.tmp 5,.tmp 6],.tup [(false,(.st .sess)),(false,(.lst .row)),(true,.bool)],none,[]⟩
abbrev Bp:=@OkP Tryz.f22 F22
def sy(y:List Time)(_ _:Int)(_:LP)(_:List LR)(z:List Time)(_:LR)(x:Int):TX (Sess×LR×Bool×Unit) Int Unit:=.c (cmp .lss x (ba .time y)) (.w [inb x (ba .time y),Nk z (rd .time y x)] (.c (!(Mk z (rd .time y x))) (.l (.r ((Sess.mk (Plan.mk 0 0 []) [] [] []),([],(false,())))))
 (.l (.n (ar .add .i64 x 1)))))
 (.l (.x ()))
def WP:=λx y z a b c d f=>pcR (sy x y z a b c d f) [0,0,1,0,1,1,1] (λq=>[(1,.S .time x),(2,.box [(.fr,.i y),(.fr,.i z),(.sh,.lst .plan a),(.sh,.lst .lrow b),(.sh,.lst .time c),(.sh,.lst .row d)]),(4,.box [(.fr,.i 0),(.fr,.i 0),(.fr,.nl .plan),(.fr,.nl .lrow),(.fr,.nl .time),(.fr,.nl .row)]),(7,.A .row []),(8,.I q)]) f (rvF F22) (λ_=>(0,[(1,.S .time x),(2,.box [(.fr,.i y),(.fr,.i z),(.sh,.lst .plan a),(.sh,.lst .lrow b),(.sh,.lst .time c),(.sh,.lst .row d)]),(4,.box [(.fr,.i 0),(.fr,.i 0),(.fr,.nl .plan),(.fr,.nl .lrow),(.fr,.nl .time),(.fr,.nl .row)])]))
theorem laa(G:Gd dl){fr x y z a b c d f}:Bp fr (WP x y z a b c d f):=ja G
def Cp:=λx y z a b c d=>pcL (λs:Int=>WP x y z a b c d s) 0
theorem maa(G:Gd dl){fr x y z a b c d}:Bp fr (Cp x y z a b c d):=Aa λ_=>laa G
def aQ(x:List Time)(y z:Int)(a:LP)(b:List LR)(c:List Time)(d:LR):TA (Sess×LR×Bool×Unit) Unit:=.sx (Cp x y z a b c d) (λ_=>.l (.n ()))
def uy:=λx y z a b c d=>pcT (aQ x y z a b c d) [0,1,1,1] [(1,.S .time x),(2,.box [(.fr,.i y),(.fr,.i z),(.sh,.lst .plan a),(.sh,.lst .lrow b),(.sh,.lst .time c),(.sh,.lst .row d)]),(4,.box [(.fr,.i 0),(.fr,.i 0),(.fr,.nl .plan),(.fr,.nl .lrow),(.fr,.nl .time),(.fr,.nl .row)]),(7,.A .row [])] (rvF F22) (λ_=>[(1,.S .time x),(2,.box [(.fr,.i y),(.fr,.i z),(.sh,.lst .plan a),(.sh,.lst .lrow b),(.sh,.lst .time c),(.sh,.lst .row d)]),(4,.box [(.fr,.i 0),(.fr,.i 0),(.fr,.nl .plan),(.fr,.nl .lrow),(.fr,.nl .time),(.fr,.nl .row)])])
theorem naa(G:Gd dl){fr x y z a b c d}:Bp fr (uy x y z a b c d):=fa G (λe=>⟨Cp (gL .time e 1 0) (gI e 2 0) (gI e 2 1) (gL .plan e 2 2) (gL .lrow e 2 3) (gL .time e 2 4) (gL .row e 2 5)⟩) λ_=>maa G
def fH(_ _:Int)(_:LP)(_:List LR)(_:List Time)(x:LR)(_ _:Int)(_:LP)(_:List LR)(_:List Time)(y:LR):TA (Sess×LR×Bool×Unit) LR:=.w [lim (ba .row []) (ba .row y),xo x,lim (ba .row ([]++y)) (ba .row (qj x)),nf (([]++y)++(qj x))] (.l (.n (He (([]++y)++(qj x)))))
def wy:=λd f g h i j x y z a b c=>pcT (fH d f g h i j x y z a b c) [0,1,1,1,1,1,1,1,1] [(2,.box [(.fr,.i d),(.fr,.i f),(.sh,.lst .plan g),(.sh,.lst .lrow h),(.sh,.lst .time i),(.sh,.lst .row j)]),(4,.box [(.fr,.i 0),(.fr,.i 0),(.fr,.nl .plan),(.fr,.nl .lrow),(.fr,.nl .time),(.fr,.nl .row)]),(9,.box [(.fr,.i x),(.fr,.i y),(.sh,.lst .plan z),(.sh,.lst .lrow a),((.acc false),.lst .time b),(.fr,.lst .row c)])] (rvF F22) (λq=>[(4,.box [(.fr,.i 0),(.fr,.i 0),(.fr,.nl .plan),(.fr,.nl .lrow),(.fr,.nl .time),(.fr,.nl .row)]),(9,.box [(.fr,.i x),(.fr,.i y),(.sh,.lst .plan z),(.sh,.lst .lrow a),((.acc false),.lst .time b),(.fr,.lst .row c)]),(12,.A .row q)])
theorem oaa(G:Gd dl){fr x y z a b c d f g h i j}:Bp fr (wy x y z a b c d f g h i j):=any_ok G [4,9,12] 45 (fH x y z a b c d f g h i j) rfl rfl rfl (by kernel_rfl) (by kernel_rfl) (by kernel_rfl)
def xy(x:Sess)(y:List Time):TN (Sess×LR×Bool×Unit):=.k (Wh (sE x)) λa=>.w [Xh (sE x),((!(!a))&&true)=true->(Rg y)] (.c (cond (!a) true (!(mf y))) (.l (.r ((Sess.mk (Plan.mk 0 0 []) [] [] []),([],(false,())))))
 (.sn (uy y x.Plan.Kind x.Plan.Num x.Plan.Kids x.Ins x.Front x.Told) (λ_=>.k (Zc (sE x)) λz=>.w [Qf (sE x)] (.k (ep (pE x.Plan) x.Ins) λb=>.w [fp (pE x.Plan) x.Ins] (.w [lim (ba .time []) (ba .time y)] (.k (Qk b.1 y) λc=>.w [Rk b.1 y] (.sn (wy x.Plan.Kind x.Plan.Num x.Plan.Kids x.Ins x.Front x.Told z.Plan.Kind z.Plan.Num z.Plan.Kids z.Ins ([]++y) c) (λd=>.l (.r ((Sess.mk (pE z.Plan) z.Ins ([]++y) c),(d,(true,()))))))))))))
def paa:=λx y=>pcT (xy x y) [] [(0,.agg false [.i x.Plan.Kind,.i x.Plan.Num,.lst .plan x.Plan.Kids,.lst .lrow x.Ins,.lst .time x.Front,.lst .row x.Told]),(1,.S .time y)] (rvF F22)
theorem qaa(G:Gd dl){fr x y}:Bp fr (paa x y):=Nd G [λe=>⟨uy (gL .time e 1 0) (gI e 2 0) (gI e 2 1) (gL .plan e 2 2) (gL .lrow e 2 3) (gL .time e 2 4) (gL .row e 2 5)⟩,λe=>⟨wy (gI e 2 0) (gI e 2 1) (gL .plan e 2 2) (gL .lrow e 2 3) (gL .time e 2 4) (gL .row e 2 5) (gI e 9 0) (gI e 9 1) (gL .plan e 9 2) (gL .lrow e 9 3) (gL .time e 9 4) (gL .row e 9 5)⟩] ⟨λ_=>naa G,λ_=>oaa G,trivial⟩
def tg(x:Sess)(y:List Time):Sess×LR×Bool×Unit:=ocR (xy x y).val
def zy(x:Sess)(y:List Time):Prop:=(xy x y).ob
def gH:Spec:=spF [(.st .sess),(.lst .time)] (.tup [(false,(.st .sess)),(false,(.lst .row)),(true,.bool)]) tg zy
theorem raa(G:Gd dl):CP 22 gH:=ua (pts:=[(.st .sess),(.lst .time)]) (F:=F22) G λ_ _=>qaa G
def bQ:SP:=[(44,Of),(45,nn)]
abbrev F89:Fnn:=⟨[.cell 2 48],.one .fr (.st .row),some 0,[]⟩
abbrev saa:=@OkP Tryz.f89 F89
def Ay(x:(LB×Int)):TN (Row×Int):=.k (ia (x.1,x.2) 4) λz=>.k (ia (x.1,z.2) 9) λy=>.k (Jh (x.1,y.2)) λa=>.k (ia (x.1,a.2) 8) λb=>.w [Lb (x.1,x.2) 4,Lb (x.1,z.2) 9,inb y.1 (ba .int [0,1,2,3,4,9,10,57,99]),yk (x.1,y.2),Lb (x.1,a.2) 8,inb b.1 (ba .int [1,1,1,2,(-1),(-1),3,0])] (.l (.r ((Row.mk z.1 (rd .int [0,1,2,3,4,9,10,57,99] y.1) a.1 (rd .int [1,1,1,2,(-1),(-1),3,0] b.1)),b.2)))
def taa:=λx=>pcT (Ay x) [] [(0,.R x.1 x.2)] (rvR F89 x.1)
theorem uaa(G:Gd bQ){fr x}:saa fr (taa x):=ja G
def ug(x:(LB×Int)):Row×Int:=ocR (Ay x).val
def Ep(x:(LB×Int)):Prop:=(Ay x).ob
def By:Spec:=spR [.rdr] (.one .fr (.st .row)) ug Ep
theorem vaa(G:Gd bQ):CP 89 By:=Ze (pts:=[.rdr]) (F:=F89) G (λx=>x.1.1) λ_ _=>uaa G
def xj:SP:=[(44,Of),(89,By)]
abbrev yj:Fnn:=⟨[.tmp 4],.one (.acc true) (.lst .row),some 0,[]⟩
abbrev fl:=@OkP Tryz.f112 yj
def Fp(z:LB)(a:Int)(x:LR)(_:Int)(b:Row):TA (LR×Int) (Int×Int×Int×Int):=.k (ia (z,a) 3) λc=>.w [((cmp .gtr (ba .row x) 0)&&true)=true->(Lb (z,a) 3)] (.c (cond (cmp .gtr (ba .row x) 0) (cmp .eql c.1 0) false) (.k (ia (z,(cond ((cmp .gtr (ba .row x) 0)&&true) c.2 a)) (ba .row x)) λy=>.w [(Lb (z,(cond ((cmp .gtr (ba .row x) 0)&&true) c.2 a)) (ba .row x)),inb y.1 (ba .row x)] (.k (ia (z,y.2) 2) λd=>.w [Lb (z,y.2) 2] (.c (cmp .eql d.1 0) (.l (.n (d.2,(rd .row x y.1).Key,(rd .row x y.1).Val,(IntKind.wrap .i64 (0 - (rd .row x y.1).Diff)))))
 (.l (.n (d.2,(rd .row x y.1).Key,(rd .row x y.1).Val,b.Diff))))))
 (.l (.n ((cond ((cmp .gtr (ba .row x) 0)&&true) c.2 a),b.Key,b.Val,b.Diff))))
def Cy:=λy b z a x=>pcT (Fp y b z a x) [0,1,0,0,1,0,0,1,0,1,1] [(0,.R y b),(5,.A .row z),(6,.I a),(7,.B [x.Key,x.Val,x.At.A,x.At.B,x.Diff])] (rvR yj y) (λq=>[(0,.R y q.1),(5,.A .row z),(6,.I a),(7,.B [q.2.1,q.2.2.1,x.At.A,x.At.B,q.2.2.2])])
theorem waa(G:Gd xj){fr x y z a b}:fl fr (Cy x y z a b):=ja G
def cQ(z:LB)(b:Int)(a:LR)(c:Int):TA (LR×Int) (Int×LR):=.k (ug (z,b)) λy=>.w [Ep (z,b)] (.sn (Cy z y.2 a c y.1) (λx=>.w [lim (ba .row a) (ba .row [(Row.mk x.2.1 x.2.2.1 y.1.At x.2.2.2)])] (.l (.n (x.1,(a++[(Row.mk x.2.1 x.2.2.1 y.1.At x.2.2.2)]))))))
def Gp:=λx z a y=>pcT (cQ x z a y) [0,1,0,0,1,0,1,1] [(0,.R x z),(5,.A .row a),(6,.I y)] (rvR yj x) (λq=>[(0,.R x q.1),(5,.A .row q.2),(6,.I y)])
theorem xaa(G:Gd xj){fr x y z a}:fl fr (Gp x y z a):=fa G (λe=>⟨Cy (gL .byte e 0 0) (gI e 0 1) (gL .row e 5 0) (gI e 6 0) (gRow e 7)⟩) λ_=>waa G
def Dy(b:LB)(_ _ y:Int)(z:LR)(x:Int):TX (LR×Int) (Int×LR×Int) (Int×LR):=.c (cmp .gtr x 0) (.sn (Gp b y z x) (λa=>.l (.n (a.1,a.2,(ar .sub .i64 x 1)))))
 (.l (.x (y,z)))
def dQ:=λx b c y z a=>pcR (Dy x b c y z a) [0,0,1,0,1,1] (λq=>[(0,.R x q.1),(5,.A .row q.2.1),(6,.I q.2.2)]) (y,z,a) (rvR yj x) (λq=>(0,[(0,.R x q.1),(5,.A .row q.2)]))
theorem yaa(G:Gd xj){fr x y z a b c}:fl fr (dQ x y z a b c):=fa G (λe=>⟨Gp (gL .byte e 0 0) (gI e 0 1) (gL .row e 5 0) (gI e 6 0)⟩) λ_=>xaa G
def Hp:=λz x y=>pcL (λs:Int×LR×Int=>dQ z x y s.1 s.2.1 s.2.2) (x,[],y)
theorem zaa(G:Gd xj){fr x y z}:fl fr (Hp x y z):=Aa λ_=>yaa G
def eQ(x:LB)(y z:Int):TA (LR×Int) (Int×LR):=.k (ia (x,y) (ar .add .i64 z 1)) λa=>.w [Lb (x,y) (ar .add .i64 z 1)] (.sx (Hp x a.2 a.1) (λb=>.l (.n (b.1,b.2))))
def Ey:=λx y z=>pcT (eQ x y z) [0,1,1] [(0,.R x y),(1,.I z),(5,.A .row [])] (rvR yj x) (λq=>[(0,.R x q.1),(5,.A .row q.2)])
theorem Aaa(G:Gd xj){fr x y z}:fl fr (Ey x y z):=fa G (λe=>⟨Hp (gL .byte e 0 0) (gI e 0 1) (gI e 6 0)⟩) λ_=>zaa G
def Fy(x:(LB×Int))(z:Int):TN (LR×Int):=.sn (Ey x.1 x.2 z) (λy=>.l (.r (y.2,y.1)))
def Baa:=λx y=>pcT (Fy x y) [] [(0,.R x.1 x.2),(1,.I y)] (rvR yj x.1)
theorem Caa(G:Gd xj){fr x y}:fl fr (Baa x y):=fa G (λe=>⟨Ey (gL .byte e 0 0) (gI e 0 1) (gI e 1 0)⟩) λ_=>Aaa G
def Zh(x:(LB×Int))(y:Int):LR×Int:=ocR (Fy x y).val
def Gy(x:(LB×Int))(y:Int):Prop:=(Fy x y).ob
def iH:Spec:=spR [.rdr,(.int .i64)] (.one (.acc true) (.lst .row)) Zh Gy
theorem Daa(G:Gd xj):CP 112 iH:=Ze (pts:=[.rdr,(.int .i64)]) (F:=yj) G (λx=>x.1.1) λ_ _=>Caa G
def fQ:SP:=[(93,mj),(61,Pf),(102,Wv)]
abbrev jH:Fnn:=⟨[.tmp 2],.one .sh (.lst .row),none,[]⟩
abbrev Eaa:=@OkP Tryz.f111 jH
def Hy(x:LR):TN LR:=.w [Mh x] (.c (!(Ug x)) (.l (.r []))
 (.w [nf x,uo (He x)] (.l (.r (ro (He x))))))
def Faa:=λx=>pcT (Hy x) [] [(0,.S .row x)] (rvF jH)
theorem Gaa(G:Gd fQ){fr x}:Eaa fr (Faa x):=ja G
def gl(x:LR):LR:=ocR (Hy x).val
def Ip(x:LR):Prop:=(Hy x).ob
def Iy:Spec:=spF [(.lst .row)] (.one .sh (.lst .row)) gl Ip
theorem Haa(G:Gd fQ):CP 111 Iy:=ua (pts:=[(.lst .row)]) (F:=jH) G λ_ _=>Gaa G
def gQ:SP:=[(112,iH),(111,Iy)]
abbrev F75:Fnn:=⟨[.tmp 4],.one .sh (.lst .row),some 0,[]⟩
abbrev Iaa:=@OkP Tryz.f75 F75
def Jy(x:(LB×Int))(z:Int):TN (LR×Int):=.k (Zh (x.1,x.2) z) λy=>.w [Gy (x.1,x.2) z,Ip y.1] (.l (.r ((gl y.1),y.2)))
def Jaa:=λx y=>pcT (Jy x y) [] [(0,.R x.1 x.2),(1,.I y)] (rvR F75 x.1)
theorem Kaa(G:Gd gQ){fr x y}:Iaa fr (Jaa x y):=ja G
def Mb(x:(LB×Int))(y:Int):LR×Int:=ocR (Jy x y).val
def Ky(x:(LB×Int))(y:Int):Prop:=(Jy x y).ob
def kH:Spec:=spR [.rdr,(.int .i64)] (.one .sh (.lst .row)) Mb Ky
theorem Laa(G:Gd gQ):CP 75 kH:=Ze (pts:=[.rdr,(.int .i64)]) (F:=F75) G (λx=>x.1.1) λ_ _=>Kaa G
def zj:SP:=[(57,ij),(44,Of),(91,Bk),(111,Iy)]
abbrev F76:Fnn:=⟨[.tmp 6],.one .sh (.lst .row),some 0,[]⟩
abbrev il:=@OkP Tryz.f76 F76
def Jp(b:LB)(a:Int)(_:LR)(x:List Time)(_:LR)(_:Int)(y:Row):TA (LR×Int) (Int×Int×Int):=.w [((cmp .gtr (ba .time x) 0)&&true)=true->(Rg x)] (.c (cond (cmp .gtr (ba .time x) 0) (mf x) false) (.k (ia (b,a) (ba .time x)) λz=>.k (jj y.At (rd .time x z.1)) λc=>.w [Lb (b,a) (ba .time x),inb z.1 (ba .time x),Sg y.At (rd .time x z.1)] (.l (.n (z.2,c.A,c.B))))
 (.l (.n (a,y.At.A,y.At.B))))
def Ly:=λy d z a b c x=>pcT (Jp y d z a b c x) [0,1,0,0,1,0,0,1,0,1,1] [(0,.R y d),(1,.S .row z),(2,.S .time a),(7,.A .row b),(8,.I c),(9,.B [x.Key,x.Val,x.At.A,x.At.B,x.Diff])] (rvR F76 y) (λq=>[(0,.R y q.1),(1,.S .row z),(2,.S .time a),(7,.A .row b),(8,.I c),(9,.B [x.Key,x.Val,q.2.1,q.2.2,x.Diff])])
theorem Maa(G:Gd zj){fr x y z a b c d}:il fr (Ly x y z a b c d):=ja G
def iQ(b:LB)(c:Int)(x:LR)(d:List Time)(a:LR)(y:Int):TA (LR×Int) (Int×LR):=.w [inb y (ba .row x)] (.sn (Ly b c x d a y (rd .row x y)) (λz=>.w [lim (ba .row a) (ba .row [(Row.mk (rd .row x y).Key (rd .row x y).Val (Time.mk z.2.1 z.2.2) (rd .row x y).Diff)])] (.l (.n (z.1,(a++[(Row.mk (rd .row x y).Key (rd .row x y).Val (Time.mk z.2.1 z.2.2) (rd .row x y).Diff)]))))))
def My:=λx b y z c a=>pcT (iQ x b y z c a) [0,1,0,0,1,0,1,1] [(0,.R x b),(1,.S .row y),(2,.S .time z),(7,.A .row c),(8,.I a)] (rvR F76 x) (λq=>[(0,.R x q.1),(1,.S .row y),(2,.S .time z),(7,.A .row q.2),(8,.I a)])
theorem Naa(G:Gd zj){fr x y z a b c}:il fr (My x y z a b c):=fa G (λe=>⟨Ly (gL .byte e 0 0) (gI e 0 1) (gL .row e 1 0) (gL .time e 2 0) (gL .row e 7 0) (gI e 8 0) (gRow e 9)⟩) λ_=>Maa G
def Ny(c:LB)(_:Int)(y:LR)(d:List Time)(z:Int)(a:LR)(x:Int):TX (LR×Int) (Int×LR×Int) (Int×LR):=.c (cmp .lss x (ba .row y)) (.sn (My c z y d a x) (λb=>.l (.n (b.1,b.2,(ar .add .i64 x 1)))))
 (.l (.x (z,a)))
def jQ:=λx d y z a b c=>pcR (Ny x d y z a b c) [0,0,1,0,1,1] (λq=>[(0,.R x q.1),(1,.S .row y),(2,.S .time z),(7,.A .row q.2.1),(8,.I q.2.2)]) (a,b,c) (rvR F76 x) (λq=>(0,[(0,.R x q.1),(7,.A .row q.2)]))
theorem Oaa(G:Gd zj){fr x y z a b c d}:il fr (jQ x y z a b c d):=fa G (λe=>⟨My (gL .byte e 0 0) (gI e 0 1) (gL .row e 1 0) (gL .time e 2 0) (gL .row e 7 0) (gI e 8 0)⟩) λ_=>Naa G
def Kp:=λy x z a=>pcL (λs:Int×LR×Int=>jQ y x z a s.1 s.2.1 s.2.2) (x,[],0)
theorem Paa(G:Gd zj){fr x y z a}:il fr (Kp x y z a):=Aa λ_=>Oaa G
def kQ(y:LB)(z:Int)(a:LR)(b:List Time):TA (LR×Int) (Int×LR):=.sx (Kp y z a b) (λx=>.l (.n (x.1,x.2)))
def Oy:=λx y z a=>pcT (kQ x y z a) [0,1,1] [(0,.R x y),(1,.S .row z),(2,.S .time a),(7,.A .row [])] (rvR F76 x) (λq=>[(0,.R x q.1),(7,.A .row q.2)])
theorem Qaa(G:Gd zj){fr x y z a}:il fr (Oy x y z a):=fa G (λe=>⟨Kp (gL .byte e 0 0) (gI e 0 1) (gL .row e 1 0) (gL .time e 2 0)⟩) λ_=>Paa G
def Py(y:(LB×Int))(z:LR)(a:List Time):TN (LR×Int):=.sn (Oy y.1 y.2 z a) (λx=>.w [Ip x.2] (.l (.r ((gl x.2),x.1))))
def Raa:=λx y z=>pcT (Py x y z) [] [(0,.R x.1 x.2),(1,.S .row y),(2,.S .time z)] (rvR F76 x.1)
theorem Saa(G:Gd zj){fr x y z}:il fr (Raa x y z):=fa G (λe=>⟨Oy (gL .byte e 0 0) (gI e 0 1) (gL .row e 1 0) (gL .time e 2 0)⟩) λ_=>Qaa G
def Zd(x:(LB×Int))(y:LR)(z:List Time):LR×Int:=ocR (Py x y z).val
def Qy(x:(LB×Int))(y:LR)(z:List Time):Prop:=(Py x y z).ob
def lH:Spec:=spR [.rdr,(.lst .row),(.lst .time)] (.one .sh (.lst .row)) Zd Qy
theorem Taa(G:Gd zj):CP 76 lH:=Ze (pts:=[.rdr,(.lst .row),(.lst .time)]) (F:=F76) G (λx=>x.1.1) λ_ _=>Saa G
def Ry:SP:=[(28,ly),(77,wk),(78,Ck),(60,qp),(58,ry),(61,Pf)]
abbrev F34:Fnn:=⟨[.cell 6 30,.tmp 7],.tup [(false,(.st .sess)),(true,.bool)],none,[]⟩
abbrev mH:=@OkP Tryz.f34 F34
def nH(_:Int)(_:LR)(x y:Int)(z:LP)(a:List LR)(b:List Time)(c:LR):TA (Sess×Bool×Unit) (Int×Int×LP×(List LR)×(List Time)×LR):=.w [Qf (Sess.mk (Plan.mk x y z) a b c)] (.l (.n ((Zc (Sess.mk (Plan.mk x y z) a b c)).Plan.Kind,(Zc (Sess.mk (Plan.mk x y z) a b c)).Plan.Num,(Zc (Sess.mk (Plan.mk x y z) a b c)).Plan.Kids,(Zc (Sess.mk (Plan.mk x y z) a b c)).Ins,(Zc (Sess.mk (Plan.mk x y z) a b c)).Front,(Zc (Sess.mk (Plan.mk x y z) a b c)).Told)))
def Sy:=λx y z a b c d f=>pcT (nH x y z a b c d f) [0,1,1] [(1,.I x),(2,.S .row y),(3,.box [(.fr,.i z),(.fr,.i a),(.sh,.lst .plan b),(.sh,.lst .lrow c),(.sh,.lst .time d),(.sh,.lst .row f)]),(6,.box [(.fr,.i 0),(.fr,.i 0),(.fr,.nl .plan),(.fr,.nl .lrow),(.fr,.nl .time),(.fr,.nl .row)])] (rvF F34) (λq=>[(1,.I x),(2,.S .row y),(6,.box [(.fr,.i 0),(.fr,.i 0),(.fr,.nl .plan),(.fr,.nl .lrow),(.fr,.nl .time),(.fr,.nl .row)]),(8,.box [(.fr,.i q.1),(.fr,.i q.2.1),(.sh,.lst .plan q.2.2.1),((.acc false),.lst .lrow q.2.2.2.1),(.sh,.lst .time q.2.2.2.2.1),(.sh,.lst .row q.2.2.2.2.2)])])
theorem Uaa(G:GdB Ry 58 Zc Qf){fr f g x z a b c d}:mH fr (Sy f g x z a b c d):=IV G.g G.b 30 3 32 33 8 [(1,.same),(2,.same),(6,.same),(8,.same)] (nH f g x z a b c d) (y:=Sess.mk (Plan.mk x z a) b c d)
def oH(x _ _:Int)(_:LP)(y:List LR)(_:List Time)(_ z:LR):TA (Sess×Bool×Unit) ((List LR)):=.w [inb x (ba .lrow y)] (.l (.n (List.set y (Int.toNat x) z)))
def Uy:=λc x y z d a b f=>pcT (oH c x y z d a b f) [0,1,1,1,1,1] [(1,.I c),(6,.box [(.fr,.i 0),(.fr,.i 0),(.fr,.nl .plan),(.fr,.nl .lrow),(.fr,.nl .time),(.fr,.nl .row)]),(8,.box [(.fr,.i x),(.fr,.i y),(.sh,.lst .plan z),((.acc false),.lst .lrow d),(.sh,.lst .time a),(.sh,.lst .row b)]),(9,.A .row f)] (rvF F34) (λq=>[(6,.box [(.fr,.i 0),(.fr,.i 0),(.fr,.nl .plan),(.fr,.nl .lrow),(.fr,.nl .time),(.fr,.nl .row)]),(8,.box [(.fr,.i x),(.fr,.i y),(.sh,.lst .plan z),((.acc false),.lst .lrow q),(.sh,.lst .time a),(.sh,.lst .row b)])])
theorem Vaa(G:GdB Ry 58 Zc Qf){fr h x a b c d f g}:mH fr (Uy h x a b c d f g):=LV G.g 30 26 28 8 1 9 48 49 50 51 52 [(0,3),(3,1),(4,1),(5,1)] 1 [(6,.same),(8,.same)] (oH h x a b c d f g) (y:=Sess.mk (Plan.mk x a b) c d f) (kr:=(.acc true)) (z:=g)
def Vy(y:Sess)(z:Int)(a:LR):TN (Sess×Bool×Unit):=.k (Wh (sE y)) λb=>.k (xd z 0 1) λc=>.w [Xh (sE y),((!(!b))&&true)=true->(rg z 0 1),((!(cond (!b) true (!c)))&&true)=true->(Nh a),((!(cond (cond (!b) true (!c)) true (!(Wg a))))&&true)=true->(Rk a y.Front)] (.c (cond (cond (cond (!b) true (!c)) true (!(Wg a))) true (cmp .gtr (ba .row (Qk a y.Front)) 0)) (.l (.r ((Sess.mk (Plan.mk 0 0 []) [] [] []),(false,()))))
 (.sn (Sy z a y.Plan.Kind y.Plan.Num y.Plan.Kids y.Ins y.Front y.Told) (λx=>.k (He (([]++(rd .lrow x.2.2.2.1 z))++a)) λd=>.w [inb z (ba .lrow x.2.2.2.1),lim (ba .row []) (ba .row (rd .lrow x.2.2.2.1 z)),lim (ba .row ([]++(rd .lrow x.2.2.2.1 z))) (ba .row a),nf (([]++(rd .lrow x.2.2.2.1 z))++a)] (.w [Nh d] (.c (!(Wg d)) (.l (.r ((Sess.mk (Plan.mk 0 0 []) [] [] []),(false,()))))
 (.sn (Uy z x.1 x.2.1 x.2.2.1 x.2.2.2.1 x.2.2.2.2.1 x.2.2.2.2.2 d) (λf=>.w [Xh (Sess.mk (Plan.mk x.1 x.2.1 x.2.2.1) f x.2.2.2.2.1 x.2.2.2.2.2)] (.c (!(Wh (Sess.mk (Plan.mk x.1 x.2.1 x.2.2.1) f x.2.2.2.2.1 x.2.2.2.2.2))) (.l (.r ((Sess.mk (Plan.mk 0 0 []) [] [] []),(false,()))))
 (.l (.r ((Sess.mk (Plan.mk x.1 x.2.1 x.2.2.1) f x.2.2.2.2.1 x.2.2.2.2.2),(true,()))))))))))))
def Waa:=λx y z=>pcT (Vy x y z) [] [(0,.agg false [.i x.Plan.Kind,.i x.Plan.Num,.lst .plan x.Plan.Kids,.lst .lrow x.Ins,.lst .time x.Front,.lst .row x.Told]),(1,.I y),(2,.S .row z)] (rvF F34)
theorem Xaa(G:GdB Ry 58 Zc Qf){fr x y z}:mH fr (Waa x y z):=Nd G.g [λe=>⟨Sy (gI e 1 0) (gL .row e 2 0) (gI e 3 0) (gI e 3 1) (gL .plan e 3 2) (gL .lrow e 3 3) (gL .time e 3 4) (gL .row e 3 5)⟩,λe=>⟨Uy (gI e 1 0) (gI e 8 0) (gI e 8 1) (gL .plan e 8 2) (gL .lrow e 8 3) (gL .time e 8 4) (gL .row e 8 5) (gL .row e 9 0)⟩] ⟨λ_=>Uaa G,λ_=>Vaa G,trivial⟩
def vg(x:Sess)(y:Int)(z:LR):Sess×Bool×Unit:=ocR (Vy x y z).val
def Wy(x:Sess)(y:Int)(z:LR):Prop:=(Vy x y z).ob
def pH:Spec:=spF [(.st .sess),(.int .i64),(.lst .row)] (.tup [(false,(.st .sess)),(true,.bool)]) vg Wy
theorem Yaa(G:GdB Ry 58 Zc Qf):CP 34 pH:=ua (pts:=[(.st .sess),(.int .i64),(.lst .row)]) (F:=F34) G.g λ_ _=>Xaa G
def qH:SP:=[(45,nn),(44,Of)]
abbrev F48:Fnn:=⟨[.cell 2 32],.one .fr (.st .time),some 0,[]⟩
abbrev lQ:=@OkP Tryz.f48 F48
def Mp(y:LB)(c:Int)(z:Time):TA (Time×Int) (Int×Int×Int):=.k (ia (y,c) 16) λx=>.w [Lb (y,c) 16] (.c (cmp .eql x.1 0) (.k (ia (y,x.2) 2) λa=>.w [Lb (y,x.2) 2,inb a.1 (ba .int [(-1),8])] (.l (.n (a.2,(rd .int [(-1),8] a.1),z.B))))
 (.c (cmp .eql x.1 1) (.k (ia (y,x.2) 2) λb=>.w [Lb (y,x.2) 2,inb b.1 (ba .int [(-1),8])] (.l (.n (b.2,z.A,(rd .int [(-1),8] b.1)))))
 (.l (.n (x.2,z.A,z.B)))))
def Np:=λx z y=>pcT (Mp x z y) [0,1,1] [(0,.R x z),(2,.B [0,0]),(3,.B [y.A,y.B])] (rvR F48 x) (λq=>[(0,.R x q.1),(2,.B [0,0]),(3,.B [q.2.1,q.2.2])])
theorem Zaa(G:Gd qH){fr x y z}:lQ fr (Np x y z):=ja G
def Pp(x:(LB×Int)):TN (Time×Int):=.k (Jh (x.1,x.2)) λz=>.w [yk (x.1,x.2)] (.sn (Np x.1 z.2 z.1) (λy=>.l (.r ((Time.mk y.2.1 y.2.2),y.1))))
def aab:=λx=>pcT (Pp x) [] [(0,.R x.1 x.2)] (rvR F48 x.1)
theorem bab(G:Gd qH){fr x}:lQ fr (aab x):=fa G (λe=>⟨Np (gL .byte e 0 0) (gI e 0 1) (Pc e 3)⟩) λ_=>Zaa G
def Qp(x:(LB×Int)):Time×Int:=ocR (Pp x).val
def Xy(x:(LB×Int)):Prop:=(Pp x).ob
def rH:Spec:=spR [.rdr] (.one .fr (.st .time)) Qp Xy
theorem cab(G:Gd qH):CP 48 rH:=Ze (pts:=[.rdr]) (F:=F48) G (λx=>x.1.1) λ_ _=>bab G
def wg:SP:=[(88,vN),(87,jG),(44,Of),(56,rG),(22,gH),(75,kH),(76,lH),(34,pH),(89,By),(48,rH)]
abbrev F43:Fnn:=⟨[.cell 2 30],.one .sh (.st .sess),some 0,[]⟩
abbrev Zg:=@OkP Tryz.f43 F43
def sH(d:LB)(f x y:Int)(z:LP)(a:List LR)(b:List Time)(c:LR)(_:Int):TA (Sess×Int) (Int×Int×Int×LP×(List LR)×(List Time)×LR×Bool):=.w [fv (d,f) (Sess.mk (Plan.mk x y z) a b c),zy (Sess.mk (Plan.mk x y z) a b c) (Ud (d,f) (Sess.mk (Plan.mk x y z) a b c)).1] (.l (.n ((Ud (d,f) (Sess.mk (Plan.mk x y z) a b c)).2,(tg (Sess.mk (Plan.mk x y z) a b c) (Ud (d,f) (Sess.mk (Plan.mk x y z) a b c)).1).1.Plan.Kind,(tg (Sess.mk (Plan.mk x y z) a b c) (Ud (d,f) (Sess.mk (Plan.mk x y z) a b c)).1).1.Plan.Num,(tg (Sess.mk (Plan.mk x y z) a b c) (Ud (d,f) (Sess.mk (Plan.mk x y z) a b c)).1).1.Plan.Kids,(tg (Sess.mk (Plan.mk x y z) a b c) (Ud (d,f) (Sess.mk (Plan.mk x y z) a b c)).1).1.Ins,(tg (Sess.mk (Plan.mk x y z) a b c) (Ud (d,f) (Sess.mk (Plan.mk x y z) a b c)).1).1.Front,(tg (Sess.mk (Plan.mk x y z) a b c) (Ud (d,f) (Sess.mk (Plan.mk x y z) a b c)).1).1.Told,(tg (Sess.mk (Plan.mk x y z) a b c) (Ud (d,f) (Sess.mk (Plan.mk x y z) a b c)).1).2.2.1)))
def Yy:=λx g y z a b c d f=>pcT (sH x g y z a b c d f) [0,0,1,0,0,0,1,0,0,1,0,1,1] [(0,.R x g),(2,.box [(.fr,.i 0),(.fr,.i 0),(.fr,.nl .plan),(.fr,.nl .lrow),(.fr,.nl .time),(.fr,.nl .row)]),(3,.box [(.fr,.i y),(.fr,.i z),(.sh,.lst .plan a),(.sh,.lst .lrow b),(.sh,.lst .time c),(.sh,.lst .row d)]),(5,.I f)] (rvR F43 x) (λq=>[(0,.R x q.1),(2,.box [(.fr,.i 0),(.fr,.i 0),(.fr,.nl .plan),(.fr,.nl .lrow),(.fr,.nl .time),(.fr,.nl .row)]),(3,.box [(.fr,.i y),(.fr,.i z),(.sh,.lst .plan a),(.sh,.lst .lrow b),(.sh,.lst .time c),(.sh,.lst .row d)]),(5,.I f),(6,.box [(.fr,.i q.2.1),(.fr,.i q.2.2.1),(.sh,.lst .plan q.2.2.2.1),(.sh,.lst .lrow q.2.2.2.2.1),(.sh,.lst .time q.2.2.2.2.2.1),(.sh,.lst .row q.2.2.2.2.2.2.1)]),(8,.O q.2.2.2.2.2.2.2)])
theorem dab(G:Gd wg){fr x y z a b c d f g}:Zg fr (Yy x y z a b c d f g):=ym G [0,2,3,5,6,8] [0,2,3,5,6,7,8,26,27,28,29,30,31,32,33,34] (sH x y z a b c d f g)
def mQ(_:LB)(_ x y:Int)(z:LP)(a:List LR)(b:List Time)(c:LR)(_ d f:Int)(g:LP)(h:List LR)(i:List Time)(j:LR)(k:Bool):TA (Sess×Int) (Int×Int×LP×(List LR)×(List Time)×LR):=.c k (.l (.n (d,f,g,h,i,j)))
 (.l (.n (x,y,z,a,b,c)))
def Zy:=λx y a b c d f g z h i j k l m n=>pcT (mQ x y a b c d f g z h i j k l m n) [0,1,0,1,0,0,0,1,0,0,1,0,1,1] [(0,.R x y),(2,.box [(.fr,.i 0),(.fr,.i 0),(.fr,.nl .plan),(.fr,.nl .lrow),(.fr,.nl .time),(.fr,.nl .row)]),(3,.box [(.fr,.i a),(.fr,.i b),(.sh,.lst .plan c),(.sh,.lst .lrow d),(.sh,.lst .time f),(.sh,.lst .row g)]),(5,.I z),(6,.box [(.fr,.i h),(.fr,.i i),(.sh,.lst .plan j),(.sh,.lst .lrow k),(.sh,.lst .time l),(.sh,.lst .row m)]),(8,.O n)] (rvR F43 x) (λq=>[(0,.R x y),(2,.box [(.fr,.i 0),(.fr,.i 0),(.fr,.nl .plan),(.fr,.nl .lrow),(.fr,.nl .time),(.fr,.nl .row)]),(3,.box [(.fr,.i q.1),(.fr,.i q.2.1),(.sh,.lst .plan q.2.2.1),(.sh,.lst .lrow q.2.2.2.1),(.sh,.lst .time q.2.2.2.2.1),(.sh,.lst .row q.2.2.2.2.2)]),(5,.I z)])
theorem eab(G:Gd wg){fr x y z a b c d f g h i j k l m n}:Zg fr (Zy x y z a b c d f g h i j k l m n):=ja G
def tH(x:LB)(y a b:Int)(c:LP)(d:List LR)(z:List Time)(f:LR)(_:Int):TA (Sess×Int) (Int×Int×Int×LP×(List LR)×(List Time)×LR×Bool):=.w [Lb (x,y) 2,(Ky (x,(ia (x,y) 2).2) 3),(Qy (x,(Mb (x,(ia (x,y) 2).2) 3).2) (Mb (x,(ia (x,y) 2).2) 3).1 z),(Wy (Sess.mk (Plan.mk a b c) d z f) (ia (x,y) 2).1 (Zd (x,(Mb (x,(ia (x,y) 2).2) 3).2) (Mb (x,(ia (x,y) 2).2) 3).1 z).1)] (.l (.n ((Zd (x,(Mb (x,(ia (x,y) 2).2) 3).2) (Mb (x,(ia (x,y) 2).2) 3).1 z).2,(vg (Sess.mk (Plan.mk a b c) d z f) (ia (x,y) 2).1 (Zd (x,(Mb (x,(ia (x,y) 2).2) 3).2) (Mb (x,(ia (x,y) 2).2) 3).1 z).1).1.Plan.Kind,(vg (Sess.mk (Plan.mk a b c) d z f) (ia (x,y) 2).1 (Zd (x,(Mb (x,(ia (x,y) 2).2) 3).2) (Mb (x,(ia (x,y) 2).2) 3).1 z).1).1.Plan.Num,(vg (Sess.mk (Plan.mk a b c) d z f) (ia (x,y) 2).1 (Zd (x,(Mb (x,(ia (x,y) 2).2) 3).2) (Mb (x,(ia (x,y) 2).2) 3).1 z).1).1.Plan.Kids,(vg (Sess.mk (Plan.mk a b c) d z f) (ia (x,y) 2).1 (Zd (x,(Mb (x,(ia (x,y) 2).2) 3).2) (Mb (x,(ia (x,y) 2).2) 3).1 z).1).1.Ins,(vg (Sess.mk (Plan.mk a b c) d z f) (ia (x,y) 2).1 (Zd (x,(Mb (x,(ia (x,y) 2).2) 3).2) (Mb (x,(ia (x,y) 2).2) 3).1 z).1).1.Front,(vg (Sess.mk (Plan.mk a b c) d z f) (ia (x,y) 2).1 (Zd (x,(Mb (x,(ia (x,y) 2).2) 3).2) (Mb (x,(ia (x,y) 2).2) 3).1 z).1).1.Told,(vg (Sess.mk (Plan.mk a b c) d z f) (ia (x,y) 2).1 (Zd (x,(Mb (x,(ia (x,y) 2).2) 3).2) (Mb (x,(ia (x,y) 2).2) 3).1 z).1).2.1)))
def az:=λx g y z a b c d f=>pcT (tH x g y z a b c d f) [0,1,0,0,1,0,0,1,0,1,1] [(0,.R x g),(2,.box [(.fr,.i 0),(.fr,.i 0),(.fr,.nl .plan),(.fr,.nl .lrow),(.fr,.nl .time),(.fr,.nl .row)]),(3,.box [(.fr,.i y),(.fr,.i z),(.sh,.lst .plan a),(.sh,.lst .lrow b),(.sh,.lst .time c),(.sh,.lst .row d)]),(5,.I f)] (rvR F43 x) (λq=>[(0,.R x q.1),(2,.box [(.fr,.i 0),(.fr,.i 0),(.fr,.nl .plan),(.fr,.nl .lrow),(.fr,.nl .time),(.fr,.nl .row)]),(3,.box [(.fr,.i y),(.fr,.i z),(.sh,.lst .plan a),(.sh,.lst .lrow b),(.sh,.lst .time c),(.sh,.lst .row d)]),(5,.I f),(9,.box [(.fr,.i q.2.1),(.fr,.i q.2.2.1),(.sh,.lst .plan q.2.2.2.1),(.sh,.lst .lrow q.2.2.2.2.1),(.sh,.lst .time q.2.2.2.2.2.1),(.sh,.lst .row q.2.2.2.2.2.2.1)]),(10,.O q.2.2.2.2.2.2.2)])
theorem fab(G:Gd wg){fr x y z a b c d f g}:Zg fr (az x y z a b c d f g):=ym G [0,2,3,5,9,10] [0,2,3,5,9,10,37,38,39,40,41,42,43,44,45,46,47,48,49] (tH x y z a b c d f g)
def Rp(a:LB)(k b c:Int)(d:LP)(f:List LR)(g:List Time)(h:LR)(i:Int):TA (Sess×Int) (Int×Int×Int×LP×(List LR)×(List Time)×LR):=.k (ia (a,k) 3) λj=>.w [Lb (a,k) 3] (.c (cmp .eql j.1 0) (.sn (Yy a j.2 b c d f g h i) (λx=>.sn (Zy a x.1 b c d f g h i x.2.1 x.2.2.1 x.2.2.2.1 x.2.2.2.2.1 x.2.2.2.2.2.1 x.2.2.2.2.2.2.1 x.2.2.2.2.2.2.2) (λz=>.l (.n (x.1,z.1,z.2.1,z.2.2.1,z.2.2.2.1,z.2.2.2.2.1,z.2.2.2.2.2)))))
 (.sn (az a j.2 b c d f g h i) (λy=>.c y.2.2.2.2.2.2.2 (.l (.n (y.1,y.2.1,y.2.2.1,y.2.2.2.1,y.2.2.2.2.1,y.2.2.2.2.2.1,y.2.2.2.2.2.2.1)))
 (.l (.n (y.1,b,c,d,f,g,h))))))
def bz:=λx z a b c d f g y=>pcT (Rp x z a b c d f g y) [0,1,0,0,1,0,1,1] [(0,.R x z),(2,.box [(.fr,.i 0),(.fr,.i 0),(.fr,.nl .plan),(.fr,.nl .lrow),(.fr,.nl .time),(.fr,.nl .row)]),(3,.box [(.fr,.i a),(.fr,.i b),(.sh,.lst .plan c),(.sh,.lst .lrow d),(.sh,.lst .time f),(.sh,.lst .row g)]),(5,.I y)] (rvR F43 x) (λq=>[(0,.R x q.1),(2,.box [(.fr,.i 0),(.fr,.i 0),(.fr,.nl .plan),(.fr,.nl .lrow),(.fr,.nl .time),(.fr,.nl .row)]),(3,.box [(.fr,.i q.2.1),(.fr,.i q.2.2.1),(.sh,.lst .plan q.2.2.2.1),(.sh,.lst .lrow q.2.2.2.2.1),(.sh,.lst .time q.2.2.2.2.2.1),(.sh,.lst .row q.2.2.2.2.2.2)]),(5,.I y)])
theorem gab(G:Gd wg){fr x y z a b c d f g}:Zg fr (bz x y z a b c d f g):=Nd G [λe=>⟨Yy (gL .byte e 0 0) (gI e 0 1) (gI e 3 0) (gI e 3 1) (gL .plan e 3 2) (gL .lrow e 3 3) (gL .time e 3 4) (gL .row e 3 5) (gI e 5 0)⟩,λe=>⟨Zy (gL .byte e 0 0) (gI e 0 1) (gI e 3 0) (gI e 3 1) (gL .plan e 3 2) (gL .lrow e 3 3) (gL .time e 3 4) (gL .row e 3 5) (gI e 5 0) (gI e 6 0) (gI e 6 1) (gL .plan e 6 2) (gL .lrow e 6 3) (gL .time e 6 4) (gL .row e 6 5) (gB e 8 0)⟩,λe=>⟨az (gL .byte e 0 0) (gI e 0 1) (gI e 3 0) (gI e 3 1) (gL .plan e 3 2) (gL .lrow e 3 3) (gL .time e 3 4) (gL .row e 3 5) (gI e 5 0)⟩] ⟨λ_=>dab G,λ_=>eab G,λ_=>fab G,trivial⟩
def Sp(h:LB)(_ _ _:Int)(_:LP)(_:List LR)(_:List Time)(_:LR)(_ z a b:Int)(c:LP)(d:List LR)(f:List Time)(g:LR)(y:Int):TX (Sess×Int) (Int×Int×Int×LP×(List LR)×(List Time)×LR×Int) (Int×Int×Int×LP×(List LR)×(List Time)×LR):=.c (cmp .gtr y 0) (.sn (bz h z a b c d f g y) (λx=>.l (.n (x.1,x.2.1,x.2.2.1,x.2.2.2.1,x.2.2.2.2.1,x.2.2.2.2.2.1,x.2.2.2.2.2.2,(ar .sub .i64 y 1)))))
 (.l (.x (z,a,b,c,d,f,g)))
def nQ:=λx h i j k l m n o y z a b c d f g=>pcR (Sp x h i j k l m n o y z a b c d f g) [0,0,1,0,1,1] (λq=>[(0,.R x q.1),(2,.box [(.fr,.i 0),(.fr,.i 0),(.fr,.nl .plan),(.fr,.nl .lrow),(.fr,.nl .time),(.fr,.nl .row)]),(3,.box [(.fr,.i q.2.1),(.fr,.i q.2.2.1),(.sh,.lst .plan q.2.2.2.1),(.sh,.lst .lrow q.2.2.2.2.1),(.sh,.lst .time q.2.2.2.2.2.1),(.sh,.lst .row q.2.2.2.2.2.2.1)]),(5,.I q.2.2.2.2.2.2.2)]) (y,z,a,b,c,d,f,g) (rvR F43 x) (λq=>(0,[(0,.R x q.1),(2,.box [(.fr,.i 0),(.fr,.i 0),(.fr,.nl .plan),(.fr,.nl .lrow),(.fr,.nl .time),(.fr,.nl .row)]),(3,.box [(.fr,.i q.2.1),(.fr,.i q.2.2.1),(.sh,.lst .plan q.2.2.2.1),(.sh,.lst .lrow q.2.2.2.2.1),(.sh,.lst .time q.2.2.2.2.2.1),(.sh,.lst .row q.2.2.2.2.2.2)])]))
theorem iab(G:Gd wg){fr x y z a b c d f g h i j k l m n o}:Zg fr (nQ x y z a b c d f g h i j k l m n o):=fa G (λe=>⟨bz (gL .byte e 0 0) (gI e 0 1) (gI e 3 0) (gI e 3 1) (gL .plan e 3 2) (gL .lrow e 3 3) (gL .time e 3 4) (gL .row e 3 5) (gI e 5 0)⟩) λ_=>gab G
def Tp:=λg x y z a b c d f=>pcL (λs:Int×Int×Int×LP×(List LR)×(List Time)×LR×Int=>nQ g x y z a b c d f s.1 s.2.1 s.2.2.1 s.2.2.2.1 s.2.2.2.2.1 s.2.2.2.2.2.1 s.2.2.2.2.2.2.1 s.2.2.2.2.2.2.2) (x,y,z,a,b,c,d,f)
theorem jab(G:Gd wg){fr x y z a b c d f g}:Zg fr (Tp x y z a b c d f g):=Aa λ_=>iab G
def cz(y:LB)(z b c:Int)(d:LP)(f:List LR)(g:List Time)(h:LR):TA (Sess×Int) (Int×Int×Int×LP×(List LR)×(List Time)×LR):=.k (ia (y,z) 7) λa=>.w [Lb (y,z) 7] (.sx (Tp y a.2 b c d f g h a.1) (λx=>.l (.n (x.1,x.2.1,x.2.2.1,x.2.2.2.1,x.2.2.2.2.1,x.2.2.2.2.2.1,x.2.2.2.2.2.2))))
def dz:=λx y z a b c d f=>pcT (cz x y z a b c d f) [0,1,1] [(0,.R x y),(2,.box [(.fr,.i 0),(.fr,.i 0),(.fr,.nl .plan),(.fr,.nl .lrow),(.fr,.nl .time),(.fr,.nl .row)]),(3,.box [(.fr,.i z),(.fr,.i a),(.sh,.lst .plan b),(.sh,.lst .lrow c),(.sh,.lst .time d),(.sh,.lst .row f)])] (rvR F43 x) (λq=>[(0,.R x q.1),(2,.box [(.fr,.i 0),(.fr,.i 0),(.fr,.nl .plan),(.fr,.nl .lrow),(.fr,.nl .time),(.fr,.nl .row)]),(3,.box [(.fr,.i q.2.1),(.fr,.i q.2.2.1),(.sh,.lst .plan q.2.2.2.1),(.sh,.lst .lrow q.2.2.2.2.1),(.sh,.lst .time q.2.2.2.2.2.1),(.sh,.lst .row q.2.2.2.2.2.2)])])
theorem kab(G:Gd wg){fr x y z a b c d f}:Zg fr (dz x y z a b c d f):=fa G (λe=>⟨Tp (gL .byte e 0 0) (gI e 0 1) (gI e 3 0) (gI e 3 1) (gL .plan e 3 2) (gL .lrow e 3 3) (gL .time e 3 4) (gL .row e 3 5) (gI e 5 0)⟩) λ_=>jab G
def ez(y:LB)(f _ _:Int)(_:LP)(z:List LR)(a:List Time)(b:LR):TA (Sess×Int) (Int×(List LR)×(List Time)×LR):=.k (ia (y,f) 24) λx=>.w [Lb (y,f) 24] (.c (cmp .eql x.1 0) (.k (ug (y,x.2)) λc=>.w [lim (ba .row []) (ba .row b),Ep (y,x.2),lim (ba .row ([]++b)) (ba .row [c.1])] (.l (.n (c.2,z,a,(([]++b)++[c.1])))))
 (.c (cmp .eql x.1 1) (.k (Qp (y,x.2)) λd=>.w [lim (ba .time []) (ba .time a),Xy (y,x.2),lim (ba .time ([]++a)) (ba .time [d.1])] (.l (.n (d.2,z,(([]++a)++[d.1]),b))))
 (.c (cmp .eql x.1 2) (.w [le3 1 (ba .lrow z) (ba .lrow z)] (.l (.n (x.2,(List.drop (Int.toNat 1) z),a,b))))
 (.l (.n (x.2,z,a,b))))))
def gz:=λx b y z a c d f=>pcT (ez x b y z a c d f) [0,1,1,1] [(0,.R x b),(2,.box [(.fr,.i 0),(.fr,.i 0),(.fr,.nl .plan),(.fr,.nl .lrow),(.fr,.nl .time),(.fr,.nl .row)]),(3,.box [(.fr,.i y),(.fr,.i z),(.sh,.lst .plan a),(.sh,.lst .lrow c),(.sh,.lst .time d),(.sh,.lst .row f)])] (rvR F43 x) (λq=>[(0,.R x q.1),(2,.box [(.fr,.i 0),(.fr,.i 0),(.fr,.nl .plan),(.fr,.nl .lrow),(.fr,.nl .time),(.fr,.nl .row)]),(3,.box [(.fr,.i y),(.fr,.i z),(.sh,.lst .plan a),(.sh,.lst .lrow q.2.1),(.sh,.lst .time q.2.2.1),(.sh,.lst .row q.2.2.2)])])
theorem lab(G:Gd wg){fr x y z a b c d f}:Zg fr (gz x y z a b c d f):=ja G
def iz(y:(LB×Int)):TN (Sess×Int):=.k (Hh (y.1,y.2) 3) λb=>.k (lu (pE b.1)) λz=>.w [dG (y.1,y.2) 3,nu (pE b.1)] (.sn (dz y.1 b.2 z.1.Plan.Kind z.1.Plan.Num z.1.Plan.Kids z.1.Ins z.1.Front z.1.Told) (λx=>.sn (gz y.1 x.1 x.2.1 x.2.2.1 x.2.2.2.1 x.2.2.2.2.1 x.2.2.2.2.2.1 x.2.2.2.2.2.2) (λa=>.l (.r ((Sess.mk (Plan.mk x.2.1 x.2.2.1 x.2.2.2.1) a.2.1 a.2.2.1 a.2.2.2),a.1)))))
def mab:=λx=>pcT (iz x) [] [(0,.R x.1 x.2)] (rvR F43 x.1)
theorem nab(G:Gd wg){fr x}:Zg fr (mab x):=Nd G [λe=>⟨dz (gL .byte e 0 0) (gI e 0 1) (gI e 3 0) (gI e 3 1) (gL .plan e 3 2) (gL .lrow e 3 3) (gL .time e 3 4) (gL .row e 3 5)⟩,λe=>⟨gz (gL .byte e 0 0) (gI e 0 1) (gI e 3 0) (gI e 3 1) (gL .plan e 3 2) (gL .lrow e 3 3) (gL .time e 3 4) (gL .row e 3 5)⟩] ⟨λ_=>kab G,λ_=>lab G,trivial⟩
def Up(x:(LB×Int)):Sess×Int:=ocR (iz x).val
def uH(x:(LB×Int)):Prop:=(iz x).ob
def oQ:Spec:=spR [.rdr] (.one .sh (.st .sess)) Up uH
theorem oab(G:Gd wg):CP 43 oQ:=Ze (pts:=[.rdr]) (F:=F43) G (λx=>x.1.1) λ_ _=>nab G
def pQ:SP:=[]
abbrev F51:Fnn:=⟨[.tmp 2],.one .fr .bool,none,[]⟩
abbrev pab:=@OkP Tryz.f51 F51
def jz(x:Time):TN Bool:=.l (.r (cond (cond (cond (cmp .geq x.A 0) (cmp .leq x.A 7) false) (cmp .geq x.B 0) false) (cmp .leq x.B 7) false))
def qab:=λx=>pcT (jz x) [] [(0,.agg true [.i x.A,.i x.B])] (rvF F51)
theorem rab(G:Gd pQ){fr x}:pab fr (qab x):=ja G
def ai(x:Time):Bool:=ocR (jz x).val
def ci(x:Time):Prop:=(jz x).ob
def jl:Spec:=spF [(.st .time)] (.one .fr .bool) ai ci
theorem qQ(G:Gd pQ):CP 51 jl:=ua (pts:=[(.st .time)]) (F:=F51) G λ_ _=>rab G
def Vp:SP:=[(51,jl)]
abbrev F54:Fnn:=⟨[.tmp 2],.one .fr .bool,none,[]⟩
abbrev lz:=@OkP Tryz.f54 F54
def Wp(y:List Time)(a x:Int):TX Bool Int Unit:=.c (cmp .lss x a) (.w [inb x (ba .time y)] (.k (ai (rd .time y x)) λz=>.w [ci (rd .time y x),((cmp .gtr x 0)&&((!(!z))&&true))=true->inb (ar .sub .i64 x 1) (ba .time y),((!(cmp .geq (rd .time y (ar .sub .i64 x 1)).A (rd .time y x).A))&&((cmp .gtr x 0)&&((!(!z))&&true)))=true->inb (ar .sub .i64 x 1) (ba .time y)] (.c (cond (!z) true (cond (cmp .gtr x 0) (cond (cmp .geq (rd .time y (ar .sub .i64 x 1)).A (rd .time y x).A) true (cmp .leq (rd .time y (ar .sub .i64 x 1)).B (rd .time y x).B)) false)) (.l (.r false))
 (.l (.n (ar .add .i64 x 1))))))
 (.l (.x ()))
def rQ:=λx y z=>pcR (Wp x y z) [0,0,1,0,1] (λq=>[(0,.S .time x),(5,.S .time x),(6,.I y),(7,.I q)]) z (rvF F54) (λ_=>(0,[]))
theorem sab(G:Gd Vp){fr x y z}:lz fr (rQ x y z):=ja G
def Xp:=λx y=>pcL (λs:Int=>rQ x y s) 0
theorem tab(G:Gd Vp){fr x y}:lz fr (Xp x y):=Aa λ_=>sab G
def sQ(x:List Time):TA Bool Unit:=.sx (Xp x (ba .time x)) (λ_=>.l (.n ()))
def mz:=λx=>pcT (sQ x) [0,1] [(0,.S .time x)] (rvF F54) (λ_=>[])
theorem uab(G:Gd Vp){fr x}:lz fr (mz x):=fa G (λe=>⟨Xp (gL .time e 0 0) (gI e 6 0)⟩) λ_=>tab G
def nz(x:List Time):TN Bool:=.sn (mz x) (λ_=>.l (.r true))
def vab:=λx=>pcT (nz x) [] [(0,.S .time x)] (rvF F54)
theorem wab(G:Gd Vp){fr x}:lz fr (vab x):=fa G (λe=>⟨mz (gL .time e 0 0)⟩) λ_=>uab G
def oz(x:List Time):Bool:=ocR (nz x).val
def qz(x:List Time):Prop:=(nz x).ob
def vH:Spec:=spF [(.lst .time)] (.one .fr .bool) oz qz
theorem xab(G:Gd Vp):CP 54 vH:=ua (pts:=[(.lst .time)]) (F:=F54) G λ_ _=>wab G
def rz:SP:=[]
abbrev Yp:Fnn:=⟨[.tmp 2,.tmp 3,.tmp 4],.tup [(true,(.int .i64)),(true,(.int .i64)),(true,(.int .i64))],none,[]⟩
abbrev wH:=@OkP Tryz.f133 Yp
def tQ(x:Int):TA (Int×Int×Int×Unit) Bool:=.c (cmp .eql x 3) (.l (.n (cmp .eql x 3)))
 (.l (.n (cmp .eql x 5)))
def tz:=λx=>pcT (tQ x) [0,1,1,1,1,0,1,0,1] [(5,.I x)] (rvF Yp) (λq=>[(5,.I x),(10,.O q)])
theorem yab(G:Gd rz){fr x}:wH fr (tz x):=ja G
def uQ(x:Int):TA (Int×Int×Int×Unit) Unit:=.c (cmp .eql x 1) (.l (.r (0,(0,(1,())))))
 (.c (cmp .eql x 2) (.l (.r (1,(1,(7,())))))
 (.sn (tz x) (λy=>.c y (.l (.r (2,(0,(0,())))))
 (.c (cmp .eql x 4) (.l (.r (1,(0,(0,())))))
 (.c (cmp .eql x 6) (.l (.r (1,(1,(3,())))))
 (.l (.n ())))))))
def uz:=λx=>pcT (uQ x) [0,1] [(0,.I x)] (rvF Yp) (λ_=>[])
theorem zab(G:Gd rz){fr x}:wH fr (uz x):=fa G (λe=>⟨tz (gI e 5 0)⟩) λ_=>yab G
def wz(x:Int):TN (Int×Int×Int×Unit):=.sn (uz x) (λ_=>.l (.r ((-1),(0,(0,())))))
def Aab:=λx=>pcT (wz x) [] [(0,.I x)] (rvF Yp)
theorem Bab(G:Gd rz){fr x}:wH fr (Aab x):=fa G (λe=>⟨uz (gI e 0 0)⟩) λ_=>zab G
def ei(x:Int):Int×Int×Int×Unit:=ocR (wz x).val
def xz(x:Int):Prop:=(wz x).ob
def xH:Spec:=spF [(.int .i64)] (.tup [(true,(.int .i64)),(true,(.int .i64)),(true,(.int .i64))]) ei xz
theorem Cab(G:Gd rz):CP 133 xH:=ua (pts:=[(.int .i64)]) (F:=Yp) G λ_ _=>Bab G
abbrev qf:=Plan->Int->Bool
abbrev tf:=Plan->Int->Prop
def yz(v:qf)(p:tf):Spec:=⟨[(.st .plan),(.int .i64)],.one .fr .bool,false,λx=>(v x.1 x.2.1,0),λx=>p x.1 x.2.1⟩
def Zp(x:qf)(y:tf):SP:=[(133,xH),(105,yz x y)]
abbrev aq:Fnn:=⟨[.tmp 4],.one .fr .bool,none,[]⟩
abbrev Az:=@OkP Tryz.f105 aq
def Bz(a:qf)(b:tf)(z:Int)(y:LP)(c x:Int):TX Bool Int Unit:=.c (cmp .lss x c) (.w [inb x (ba .plan y)] (.w [b (pE (rd .plan y x)) (ar .sub .i64 z 1)] (.c (!(a (pE (rd .plan y x)) (ar .sub .i64 z 1))) (.l (.r false))
 (.l (.n (ar .add .i64 x 1))))))
 (.l (.x ()))
def vQ:=λb c x y z a=>pcR (Bz b c x y z a) [0,0,1,0,1,1,1] (λq=>[(1,.I x),(43,.S .plan y),(44,.I z),(45,.I q)]) a (rvF aq) (λ_=>(0,[]))
theorem Dab{x:qf}{y:tf}(G:Gd (Zp x y)){fr z a b c}:Az fr (vQ x y z a b c):=ja G
def bq:=λx y z a b=>pcL (λs:Int=>vQ x y z a b s) 0
theorem Eab{x:qf}{y:tf}(G:Gd (Zp x y)){fr z a b}:Az fr (bq x y z a b):=Aa λ_=>Dab G
def wQ(y:qf)(z:tf)(a _ _:Int)(x:LP):TA Bool Unit:=.sx (bq y z a x (ba .plan x)) (λ_=>.l (.n ()))
def Cz:=λb c x y z a=>pcT (wQ b c x y z a) [0,1,1,1] [(1,.I x),(2,.box [(.fr,.i y),(.fr,.i z),(.sh,.lst .plan a)])] (rvF aq) (λ_=>[])
theorem Fab{x:qf}{y:tf}(G:Gd (Zp x y)){fr z a b c}:Az fr (Cz x y z a b c):=fa G (λe=>⟨bq x y (gI e 1 0) (gL .plan e 43 0) (gI e 44 0)⟩) λ_=>Eab G
def fi(a:qf)(b:tf)(x:Plan)(z:Int):TN Bool:=.k (ei x.Kind) λy=>.w [xz x.Kind] (.c (cond (cond (cond (cond (cmp .lss z 1) true (cmp .lss y.1 0)) true (cmp .neq (ba .plan x.Kids) y.1)) true (cmp .lss x.Num y.2.1)) true (cmp .gtr x.Num y.2.2.1)) (.l (.r false))
 (.sn (Cz a b z x.Kind x.Num x.Kids) (λ_=>.l (.r true))))
def Gab:=λz a x y=>pcT (fi z a x y) [] [(0,.agg false [.i x.Kind,.i x.Num,.lst .plan x.Kids]),(1,.I y)] (rvF aq)
theorem Hab{x:qf}{y:tf}(G:Gd (Zp x y)){fr z a}:Az fr (Gab x y z a):=fa G (λe=>⟨Cz x y (gI e 1 0) (gI e 2 0) (gI e 2 1) (gL .plan e 2 2)⟩) λ_=>Fab G
theorem Iab{x:qf}{y:tf}(G:Gd (Zp x y)):CP 105 (yz (λz a=>ocR (fi x y z a).val) (λz a=>(fi x y z a).ob)):=ua (pts:=[(.st .plan),(.int .i64)]) (F:=aq) G λ_ _=>Hab G
def cd:Nat->qf×tf
 |0=>(λ_ _=>default,λ_ _=>False)
 |n+1=>(λx y=>ocR (fi (cd n).1 (cd n).2 x y).val,λx y=>(fi (cd n).1 (cd n).2 x y).ob)
def xQ:qf:=(cd gc).1
def yQ:tf:=(cd gc).2
def zQ:Spec:=yz xQ yQ
def AQ:SP:=[(105,zQ)]
abbrev F69:Fnn:=⟨[.tmp 2],.one .fr .bool,none,[]⟩
abbrev Jab:=@OkP Tryz.f69 F69
def Dz(x:Plan):TN Bool:=.w [yQ (pE x) 4] (.l (.r (xQ (pE x) 4)))
def Kab:=λx=>pcT (Dz x) [] [(0,.agg false [.i x.Kind,.i x.Num,.lst .plan x.Kids])] (rvF F69)
theorem Lab(G:Gd AQ){fr x}:Jab fr (Kab x):=ja G
def Ez(x:Plan):Bool:=ocR (Dz x).val
def Gz(x:Plan):Prop:=(Dz x).ob
def yH:Spec:=spF [(.st .plan)] (.one .fr .bool) Ez Gz
theorem Mab(G:Gd AQ):CP 69 yH:=ua (pts:=[(.st .plan)]) (F:=F69) G λ_ _=>Lab G
def BQ:SP:=[]
abbrev F86:Fnn:=⟨[.tmp 4],.one .fr .bool,none,[]⟩
abbrev Nab:=@OkP Tryz.f86 F86
def zH(x y:Time):TN Bool:=.l (.r (cond (cmp .lss x.A y.A) true (cond (cmp .eql x.A y.A) (cmp .lss x.B y.B) false)))
def Oab:=λx y=>pcT (zH x y) [] [(0,.agg true [.i x.A,.i x.B]),(1,.agg true [.i y.A,.i y.B])] (rvF F86)
theorem Pab(G:Gd BQ){fr x y}:Nab fr (Oab x y):=ja G
def BH(x:Time)(y:Time):Bool:=ocR (zH x y).val
def CH(x:Time)(y:Time):Prop:=(zH x y).ob
def DH:Spec:=spF [(.st .time),(.st .time)] (.one .fr .bool) BH CH
theorem Qab(G:Gd BQ):CP 86 DH:=ua (pts:=[(.st .time),(.st .time)]) (F:=F86) G λ_ _=>Pab G
def CQ:SP:=[(86,DH)]
abbrev F66:Fnn:=⟨[.tmp 4],.one .fr .bool,none,[]⟩
abbrev Rab:=@OkP Tryz.f66 F66
def Hz(x y:Row):TN Bool:=.c (cmp .neq x.Key y.Key) (.l (.r (cmp .lss x.Key y.Key)))
 (.c (cmp .neq x.Val y.Val) (.l (.r (cmp .lss x.Val y.Val)))
 (.w [CH x.At y.At] (.l (.r (BH x.At y.At)))))
def Sab:=λx y=>pcT (Hz x y) [] [(0,.agg true [.i x.Key,.i x.Val,.i x.At.A,.i x.At.B,.i x.Diff]),(1,.agg true [.i y.Key,.i y.Val,.i y.At.A,.i y.At.B,.i y.Diff])] (rvF F66)
theorem Uab(G:Gd CQ){fr x y}:Rab fr (Sab x y):=ja G
def Iz(x:Row)(y:Row):Bool:=ocR (Hz x y).val
def Jz(x:Row)(y:Row):Prop:=(Hz x y).ob
def EH:Spec:=spF [(.st .row),(.st .row)] (.one .fr .bool) Iz Jz
theorem Vab(G:Gd CQ):CP 66 EH:=ua (pts:=[(.st .row),(.st .row)]) (F:=F66) G λ_ _=>Uab G
def dq:SP:=[(51,jl)]
abbrev F55:Fnn:=⟨[.tmp 2],.one .fr .bool,none,[]⟩
abbrev Kz:=@OkP Tryz.f55 F55
def Lz(y:LR)(z x:Int):TX Bool Int Unit:=.c (cmp .lss x z) (.w [inb x (ba .row y)] (.w [((!(cond (cond (cond (cmp .lss (rd .row y x).Key 0) true (cmp .geq (rd .row y x).Key 4)) true (cmp .lss (rd .row y x).Val 0)) true (cmp .geq (rd .row y x).Val 100)))&&true)=true->(ci (rd .row y x).At)] (.c (cond (cond (cond (cond (cond (cond (cmp .lss (rd .row y x).Key 0) true (cmp .geq (rd .row y x).Key 4)) true (cmp .lss (rd .row y x).Val 0)) true (cmp .geq (rd .row y x).Val 100)) true (!(ai (rd .row y x).At))) true (cmp .lss (rd .row y x).Diff (-99999))) true (cmp .gtr (rd .row y x).Diff 99999)) (.l (.r false))
 (.l (.n (ar .add .i64 x 1))))))
 (.l (.x ()))
def DQ:=λx y z=>pcR (Lz x y z) [0,0,1,0,1] (λq=>[(0,.S .row x),(5,.S .row x),(6,.I y),(7,.I q)]) z (rvF F55) (λ_=>(0,[(0,.S .row x)]))
theorem Wab(G:Gd dq){fr x y z}:Kz fr (DQ x y z):=ja G
def fq:=λx y=>pcL (λs:Int=>DQ x y s) 0
theorem Xab(G:Gd dq){fr x y}:Kz fr (fq x y):=Aa λ_=>Wab G
def EQ(x:LR):TA Bool Unit:=.sx (fq x (ba .row x)) (λ_=>.l (.n ()))
def Mz:=λx=>pcT (EQ x) [0,1] [(0,.S .row x)] (rvF F55) (λ_=>[(0,.S .row x)])
theorem Yab(G:Gd dq){fr x}:Kz fr (Mz x):=fa G (λe=>⟨fq (gL .row e 0 0) (gI e 6 0)⟩) λ_=>Xab G
def Nz(x:LR):TN Bool:=.sn (Mz x) (λ_=>.l (.r (cmp .leq (ba .row x) 400)))
def Zab:=λx=>pcT (Nz x) [] [(0,.S .row x)] (rvF F55)
theorem aac(G:Gd dq){fr x}:Kz fr (Zab x):=fa G (λe=>⟨Mz (gL .row e 0 0)⟩) λ_=>Yab G
def gq(x:LR):Bool:=ocR (Nz x).val
def iq(x:LR):Prop:=(Nz x).ob
def jq:Spec:=spF [(.lst .row)] (.one .fr .bool) gq iq
theorem FQ(G:Gd dq):CP 55 jq:=ua (pts:=[(.lst .row)]) (F:=F55) G λ_ _=>aac G
def lq:SP:=[(66,EH),(55,jq)]
abbrev F25:Fnn:=⟨[.tmp 2],.one .fr .bool,none,[]⟩
abbrev Oz:=@OkP Tryz.f25 F25
def mq(y:LR)(z x:Int):TX Bool Int Unit:=.c (cmp .lss x z) (.w [inb x (ba .row y)] (.w [((cmp .gtr x 0)&&((!(cmp .eql (rd .row y x).Diff 0))&&true))=true->inb (ar .sub .i64 x 1) (ba .row y),((cmp .gtr x 0)&&((!(cmp .eql (rd .row y x).Diff 0))&&true))=true->(Jz (rd .row y (ar .sub .i64 x 1)) (rd .row y x))] (.c (cond (cmp .eql (rd .row y x).Diff 0) true (cond (cmp .gtr x 0) (!(Iz (rd .row y (ar .sub .i64 x 1)) (rd .row y x))) false)) (.l (.r false))
 (.l (.n (ar .add .i64 x 1))))))
 (.l (.x ()))
def GQ:=λx y z=>pcR (mq x y z) [0,0,1,0,1] (λq=>[(0,.S .row x),(5,.S .row x),(6,.I y),(7,.I q)]) z (rvF F25) (λ_=>(0,[(0,.S .row x)]))
theorem bac(G:Gd lq){fr x y z}:Oz fr (GQ x y z):=ja G
def oq:=λx y=>pcL (λs:Int=>GQ x y s) 0
theorem cac(G:Gd lq){fr x y}:Oz fr (oq x y):=Aa λ_=>bac G
def HQ(x:LR):TA Bool Unit:=.sx (oq x (ba .row x)) (λ_=>.l (.n ()))
def Pz:=λx=>pcT (HQ x) [0,1] [(0,.S .row x)] (rvF F25) (λ_=>[(0,.S .row x)])
theorem dac(G:Gd lq){fr x}:Oz fr (Pz x):=fa G (λe=>⟨oq (gL .row e 0 0) (gI e 6 0)⟩) λ_=>cac G
def Qz(x:LR):TN Bool:=.sn (Pz x) (λ_=>.w [iq x] (.l (.r (gq x))))
def eac:=λx=>pcT (Qz x) [] [(0,.S .row x)] (rvF F25)
theorem fac(G:Gd lq){fr x}:Oz fr (eac x):=fa G (λe=>⟨Pz (gL .row e 0 0)⟩) λ_=>dac G
def pq(x:LR):Bool:=ocR (Qz x).val
def qq(x:LR):Prop:=(Qz x).ob
def Rz:Spec:=spF [(.lst .row)] (.one .fr .bool) pq qq
theorem gac(G:Gd lq):CP 25 Rz:=ua (pts:=[(.lst .row)]) (F:=F25) G λ_ _=>fac G
def IQ:SP:=[]
abbrev FH:Fnn:=⟨[.tmp 2],.one (.acc false) (.lst .row),none,[2]⟩
abbrev hac:=@OkP Tryz.f104 FH
def Sz(x:LR):TN LR:=.w [rr (ba .row x) (ba .row x)] (.l (.r (List.take (List.length (List.replicate (Int.toNat (ba .row x)) (Row.mk 0 0 (Time.mk 0 0) 0))) x++List.drop (List.length x) (List.replicate (Int.toNat (ba .row x)) (Row.mk 0 0 (Time.mk 0 0) 0)))))
def iac:=λx=>pcT (Sz x) [] [(0,.S .row x)] (rvF FH)
theorem jac(G:Gd IQ){fr x}:hac fr (iac x):=ja G
def Tz(x:LR):LR:=ocR (Sz x).val
def Uz(x:LR):Prop:=(Sz x).ob
def GH:Spec:=spF [(.lst .row)] (.one (.acc false) (.lst .row)) Tz Uz
theorem kac(G:Gd IQ):CP 104 GH:=ua (pts:=[(.lst .row)]) (F:=FH) G λ_ _=>jac G
def JQ:SP:=[]
abbrev HH:Fnn:=⟨[.tmp 6,.tmp 7,.tmp 8],.tup [(true,(.int .i64)),(true,(.int .i64)),(true,.bool)],none,[]⟩
abbrev lac:=@OkP Tryz.f134 HH
def Vz(z x y:Int):TN (Int×Int×Bool×Unit):=.c (cmp .eql y 1) (.w [(4:Int)≠0,(4:Int)≠0] (.l (.r ((ar .rem .i64 x 4),((ar .add .i64 (ar .sub .i64 x (ar .rem .i64 x 4)) z),(true,()))))))
 (.c (cmp .eql y 2) (.w [(100:Int)≠0] (.l (.r (z,((ar .rem .i64 (ar .add .i64 x 1) 100),(true,()))))))
 (.c (cmp .eql y 3) (.w [(4:Int)≠0] (.l (.r ((ar .rem .i64 x 4),(x,(true,()))))))
 (.c (cmp .eql y 4) (.l (.r (0,(x,(true,())))))
 (.c (cmp .eql y 5) (.w [(2:Int)≠0] (.l (.r (z,(x,((cmp .eql (ar .rem .i64 x 2) 0),()))))))
 (.c (cmp .eql y 6) (.w [(2:Int)≠0] (.l (.r (z,(x,((cmp .eql (ar .rem .i64 z 2) 0),()))))))
 (.c (cmp .eql y 7) (.l (.r (z,(x,((cmp .lss x 10),())))))
 (.l (.r (0,(0,(false,())))))))))))
def mac:=λx y z=>pcT (Vz x y z) [] [(0,.I x),(1,.I y),(2,.I z)] (rvF HH)
theorem nac(G:Gd JQ){fr x y z}:lac fr (mac x y z):=ja G
def Wz(x:Int)(y:Int)(z:Int):Int×Int×Bool×Unit:=ocR (Vz x y z).val
def Xz(x:Int)(y:Int)(z:Int):Prop:=(Vz x y z).ob
def IH:Spec:=spF [(.int .i64),(.int .i64),(.int .i64)] (.tup [(true,(.int .i64)),(true,(.int .i64)),(true,.bool)]) Wz Xz
theorem oac(G:Gd JQ):CP 134 IH:=ua (pts:=[(.int .i64),(.int .i64),(.int .i64)]) (F:=HH) G λ_ _=>nac G
def LQ:SP:=[(110,cJ),(25,Rz)]
abbrev F71:Fnn:=⟨[.tmp 2,.tmp 3],.tup [(false,(.lst .row)),(true,.bool)],none,[]⟩
abbrev pac:=@OkP Tryz.f71 F71
def Yz(y:LR):TN (LR×Bool×Unit):=.k (aJ y) λx=>.w [bJ y] (.w [qq x] (.c (!(pq x)) (.l (.r ([],(false,()))))
 (.l (.r (x,(true,()))))))
def qac:=λx=>pcT (Yz x) [] [(0,.S .row x)] (rvF F71)
theorem rac(G:Gd LQ){fr x}:pac fr (qac x):=ja G
def Re(x:LR):LR×Bool×Unit:=ocR (Yz x).val
def gi(x:LR):Prop:=(Yz x).ob
def kl:Spec:=spF [(.lst .row)] (.tup [(false,(.lst .row)),(true,.bool)]) Re gi
theorem sac(G:Gd LQ):CP 71 kl:=ua (pts:=[(.lst .row)]) (F:=F71) G λ_ _=>rac G
def ll:SP:=[(134,IH),(71,kl)]
abbrev ml:Fnn:=⟨[.tmp 4,.tmp 5],.tup [(false,(.lst .row)),(true,.bool)],none,[]⟩
abbrev rq:=@OkP Tryz.f106 ml
def MQ(b:Int)(a x:LR)(_ y:Int):TA (LR×Bool×Unit) LR:=.w [inb y (ba .row x)] (.k (Wz (rd .row x y).Key (rd .row x y).Val b) λz=>.w [Xz (rd .row x y).Key (rd .row x y).Val b] (.c z.2.2.1 (.w [lim (ba .row a) (ba .row [(Row.mk z.1 z.2.1 (rd .row x y).At (rd .row x y).Diff)])] (.l (.n (a++[(Row.mk z.1 z.2.1 (rd .row x y).At (rd .row x y).Diff)]))))
 (.l (.n a))))
def Zz:=λx b y z a=>pcT (MQ x b y z a) [0,1,1,0,0,1,0,1,1] [(1,.I x),(6,.A .row b),(13,.S .row y),(14,.I z),(15,.I a)] (rvF ml) (λq=>[(1,.I x),(6,.A .row q),(13,.S .row y),(14,.I z),(15,.I a)])
theorem tac(G:Gd ll){fr x y z a b}:rq fr (Zz x y z a b):=ja G
def aA(a:Int)(b:LR)(y:Int)(z:LR)(x:Int):TX (LR×Bool×Unit) (LR×Int) LR:=.c (cmp .lss x y) (.sn (Zz a z b y x) (λc=>.l (.n (c,(ar .add .i64 x 1)))))
 (.l (.x z))
def NQ:=λx y z a b=>pcR (aA x y z a b) [0,0,1,0,1,1] (λq=>[(1,.I x),(6,.A .row q.1),(13,.S .row y),(14,.I z),(15,.I q.2)]) (a,b) (rvF ml) (λq=>(0,[(6,.A .row q)]))
theorem uac(G:Gd ll){fr x y z a b}:rq fr (NQ x y z a b):=fa G (λe=>⟨Zz (gI e 1 0) (gL .row e 6 0) (gL .row e 13 0) (gI e 14 0) (gI e 15 0)⟩) λ_=>tac G
def sq:=λx y z=>pcL (λs:LR×Int=>NQ x y z s.1 s.2) ([],0)
theorem vac(G:Gd ll){fr x y z}:rq fr (sq x y z):=Aa λ_=>uac G
def PQ(x:LR)(y:Int):TA (LR×Bool×Unit) LR:=.sx (sq y x (ba .row x)) (λz=>.l (.n z))
def bA:=λx y=>pcT (PQ x y) [0,1,1] [(0,.S .row x),(1,.I y),(6,.A .row [])] (rvF ml) (λq=>[(6,.A .row q)])
theorem wac(G:Gd ll){fr x y}:rq fr (bA x y):=fa G (λe=>⟨sq (gI e 1 0) (gL .row e 13 0) (gI e 14 0)⟩) λ_=>vac G
def cA(y:LR)(z:Int):TN (LR×Bool×Unit):=.sn (bA y z) (λx=>.w [gi x] (.l (.r ((Re x).1,((Re x).2.1,())))))
def xac:=λx y=>pcT (cA x y) [] [(0,.S .row x),(1,.I y)] (rvF ml)
theorem yac(G:Gd ll){fr x y}:rq fr (xac x y):=fa G (λe=>⟨bA (gL .row e 0 0) (gI e 1 0)⟩) λ_=>wac G
def eA(x:LR)(y:Int):LR×Bool×Unit:=ocR (cA x y).val
def fA(x:LR)(y:Int):Prop:=(cA x y).ob
def JH:Spec:=spF [(.lst .row),(.int .i64)] (.tup [(false,(.lst .row)),(true,.bool)]) eA fA
theorem zac(G:Gd ll):CP 106 JH:=ua (pts:=[(.lst .row),(.int .i64)]) (F:=ml) G λ_ _=>yac G
def RQ:SP:=[]
abbrev F72:Fnn:=⟨[.tmp 4],.one (.acc false) (.lst .row),none,[]⟩
abbrev Aac:=@OkP Tryz.f72 F72
def gA(x y:LR):TN LR:=.w [lim (ba .row []) (ba .row x),lim (ba .row ([]++x)) (ba .row y)] (.l (.r (([]++x)++y)))
def Bac:=λx y=>pcT (gA x y) [] [(0,.S .row x),(1,.S .row y)] (rvF F72)
theorem Cac(G:Gd RQ){fr x y}:Aac fr (Bac x y):=ja G
def iA(x:LR)(y:LR):LR:=ocR (gA x y).val
def jA(x:LR)(y:LR):Prop:=(gA x y).ob
def LH:Spec:=spF [(.lst .row),(.lst .row)] (.one (.acc false) (.lst .row)) iA jA
theorem Dac(G:Gd RQ):CP 72 LH:=ua (pts:=[(.lst .row),(.lst .row)]) (F:=F72) G λ_ _=>Cac G
def tq:SP:=[]
abbrev uq:Fnn:=⟨[.tmp 2],.one (.acc false) (.lst .row),none,[2]⟩
abbrev kA:=@OkP Tryz.f107 uq
def lA(_:LR)(z:Int)(y:LR)(x:Int):TX LR (LR×Int) LR:=.c (cmp .lss x z) (.w [inb x (ba .row y),inb x (ba .row y),inb x (ba .row y)] (.l (.n ((List.set y (Int.toNat x) (Row.mk (rd .row y x).Key (rd .row y x).Val (rd .row y x).At (IntKind.wrap .i64 (0 - (rd .row y x).Diff)))),(ar .add .i64 x 1)))))
 (.l (.x y))
def SQ:=λa x y z=>pcR (lA a x y z) [0,0,1,0,1,1] (λq=>[(3,.v (.own false) (.lst .row q.1)),(9,.I x),(10,.I q.2)]) (y,z) (rvF uq) (λq=>(0,[(3,.v (.own false) (.lst .row q))]))
theorem Eac(G:Gd tq){fr x y z a}:kA fr (SQ x y z a):=ja G
def vq:=λx y=>pcL (λs:LR×Int=>SQ x y s.1 s.2) (x,0)
theorem Fac(G:Gd tq){fr x y}:kA fr (vq x y):=Aa λ_=>Eac G
def TQ(x:LR):TA LR LR:=.sx (vq x (ba .row x)) (λy=>.l (.n y))
def mA:=λx=>pcT (TQ x) [0,1,1] [(3,.v (.acc false) (.lst .row x))] (rvF uq) (λq=>[(3,.v (.own false) (.lst .row q))])
theorem Gac(G:Gd tq){fr x}:kA fr (mA x):=EV G [λe=>⟨vq (gL .row e 3 0) (gI e 9 0)⟩] ⟨λ_=>Fac G,trivial⟩ [(2,3)] []
def nA(x:LR):TN LR:=.w [lim (ba .row []) (ba .row x)] (.sn (mA ([]++x)) (λy=>.l (.r y)))
def Hac:=λx=>pcT (nA x) [] [(0,.S .row x)] (rvF uq)
theorem Iac(G:Gd tq){fr x}:kA fr (Hac x):=fa G (λe=>⟨mA (gL .row e 3 0)⟩) λ_=>Gac G
def oA(x:LR):LR:=ocR (nA x).val
def pA(x:LR):Prop:=(nA x).ob
def MH:Spec:=spF [(.lst .row)] (.one (.acc false) (.lst .row)) oA pA
theorem Jac(G:Gd tq):CP 107 MH:=ua (pts:=[(.lst .row)]) (F:=uq) G λ_ _=>Iac G
def UQ:SP:=[]
abbrev PH:Fnn:=⟨[.tmp 4],.one .fr (.int .i64),none,[]⟩
abbrev Kac:=@OkP Tryz.f135 PH
def RH(x y:Int):TN Int:=.w [(100:Int)≠0] (.l (.r (ar .rem .i64 (ar .add .i64 (ar .mul .i64 10 x) y) 100)))
def Lac:=λx y=>pcT (RH x y) [] [(0,.I x),(1,.I y)] (rvF PH)
theorem Mac(G:Gd UQ){fr x y}:Kac fr (Lac x y):=ja G
def SH(x:Int)(y:Int):Int:=ocR (RH x y).val
def UH(x:Int)(y:Int):Prop:=(RH x y).ob
def VH:Spec:=spF [(.int .i64),(.int .i64)] (.one .fr (.int .i64)) SH UH
theorem Nac(G:Gd UQ):CP 135 VH:=ua (pts:=[(.int .i64),(.int .i64)]) (F:=PH) G λ_ _=>Mac G
def VQ:SP:=[(51,jl)]
abbrev F81:Fnn:=⟨[.cell 4 32],.one .fr (.st .time),none,[]⟩
abbrev Oac:=@OkP Tryz.f81 F81
def qA(x y:Time):TN Time:=.w [ci x,((!(!(ai x)))&&true)=true->(ci y)] (.c (cond (!(ai x)) true (!(ai y))) (.l (.r (Time.mk 0 0)))
 (.l (.r (Time.mk (mx x.A y.A) (mx x.B y.B)))))
def Pac:=λx y=>pcT (qA x y) [] [(0,.agg true [.i x.A,.i x.B]),(1,.agg true [.i y.A,.i y.B])] (rvF F81)
theorem Qac(G:Gd VQ){fr x y}:Oac fr (Pac x y):=ja G
def wq(x:Time)(y:Time):Time:=ocR (qA x y).val
def xq(x:Time)(y:Time):Prop:=(qA x y).ob
def yq:Spec:=spF [(.st .time),(.st .time)] (.one .fr (.st .time)) wq xq
theorem WQ(G:Gd VQ):CP 81 yq:=ua (pts:=[(.st .time),(.st .time)]) (F:=F81) G λ_ _=>Qac G
def ah:SP:=[(135,VH),(81,yq),(71,kl)]
abbrev ii:Fnn:=⟨[.tmp 4,.tmp 5],.tup [(false,(.lst .row)),(true,.bool)],none,[]⟩
abbrev ji:=@OkP Tryz.f108 ii
def XQ(y a:LR)(x:Row)(_:LR)(_ _ _ z:Int):TA (LR×Bool×Unit) LR:=.w [inb z (ba .row y)] (.c (cmp .eql x.Key (rd .row y z).Key) (.k (SH x.Val (rd .row y z).Val) λb=>.k (wq x.At (rd .row y z).At) λc=>.w [UH x.Val (rd .row y z).Val,xq x.At (rd .row y z).At,lim (ba .row a) (ba .row [(Row.mk x.Key b c (ar .mul .i64 x.Diff (rd .row y z).Diff))])] (.l (.n (a++[(Row.mk x.Key b c (ar .mul .i64 x.Diff (rd .row y z).Diff))]))))
 (.l (.n a)))
def rA:=λy f x z a b c d=>pcT (XQ y f x z a b c d) [0,1,1,0,0,1,1,0,0,1,1,0,0,1,0,1,1] [(1,.S .row y),(6,.A .row f),(8,.B [x.Key,x.Val,x.At.A,x.At.B,x.Diff]),(12,.S .row z),(13,.I a),(14,.I b),(18,.S .row y),(19,.I c),(20,.I d)] (rvF ii) (λq=>[(1,.S .row y),(6,.A .row q),(8,.B [x.Key,x.Val,x.At.A,x.At.B,x.Diff]),(12,.S .row z),(13,.I a),(14,.I b),(18,.S .row y),(19,.I c),(20,.I d)])
theorem Rac(G:Gd ah){fr x y z a b c d f}:ji fr (rA x y z a b c d f):=ja G
def sA(a _:LR)(b:Row)(c:LR)(d f y:Int)(z:LR)(x:Int):TX (LR×Bool×Unit) (LR×Int) LR:=.c (cmp .lss x y) (.sn (rA a z b c d f y x) (λg=>.l (.n (g,(ar .add .i64 x 1)))))
 (.l (.x z))
def YQ:=λy g x z a b c d f=>pcR (sA y g x z a b c d f) [0,0,1,1,0,0,1,1,0,0,1,0,1,1] (λq=>[(1,.S .row y),(6,.A .row q.1),(8,.B [x.Key,x.Val,x.At.A,x.At.B,x.Diff]),(12,.S .row z),(13,.I a),(14,.I b),(18,.S .row y),(19,.I c),(20,.I q.2)]) (d,f) (rvF ii) (λq=>(2,[(1,.S .row y),(6,.A .row q),(12,.S .row z),(13,.I a),(14,.I b)]))
theorem Sac(G:Gd ah){fr x y z a b c d f g}:ji fr (YQ x y z a b c d f g):=fa G (λe=>⟨rA (gL .row e 1 0) (gL .row e 6 0) (gRow e 8) (gL .row e 12 0) (gI e 13 0) (gI e 14 0) (gI e 19 0) (gI e 20 0)⟩) λ_=>Rac G
def zq:=λy x z a b c d=>pcL (λs:LR×Int=>YQ y x z a b c d s.1 s.2) (x,0)
theorem Tac(G:Gd ah){fr x y z a b c d}:ji fr (zq x y z a b c d):=Aa λ_=>Sac G
def ZQ(z a x:LR)(b y:Int):TA (LR×Bool×Unit) LR:=.w [inb y (ba .row x)] (.sx (zq z a (rd .row x y) x b y (ba .row z)) (λc=>.l (.n c)))
def tA:=λx b y z a=>pcT (ZQ x b y z a) [0,1,1,0,0,1,0,1,1] [(1,.S .row x),(6,.A .row b),(12,.S .row y),(13,.I z),(14,.I a)] (rvF ii) (λq=>[(1,.S .row x),(6,.A .row q),(12,.S .row y),(13,.I z),(14,.I a)])
theorem Uac(G:Gd ah){fr x y z a b}:ji fr (tA x y z a b):=fa G (λe=>⟨zq (gL .row e 1 0) (gL .row e 6 0) (gRow e 8) (gL .row e 12 0) (gI e 13 0) (gI e 14 0) (gI e 19 0)⟩) λ_=>Tac G
def uA(a b:LR)(y:Int)(z:LR)(x:Int):TX (LR×Bool×Unit) (LR×Int) LR:=.c (cmp .lss x y) (.sn (tA a z b y x) (λc=>.l (.n (c,(ar .add .i64 x 1)))))
 (.l (.x z))
def aR:=λx y z a b=>pcR (uA x y z a b) [0,0,1,0,1,1] (λq=>[(1,.S .row x),(6,.A .row q.1),(12,.S .row y),(13,.I z),(14,.I q.2)]) (a,b) (rvF ii) (λq=>(0,[(6,.A .row q)]))
theorem Vac(G:Gd ah){fr x y z a b}:ji fr (aR x y z a b):=fa G (λe=>⟨tA (gL .row e 1 0) (gL .row e 6 0) (gL .row e 12 0) (gI e 13 0) (gI e 14 0)⟩) λ_=>Uac G
def Aq:=λx y z=>pcL (λs:LR×Int=>aR x y z s.1 s.2) ([],0)
theorem Wac(G:Gd ah){fr x y z}:ji fr (Aq x y z):=Aa λ_=>Vac G
def cR(x y:LR):TA (LR×Bool×Unit) LR:=.sx (Aq y x (ba .row x)) (λz=>.l (.n z))
def vA:=λx y=>pcT (cR x y) [0,1,1] [(0,.S .row x),(1,.S .row y),(6,.A .row [])] (rvF ii) (λq=>[(6,.A .row q)])
theorem Xac(G:Gd ah){fr x y}:ji fr (vA x y):=fa G (λe=>⟨Aq (gL .row e 1 0) (gL .row e 12 0) (gI e 13 0)⟩) λ_=>Wac G
def wA(y z:LR):TN (LR×Bool×Unit):=.sn (vA y z) (λx=>.w [gi x] (.l (.r ((Re x).1,((Re x).2.1,())))))
def Yac:=λx y=>pcT (wA x y) [] [(0,.S .row x),(1,.S .row y)] (rvF ii)
theorem Zac(G:Gd ah){fr x y}:ji fr (Yac x y):=fa G (λe=>⟨vA (gL .row e 0 0) (gL .row e 1 0)⟩) λ_=>Xac G
def xA(x:LR)(y:LR):LR×Bool×Unit:=ocR (wA x y).val
def yA(x:LR)(y:LR):Prop:=(wA x y).ob
def WH:Spec:=spF [(.lst .row),(.lst .row)] (.tup [(false,(.lst .row)),(true,.bool)]) xA yA
theorem aad(G:Gd ah):CP 108 WH:=ua (pts:=[(.lst .row),(.lst .row)]) (F:=ii) G λ_ _=>Zac G
def eR:SP:=[]
abbrev F95:Fnn:=⟨[.tmp 4],.one .fr .bool,none,[]⟩
abbrev cad:=@OkP Tryz.f95 F95
def XH(x y:Time):TN Bool:=.l (.r (cond (cmp .leq x.A y.A) (cmp .leq x.B y.B) false))
def dad:=λx y=>pcT (XH x y) [] [(0,.agg true [.i x.A,.i x.B]),(1,.agg true [.i y.A,.i y.B])] (rvF F95)
theorem ead(G:Gd eR){fr x y}:cad fr (dad x y):=ja G
def zA(x:Time)(y:Time):Bool:=ocR (XH x y).val
def AA(x:Time)(y:Time):Prop:=(XH x y).ob
def BA:Spec:=spF [(.st .time),(.st .time)] (.one .fr .bool) zA AA
theorem fad(G:Gd eR):CP 95 BA:=ua (pts:=[(.st .time),(.st .time)]) (F:=F95) G λ_ _=>ead G
def ol:SP:=[(95,BA),(96,iF)]
abbrev F53:Fnn:=⟨[.tmp 4],.one .fr (.lst .item),none,[]⟩
abbrev Bq:=@OkP Tryz.f53 F53
def fR(a:Time)(z:LI)(x:LR)(_ y:Int):TA LI LI:=.w [inb y (ba .row x)] (.w [AA (rd .row x y).At a] (.c (zA (rd .row x y).At a) (.w [lim (ba .item z) (ba .item [(Item.mk (rd .row x y).Key (rd .row x y).Val (rd .row x y).Diff)])] (.l (.n (z++[(Item.mk (rd .row x y).Key (rd .row x y).Val (rd .row x y).Diff)]))))
 (.l (.n z))))
def CA:=λx b y z a=>pcT (fR x b y z a) [0,1,1,0,0,1,0,1,1] [(3,.B [x.A,x.B]),(5,.A .item b),(9,.S .row y),(10,.I z),(11,.I a)] (rvF F53) (λq=>[(3,.B [x.A,x.B]),(5,.A .item q),(9,.S .row y),(10,.I z),(11,.I a)])
theorem gad(G:Gd ol){fr x y z a b}:Bq fr (CA x y z a b):=ja G
def DA(a:Time)(b:LR)(y:Int)(z:LI)(x:Int):TX LI (LI×Int) LI:=.c (cmp .lss x y) (.sn (CA a z b y x) (λc=>.l (.n (c,(ar .add .i64 x 1)))))
 (.l (.x z))
def iR:=λx y z a b=>pcR (DA x y z a b) [0,0,1,0,1,1] (λq=>[(3,.B [x.A,x.B]),(5,.A .item q.1),(9,.S .row y),(10,.I z),(11,.I q.2)]) (a,b) (rvF F53) (λq=>(0,[(5,.A .item q)]))
theorem iad(G:Gd ol){fr x y z a b}:Bq fr (iR x y z a b):=fa G (λe=>⟨CA (Pc e 3) (gL .item e 5 0) (gL .row e 9 0) (gI e 10 0) (gI e 11 0)⟩) λ_=>gad G
def Cq:=λx y z=>pcL (λs:LI×Int=>iR x y z s.1 s.2) ([],0)
theorem jad(G:Gd ol){fr x y z}:Bq fr (Cq x y z):=Aa λ_=>iad G
def jR(x:LR)(y:Time):TA LI LI:=.sx (Cq y x (ba .row x)) (λz=>.l (.n z))
def FA:=λy x=>pcT (jR y x) [0,1,1] [(0,.S .row y),(3,.B [x.A,x.B]),(5,.A .item [])] (rvF F53) (λq=>[(5,.A .item q)])
theorem kad(G:Gd ol){fr x y}:Bq fr (FA x y):=fa G (λe=>⟨Cq (Pc e 3) (gL .row e 9 0) (gI e 10 0)⟩) λ_=>jad G
def GA(y:LR)(z:Time):TN LI:=.sn (FA y z) (λx=>.w [Am x] (.l (.r (vt x))))
def lad:=λy x=>pcT (GA y x) [] [(0,.S .row y),(1,.agg true [.i x.A,.i x.B])] (rvF F53)
theorem mad(G:Gd ol){fr x y}:Bq fr (lad x y):=fa G (λe=>⟨FA (gL .row e 0 0) (Pc e 3)⟩) λ_=>kad G
def Dq(x:LR)(y:Time):LI:=ocR (GA x y).val
def Eq(x:LR)(y:Time):Prop:=(GA x y).ob
def YH:Spec:=spF [(.lst .row),(.st .time)] (.one .fr (.lst .item)) Dq Eq
theorem nad(G:Gd ol):CP 53 YH:=ua (pts:=[(.lst .row),(.st .time)]) (F:=F53) G λ_ _=>mad G
def xg:SP:=[]
abbrev bh:Fnn:=⟨[.tmp 2],.one (.acc true) (.lst .item),none,[]⟩
abbrev dh:=@OkP Tryz.f139 bh
def kR(x _:LI)(a z _ y:Int):TA LI Int:=.w [inb y (ba .item x)] (.c (cmp .eql (rd .item x y).Key a) (.l (.n (ar .add .i64 z (rd .item x y).Count)))
 (.l (.n z)))
def IA:=λx y z c a b=>pcT (kR x y z c a b) [0,1,1,0,0,1,0,1,0,0,1,0,0,1,0,1,1] [(0,.S .item x),(3,.A .item y),(4,.I z),(5,.I c),(13,.S .item x),(14,.I a),(15,.I b)] (rvF bh) (λq=>[(0,.S .item x),(3,.A .item y),(4,.I z),(5,.I q),(13,.S .item x),(14,.I a),(15,.I b)])
theorem oad(G:Gd xg){fr x y z a b c}:dh fr (IA x y z a b c):=ja G
def JA(a b:LI)(c y z x:Int):TX LI (Int×Int) Int:=.c (cmp .lss x y) (.sn (IA a b c z y x) (λd=>.l (.n (d,(ar .add .i64 x 1)))))
 (.l (.x z))
def lR:=λx y z a b c=>pcR (JA x y z a b c) [0,0,1,0,1,0,0,1,0,0,1,0,1,1] (λq=>[(0,.S .item x),(3,.A .item y),(4,.I z),(5,.I q.1),(13,.S .item x),(14,.I a),(15,.I q.2)]) (b,c) (rvF bh) (λq=>(2,[(0,.S .item x),(3,.A .item y),(4,.I z),(5,.I q)]))
theorem pad(G:Gd xg){fr x y z a b c}:dh fr (lR x y z a b c):=fa G (λe=>⟨IA (gL .item e 0 0) (gL .item e 3 0) (gI e 4 0) (gI e 5 0) (gI e 14 0) (gI e 15 0)⟩) λ_=>oad G
def Fq:=λx y z a=>pcL (λs:Int×Int=>lR x y z a s.1 s.2) (0,0)
theorem qad(G:Gd xg){fr x y z a}:dh fr (Fq x y z a):=Aa λ_=>pad G
def mR(x y:LI)(z:Int):TA LI Int:=.sx (Fq x y z (ba .item x)) (λa=>.l (.n a))
def PA:=λx y z=>pcT (mR x y z) [0,1,0,0,1,0,0,1,0,1,1] [(0,.S .item x),(3,.A .item y),(4,.I z),(5,.I 0)] (rvF bh) (λq=>[(0,.S .item x),(3,.A .item y),(4,.I z),(5,.I q)])
theorem rad(G:Gd xg){fr x y z}:dh fr (PA x y z):=fa G (λe=>⟨Fq (gL .item e 0 0) (gL .item e 3 0) (gI e 4 0) (gI e 14 0)⟩) λ_=>qad G
def nR(a x:LI)(y:Int):TA LI LI:=.sn (PA a x y) (λz=>.c (cmp .neq z 0) (.w [(100:Int)≠0,(100:Int)≠0,lim (ba .item x) (ba .item [(Item.mk y (ar .rem .i64 (ar .add .i64 (ar .rem .i64 z 100) 100) 100) 1)])] (.l (.n (x++[(Item.mk y (ar .rem .i64 (ar .add .i64 (ar .rem .i64 z 100) 100) 100) 1)]))))
 (.l (.n x)))
def RA:=λx z y=>pcT (nR x z y) [0,1,0,0,1,0,1,1] [(0,.S .item x),(3,.A .item z),(4,.I y)] (rvF bh) (λq=>[(0,.S .item x),(3,.A .item q),(4,.I y)])
theorem sad(G:Gd xg){fr x y z}:dh fr (RA x y z):=fa G (λe=>⟨PA (gL .item e 0 0) (gL .item e 3 0) (gI e 4 0)⟩) λ_=>rad G
def SA(z y:LI)(x:Int):TX LI (LI×Int) LI:=.c (cmp .lss x 4) (.sn (RA z y x) (λa=>.l (.n (a,(ar .add .i64 x 1)))))
 (.l (.x y))
def oR:=λx y z=>pcR (SA x y z) [0,0,1,0,1,1] (λq=>[(0,.S .item x),(3,.A .item q.1),(4,.I q.2)]) (y,z) (rvF bh) (λq=>(0,[(3,.A .item q)]))
theorem tad(G:Gd xg){fr x y z}:dh fr (oR x y z):=fa G (λe=>⟨RA (gL .item e 0 0) (gL .item e 3 0) (gI e 4 0)⟩) λ_=>sad G
def Gq:=λx=>pcL (λs:LI×Int=>oR x s.1 s.2) ([],0)
theorem uad(G:Gd xg){fr x}:dh fr (Gq x):=Aa λ_=>tad G
def pR(x:LI):TA LI LI:=.sx (Gq x) (λy=>.l (.n y))
def UA:=λx=>pcT (pR x) [0,1,1] [(0,.S .item x),(3,.A .item [])] (rvF bh) (λq=>[(3,.A .item q)])
theorem vad(G:Gd xg){fr x}:dh fr (UA x):=fa G (λe=>⟨Gq (gL .item e 0 0)⟩) λ_=>uad G
def VA(x:LI):TN LI:=.sn (UA x) (λy=>.l (.r y))
def wad:=λx=>pcT (VA x) [] [(0,.S .item x)] (rvF bh)
theorem xad(G:Gd xg){fr x}:dh fr (wad x):=fa G (λe=>⟨UA (gL .item e 0 0)⟩) λ_=>vad G
def WA(x:LI):LI:=ocR (VA x).val
def XA(x:LI):Prop:=(VA x).ob
def ZH:Spec:=spF [(.lst .item)] (.one (.acc true) (.lst .item)) WA XA
theorem yad(G:Gd xg):CP 139 ZH:=ua (pts:=[(.lst .item)]) (F:=bh) G λ_ _=>xad G
def ql:SP:=[]
abbrev rl:Fnn:=⟨[.tmp 2],.one (.acc true) (.lst .item),none,[]⟩
abbrev Hq:=@OkP Tryz.f140 rl
def qR(z x:LI)(_ y:Int):TA LI LI:=.w [inb y (ba .item x)] (.c (cmp .gtr (rd .item x y).Count 0) (.w [lim (ba .item z) (ba .item [(Item.mk (rd .item x y).Key (rd .item x y).Val 1)])] (.l (.n (z++[(Item.mk (rd .item x y).Key (rd .item x y).Val 1)]))))
 (.l (.n z)))
def Iq:=λa x y z=>pcT (qR a x y z) [0,1,1,0,0,1,0,1,1] [(3,.A .item a),(7,.S .item x),(8,.I y),(9,.I z)] (rvF rl) (λq=>[(3,.A .item q),(7,.S .item x),(8,.I y),(9,.I z)])
theorem zad(G:Gd ql){fr x y z a}:Hq fr (Iq x y z a):=ja G
def YA(a:LI)(y:Int)(z:LI)(x:Int):TX LI (LI×Int) LI:=.c (cmp .lss x y) (.sn (Iq z a y x) (λb=>.l (.n (b,(ar .add .i64 x 1)))))
 (.l (.x z))
def rR:=λx y z a=>pcR (YA x y z a) [0,0,1,0,1,1] (λq=>[(3,.A .item q.1),(7,.S .item x),(8,.I y),(9,.I q.2)]) (z,a) (rvF rl) (λq=>(0,[(3,.A .item q)]))
theorem Aad(G:Gd ql){fr x y z a}:Hq fr (rR x y z a):=fa G (λe=>⟨Iq (gL .item e 3 0) (gL .item e 7 0) (gI e 8 0) (gI e 9 0)⟩) λ_=>zad G
def Jq:=λx y=>pcL (λs:LI×Int=>rR x y s.1 s.2) ([],0)
theorem Bad(G:Gd ql){fr x y}:Hq fr (Jq x y):=Aa λ_=>Aad G
def sR(x:LI):TA LI LI:=.sx (Jq x (ba .item x)) (λy=>.l (.n y))
def ZA:=λx=>pcT (sR x) [0,1,1] [(0,.S .item x),(3,.A .item [])] (rvF rl) (λq=>[(3,.A .item q)])
theorem Cad(G:Gd ql){fr x}:Hq fr (ZA x):=fa G (λe=>⟨Jq (gL .item e 7 0) (gI e 8 0)⟩) λ_=>Bad G
def aB(x:LI):TN LI:=.sn (ZA x) (λy=>.l (.r y))
def Dad:=λx=>pcT (aB x) [] [(0,.S .item x)] (rvF rl)
theorem Ead(G:Gd ql){fr x}:Hq fr (Dad x):=fa G (λe=>⟨ZA (gL .item e 0 0)⟩) λ_=>Cad G
def tl(x:LI):LI:=ocR (aB x).val
def Kq(x:LI):Prop:=(aB x).ob
def bB:Spec:=spF [(.lst .item)] (.one (.acc true) (.lst .item)) tl Kq
theorem Fad(G:Gd ql):CP 140 bB:=ua (pts:=[(.lst .item)]) (F:=rl) G λ_ _=>Ead G
end
noncomputable section
set_option maxRecDepth 100000
def ul:SP:=[(140,bB)]
abbrev vl:Fnn:=⟨[.tmp 2],.one (.acc true) (.lst .item),none,[]⟩
abbrev Lq:=@OkP Tryz.f141 vl
def tR(x y:LI)(_ z:Int):TA LI LI:=.w [inb z (ba .item y)] (.w [((!(cmp .eql (ba .item x) 0))&&true)=true->inb (ar .sub .i64 (ba .item x) 1) (ba .item x)] (.c (cond (cmp .eql (ba .item x) 0) true (cmp .neq (rd .item x (ar .sub .i64 (ba .item x) 1)).Key (rd .item y z).Key)) (.w [lim (ba .item x) (ba .item [(rd .item y z)])] (.l (.n (x++[(rd .item y z)]))))
 (.l (.n x))))
def cB:=λa x y z=>pcT (tR a x y z) [0,1,1,0,0,1,0,1,1] [(3,.A .item a),(8,.A .item x),(9,.I y),(10,.I z)] (rvF vl) (λq=>[(3,.A .item q),(8,.A .item x),(9,.I y),(10,.I z)])
theorem Gad(G:Gd ul){fr x y z a}:Lq fr (cB x y z a):=ja G
def dB(a:LI)(y:Int)(z:LI)(x:Int):TX LI (LI×Int) LI:=.c (cmp .lss x y) (.sn (cB z a y x) (λb=>.l (.n (b,(ar .add .i64 x 1)))))
 (.l (.x z))
def uR:=λx y z a=>pcR (dB x y z a) [0,0,1,0,1,1] (λq=>[(3,.A .item q.1),(8,.A .item x),(9,.I y),(10,.I q.2)]) (z,a) (rvF vl) (λq=>(0,[(3,.A .item q)]))
theorem Had(G:Gd ul){fr x y z a}:Lq fr (uR x y z a):=fa G (λe=>⟨cB (gL .item e 3 0) (gL .item e 8 0) (gI e 9 0) (gI e 10 0)⟩) λ_=>Gad G
def Mq:=λx y=>pcL (λs:LI×Int=>uR x y s.1 s.2) ([],0)
theorem Iad(G:Gd ul){fr x y}:Lq fr (Mq x y):=Aa λ_=>Had G
def vR(x:LI):TA LI LI:=.w [Kq x] (.sx (Mq (tl x) (ba .item (tl x))) (λy=>.l (.n y)))
def eB:=λx=>pcT (vR x) [0,1,1] [(0,.S .item x),(3,.A .item [])] (rvF vl) (λq=>[(3,.A .item q)])
theorem Jad(G:Gd ul){fr x}:Lq fr (eB x):=fa G (λe=>⟨Mq (gL .item e 8 0) (gI e 9 0)⟩) λ_=>Iad G
def fB(x:LI):TN LI:=.sn (eB x) (λy=>.l (.r y))
def Kad:=λx=>pcT (fB x) [] [(0,.S .item x)] (rvF vl)
theorem Lad(G:Gd ul){fr x}:Lq fr (Kad x):=fa G (λe=>⟨eB (gL .item e 0 0)⟩) λ_=>Jad G
def iB(x:LI):LI:=ocR (fB x).val
def jB(x:LI):Prop:=(fB x).ob
def aI:Spec:=spF [(.lst .item)] (.one (.acc true) (.lst .item)) iB jB
theorem Mad(G:Gd ul):CP 141 aI:=ua (pts:=[(.lst .item)]) (F:=vl) G λ_ _=>Lad G
def wR:SP:=[(139,ZH),(140,bB),(141,aI)]
abbrev bI:Fnn:=⟨[.tmp 4],.one (.acc true) (.lst .item),none,[]⟩
abbrev Nad:=@OkP Tryz.f119 bI
def kB(x:LI)(y:Int):TN LI:=.c (cmp .eql y 1) (.w [XA x] (.l (.r (WA x))))
 (.c (cmp .eql y 2) (.w [Kq x] (.l (.r (tl x))))
 (.w [jB x] (.l (.r (iB x)))))
def Oad:=λx y=>pcT (kB x y) [] [(0,.S .item x),(1,.I y)] (rvF bI)
theorem Pad(G:Gd wR){fr x y}:Nad fr (Oad x y):=ja G
def lB(x:LI)(y:Int):LI:=ocR (kB x y).val
def mB(x:LI)(y:Int):Prop:=(kB x y).ob
def cI:Spec:=spF [(.lst .item),(.int .i64)] (.one (.acc true) (.lst .item)) lB mB
theorem Qad(G:Gd wR):CP 119 cI:=ua (pts:=[(.lst .item),(.int .i64)]) (F:=bI) G λ_ _=>Pad G
def ed:SP:=[(136,RS),(53,YH),(119,cI),(96,iF),(71,kl)]
abbrev qe:Fnn:=⟨[.tmp 4,.tmp 5],.tup [(false,(.lst .row)),(true,.bool)],none,[]⟩
abbrev pd:=@OkP Tryz.f109 qe
def xR(x:LR)(_:Int)(_:LR)(a:Int)(z:LR)(_ y:Int):TA (LR×Bool×Unit) LR:=.w [inb y (ba .row x)] (.c (cmp .eql (rd .row x y).Key a) (.w [lim (ba .row z) (ba .row [(rd .row x y)])] (.l (.n (z++[(rd .row x y)]))))
 (.l (.n z)))
def nB:=λx y z a d b c=>pcT (xR x y z a d b c) [0,1,1,0,0,1,0,1,0,0,1,0,0,1,0,1,1] [(0,.S .row x),(1,.I y),(6,.A .row z),(7,.I a),(8,.A .row d),(25,.S .row x),(26,.I b),(27,.I c)] (rvF qe) (λq=>[(0,.S .row x),(1,.I y),(6,.A .row z),(7,.I a),(8,.A .row q),(25,.S .row x),(26,.I b),(27,.I c)])
theorem Rad(G:Gd ed){fr x y z a b c d}:pd fr (nB x y z a b c d):=ja G
def oB(a:LR)(b:Int)(c:LR)(d y:Int)(z:LR)(x:Int):TX (LR×Bool×Unit) (LR×Int) LR:=.c (cmp .lss x y) (.sn (nB a b c d z y x) (λf=>.l (.n (f,(ar .add .i64 x 1)))))
 (.l (.x z))
def yR:=λx y z a b c d=>pcR (oB x y z a b c d) [0,0,1,0,1,0,0,1,0,0,1,0,1,1] (λq=>[(0,.S .row x),(1,.I y),(6,.A .row z),(7,.I a),(8,.A .row q.1),(25,.S .row x),(26,.I b),(27,.I q.2)]) (c,d) (rvF qe) (λq=>(2,[(0,.S .row x),(1,.I y),(6,.A .row z),(7,.I a),(8,.A .row q)]))
theorem Sad(G:Gd ed){fr x y z a b c d}:pd fr (yR x y z a b c d):=fa G (λe=>⟨nB (gL .row e 0 0) (gI e 1 0) (gL .row e 6 0) (gI e 7 0) (gL .row e 8 0) (gI e 26 0) (gI e 27 0)⟩) λ_=>Rad G
def Nq:=λx y z a b=>pcL (λs:LR×Int=>yR x y z a b s.1 s.2) ([],0)
theorem Tad(G:Gd ed){fr x y z a b}:pd fr (Nq x y z a b):=Aa λ_=>Sad G
def zR(x:LR)(y:Int)(z:LR)(a:Int):TA (LR×Bool×Unit) LR:=.sx (Nq x y z a (ba .row x)) (λb=>.l (.n b))
def pB:=λx y z a=>pcT (zR x y z a) [0,1,0,0,1,0,0,1,0,1,1] [(0,.S .row x),(1,.I y),(6,.A .row z),(7,.I a),(8,.A .row [])] (rvF qe) (λq=>[(0,.S .row x),(1,.I y),(6,.A .row z),(7,.I a),(8,.A .row q)])
theorem Uad(G:Gd ed){fr x y z a}:pd fr (pB x y z a):=fa G (λe=>⟨Nq (gL .row e 0 0) (gI e 1 0) (gL .row e 6 0) (gI e 7 0) (gI e 26 0)⟩) λ_=>Tad G
def qB(_:LR)(_:Int)(_:LR)(_:Int)(_ _:LR)(_:Time)(_:LI)(_:List Time)(_ _:Int)(y:LI)(a:Int)(z:LI)(x:Int):TX (LR×Bool×Unit) (LI×Int) LI:=.c (cmp .lss x a) (.w [inb x (ba .item y)] (.w [lim (ba .item z) (ba .item [(Item.mk (rd .item y x).Key (rd .item y x).Val (IntKind.wrap .i64 (0 - (rd .item y x).Count)))])] (.l (.n ((z++[(Item.mk (rd .item y x).Key (rd .item y x).Val (IntKind.wrap .i64 (0 - (rd .item y x).Count)))]),(ar .add .i64 x 1))))))
 (.l (.x z))
def AR:=λy z a b c d x m f g h i j k l=>pcR (qB y z a b c d x m f g h i j k l) [0,0,1,0,1,1,0,0,1,1,0,0,1,0,1,1,1,0,0,1,0,0,1,0,1,1] (λq=>[(0,.S .row y),(1,.I z),(6,.A .row a),(7,.I b),(8,.A .row c),(11,.A .row d),(13,.B [x.A,x.B]),(14,.A .item q.1),(43,.v .fr (.lst .time f)),(44,.I g),(45,.I h),(56,.v .fr (.lst .item i)),(57,.I j),(58,.I q.2)]) (k,l) (rvF qe) (λq=>(6,[(0,.S .row y),(1,.I z),(6,.A .row a),(7,.I b),(8,.A .row c),(11,.A .row d),(13,.B [x.A,x.B]),(14,.A .item q),(43,.v .fr (.lst .time f)),(44,.I g),(45,.I h)]))
theorem Vad(G:Gd ed){fr x y z a b c d f g h i j k l m}:pd fr (AR x y z a b c d f g h i j k l m):=ja G
def Oq:=λy z a b c d f x g h i j k=>pcL (λs:LI×Int=>AR y z a b c d f x g h i j k s.1 s.2) (x,0)
theorem Wad(G:Gd ed){fr x y z a b c d f g h i j k}:pd fr (Oq x y z a b c d f g h i j k):=Aa λ_=>Vad G
def BR(a:LR)(b:Int)(c:LR)(d:Int)(f x:LR)(y:Time)(g:LI)(h:List Time)(i j:Int):TA (LR×Bool×Unit) LI:=.k (Dq x y) λz=>.w [Eq x y] (.sx (Oq a b c d f x y g h i j z (ba .item z)) (λk=>.l (.n k)))
def rB:=λy z a b c d x i f g h=>pcT (BR y z a b c d x i f g h) [0,1,1,0,0,1,1,0,0,1,0,1,1,1,0,0,1,0,0,1,0,1,1] [(0,.S .row y),(1,.I z),(6,.A .row a),(7,.I b),(8,.A .row c),(11,.A .row d),(13,.B [x.A,x.B]),(14,.A .item i),(43,.v .fr (.lst .time f)),(44,.I g),(45,.I h)] (rvF qe) (λq=>[(0,.S .row y),(1,.I z),(6,.A .row a),(7,.I b),(8,.A .row c),(11,.A .row d),(13,.B [x.A,x.B]),(14,.A .item q),(43,.v .fr (.lst .time f)),(44,.I g),(45,.I h)])
theorem Xad(G:Gd ed){fr x y z a b c d f g h i}:pd fr (rB x y z a b c d f g h i):=fa G (λe=>⟨Oq (gL .row e 0 0) (gI e 1 0) (gL .row e 6 0) (gI e 7 0) (gL .row e 8 0) (gL .row e 11 0) (Pc e 13) (gL .item e 14 0) (gL .time e 43 0) (gI e 44 0) (gI e 45 0) (gL .item e 56 0) (gI e 57 0)⟩) λ_=>Wad G
def sB(_:LR)(_:Int)(_:LR)(_:Int)(_ _:LR)(a:Time)(_:List Time)(_ _:Int)(y:LI)(b:Int)(z:LR)(x:Int):TX (LR×Bool×Unit) (LR×Int) LR:=.c (cmp .lss x b) (.w [inb x (ba .item y)] (.w [lim (ba .row z) (ba .row [(Row.mk (rd .item y x).Key (rd .item y x).Val a (rd .item y x).Count)])] (.l (.n ((z++[(Row.mk (rd .item y x).Key (rd .item y x).Val a (rd .item y x).Count)]),(ar .add .i64 x 1))))))
 (.l (.x z))
def CR:=λx y z a b l c d f g h i j k=>pcR (sB x y z a b l c d f g h i j k) [0,0,1,1,1,1,0,0,1,1,0,0,1,0,1,1,1,0,0,1,0,0,1,0,1,1] (λq=>[(0,.S .row x),(1,.I y),(6,.A .row z),(7,.I a),(8,.A .row b),(11,.A .row q.1),(13,.B [c.A,c.B]),(43,.v .fr (.lst .time d)),(44,.I f),(45,.I g),(75,.v .fr (.lst .item h)),(76,.I i),(77,.I q.2)]) (j,k) (rvF qe) (λq=>(8,[(0,.S .row x),(1,.I y),(6,.A .row z),(7,.I a),(8,.A .row b),(11,.A .row q),(43,.v .fr (.lst .time d)),(44,.I f),(45,.I g)]))
theorem Yad(G:Gd ed){fr x y z a b c d f g h i j k l}:pd fr (CR x y z a b c d f g h i j k l):=ja G
def Pq:=λy z a b c x d f g h i j=>pcL (λs:LR×Int=>CR y z a b c x d f g h i j s.1 s.2) (x,0)
theorem Zad(G:Gd ed){fr x y z a b c d f g h i j}:pd fr (Pq x y z a b c d f g h i j):=Aa λ_=>Yad G
def tB(b:LR)(z:Int)(c:LR)(d:Int)(a f:LR)(x:List Time)(g y:Int):TA (LR×Bool×Unit) LR:=.w [inb y (ba .time x)] (.k (Dq a (rd .time x y)) λh=>.w [Eq a (rd .time x y),mB h z] (.sn (rB b z c d a f (rd .time x y) (lB h z) x g y) (λi=>.k (vt i) λj=>.w [Am i] (.sx (Pq b z c d a f (rd .time x y) x g y j (ba .item j)) (λk=>.l (.n k))))))
def uB:=λx y z a b g c d f=>pcT (tB x y z a b g c d f) [0,1,1,0,0,1,0,1,1,1,0,0,1,0,0,1,0,1,1] [(0,.S .row x),(1,.I y),(6,.A .row z),(7,.I a),(8,.A .row b),(11,.A .row g),(43,.v .fr (.lst .time c)),(44,.I d),(45,.I f)] (rvF qe) (λq=>[(0,.S .row x),(1,.I y),(6,.A .row z),(7,.I a),(8,.A .row b),(11,.A .row q),(43,.v .fr (.lst .time c)),(44,.I d),(45,.I f)])
theorem aae(G:Gd ed){fr x y z a b c d f g}:pd fr (uB x y z a b c d f g):=Nd G [λe=>⟨rB (gL .row e 0 0) (gI e 1 0) (gL .row e 6 0) (gI e 7 0) (gL .row e 8 0) (gL .row e 11 0) (Pc e 13) (gL .item e 14 0) (gL .time e 43 0) (gI e 44 0) (gI e 45 0)⟩,λe=>⟨Pq (gL .row e 0 0) (gI e 1 0) (gL .row e 6 0) (gI e 7 0) (gL .row e 8 0) (gL .row e 11 0) (Pc e 13) (gL .time e 43 0) (gI e 44 0) (gI e 45 0) (gL .item e 75 0) (gI e 76 0)⟩] ⟨λ_=>Xad G,λ_=>Zad G,trivial⟩
def Qq(a:LR)(b:Int)(c:LR)(d:Int)(f:LR)(g:List Time)(y:Int)(z:LR)(x:Int):TX (LR×Bool×Unit) (LR×Int) LR:=.c (cmp .lss x y) (.sn (uB a b c d f z g y x) (λh=>.l (.n (h,(ar .add .i64 x 1)))))
 (.l (.x z))
def DR:=λx y z a b c d f g=>pcR (Qq x y z a b c d f g) [0,0,1,0,1,1,1,0,0,1,0,0,1,0,1,1] (λq=>[(0,.S .row x),(1,.I y),(6,.A .row z),(7,.I a),(8,.A .row b),(11,.A .row q.1),(43,.v .fr (.lst .time c)),(44,.I d),(45,.I q.2)]) (f,g) (rvF qe) (λq=>(4,[(0,.S .row x),(1,.I y),(6,.A .row z),(7,.I a),(11,.A .row q)]))
theorem bae(G:Gd ed){fr x y z a b c d f g}:pd fr (DR x y z a b c d f g):=fa G (λe=>⟨uB (gL .row e 0 0) (gI e 1 0) (gL .row e 6 0) (gI e 7 0) (gL .row e 8 0) (gL .row e 11 0) (gL .time e 43 0) (gI e 44 0) (gI e 45 0)⟩) λ_=>aae G
def Rq:=λx y z a b c d=>pcL (λs:LR×Int=>DR x y z a b c d s.1 s.2) ([],0)
theorem cae(G:Gd ed){fr x y z a b c d}:pd fr (Rq x y z a b c d):=Aa λ_=>bae G
def ER(x:LR)(a:Int)(b:LR)(y:Int)(c:LR):TA (LR×Bool×Unit) LR:=.k (db x y) λz=>.w [II x y] (.sx (Rq x a b y c z (ba .time z)) (λd=>.l (.n d)))
def vB:=λx y z a b=>pcT (ER x y z a b) [0,1,1,1,0,0,1,0,0,1,0,1,1] [(0,.S .row x),(1,.I y),(6,.A .row z),(7,.I a),(8,.A .row b),(11,.A .row [])] (rvF qe) (λq=>[(0,.S .row x),(1,.I y),(6,.A .row z),(7,.I a),(11,.A .row q)])
theorem dae(G:Gd ed){fr x y z a b}:pd fr (vB x y z a b):=fa G (λe=>⟨Rq (gL .row e 0 0) (gI e 1 0) (gL .row e 6 0) (gI e 7 0) (gL .row e 8 0) (gL .time e 43 0) (gI e 44 0)⟩) λ_=>cae G
def wB(y:LR)(z:Int)(x:LR)(a:Int):TA (LR×Bool×Unit) LR:=.sn (pB y z x a) (λc=>.sn (vB y z x a c) (λb=>.w [lim (ba .row x) (ba .row b)] (.l (.n (x++b)))))
def xB:=λx y a z=>pcT (wB x y a z) [0,1,0,0,1,0,1,1] [(0,.S .row x),(1,.I y),(6,.A .row a),(7,.I z)] (rvF qe) (λq=>[(0,.S .row x),(1,.I y),(6,.A .row q),(7,.I z)])
theorem eae(G:Gd ed){fr x y z a}:pd fr (xB x y z a):=Nd G [λe=>⟨pB (gL .row e 0 0) (gI e 1 0) (gL .row e 6 0) (gI e 7 0)⟩,λe=>⟨vB (gL .row e 0 0) (gI e 1 0) (gL .row e 6 0) (gI e 7 0) (gL .row e 8 0)⟩] ⟨λ_=>Uad G,λ_=>dae G,trivial⟩
def yB(z:LR)(a:Int)(y:LR)(x:Int):TX (LR×Bool×Unit) (LR×Int) LR:=.c (cmp .lss x 4) (.sn (xB z a y x) (λb=>.l (.n (b,(ar .add .i64 x 1)))))
 (.l (.x y))
def FR:=λx y z a=>pcR (yB x y z a) [0,0,1,0,1,1] (λq=>[(0,.S .row x),(1,.I y),(6,.A .row q.1),(7,.I q.2)]) (z,a) (rvF qe) (λq=>(0,[(6,.A .row q)]))
theorem fae(G:Gd ed){fr x y z a}:pd fr (FR x y z a):=fa G (λe=>⟨xB (gL .row e 0 0) (gI e 1 0) (gL .row e 6 0) (gI e 7 0)⟩) λ_=>eae G
def Sq:=λx y=>pcL (λs:LR×Int=>FR x y s.1 s.2) ([],0)
theorem gae(G:Gd ed){fr x y}:pd fr (Sq x y):=Aa λ_=>fae G
def GR(x:LR)(y:Int):TA (LR×Bool×Unit) LR:=.sx (Sq x y) (λz=>.l (.n z))
def zB:=λx y=>pcT (GR x y) [0,1,1] [(0,.S .row x),(1,.I y),(6,.A .row [])] (rvF qe) (λq=>[(6,.A .row q)])
theorem iae(G:Gd ed){fr x y}:pd fr (zB x y):=fa G (λe=>⟨Sq (gL .row e 0 0) (gI e 1 0)⟩) λ_=>gae G
def AB(y:LR)(z:Int):TN (LR×Bool×Unit):=.sn (zB y z) (λx=>.w [gi x] (.l (.r ((Re x).1,((Re x).2.1,())))))
def jae:=λx y=>pcT (AB x y) [] [(0,.S .row x),(1,.I y)] (rvF qe)
theorem kae(G:Gd ed){fr x y}:pd fr (jae x y):=fa G (λe=>⟨zB (gL .row e 0 0) (gI e 1 0)⟩) λ_=>iae G
def BB(x:LR)(y:Int):LR×Bool×Unit:=ocR (AB x y).val
def CB(x:LR)(y:Int):Prop:=(AB x y).ob
def fI:Spec:=spF [(.lst .row),(.int .i64)] (.tup [(false,(.lst .row)),(true,.bool)]) BB CB
theorem lae(G:Gd ed):CP 109 fI:=ua (pts:=[(.lst .row),(.int .i64)]) (F:=qe) G λ_ _=>kae G
abbrev V70:=Plan->List LR->LR×Bool×Unit
abbrev Q70:=Plan->List LR->Prop
def DB(v:V70)(p:Q70):Spec:=⟨[(.st .plan),(.lst .lrow)],.tup [(false,(.lst .row)),(true,.bool)],false,λx=>(v x.1 x.2.1,0),λx=>p x.1 x.2.1⟩
def Tq(x:V70)(y:Q70):SP:=[(70,DB x y),(104,GH),(106,JH),(72,LH),(71,kl),(107,MH),(108,WH),(109,fI)]
abbrev F70:Fnn:=⟨[.tmp 4,.tmp 5],.tup [(false,(.lst .row)),(true,.bool)],none,[]⟩
abbrev FB:=@OkP Tryz.f70 F70
def GB(c:V70)(d:Q70)(b:List LR)(_ _:Int)(y:LP)(f:Int)(z:List LR)(x:Int):TX (LR×Bool×Unit) ((List LR)×Int) ((List LR)):=.c (cmp .lss x f) (.w [inb x (ba .plan y)] (.k (c (pE (rd .plan y x)) b) λa=>.w [d (pE (rd .plan y x)) b] (.c (!a.2.1) (.l (.r ([],(false,()))))
 (.w [lim (ba .lrow z) (ba .lrow [a.1])] (.l (.n ((z++[a.1]),(ar .add .i64 x 1))))))))
 (.l (.x z))
def HR:=λf g y z a x b c d=>pcR (GB f g y z a x b c d) [0,0,1,0,1,1] (λq=>[(1,.S .lrow y),(2,.box [(.fr,.i z),(.fr,.i a),(.sh,.lst .plan x)]),(6,.v (.acc false) (.lst .lrow q.1)),(12,.S .plan x),(13,.I b),(14,.I q.2)]) (c,d) (rvF F70) (λq=>(0,[(1,.S .lrow y),(2,.box [(.fr,.i z),(.fr,.i a),(.sh,.lst .plan x)]),(6,.v (.acc false) (.lst .lrow q))]))
theorem mae{x:V70}{y:Q70}(G:Gd (Tq x y)){fr z a b c d f g}:FB fr (HR x y z a b c d f g):=ja G
def Uq:=λx y z a b c d=>pcL (λs:(List LR)×Int=>HR x y z a b c d s.1 s.2) ([],0)
theorem nae{x:V70}{y:Q70}(G:Gd (Tq x y)){fr z a b c d}:FB fr (Uq x y z a b c d):=Aa λ_=>mae G
def IR(y:V70)(z:Q70)(a:List LR)(b c:Int)(x:LP):TA (LR×Bool×Unit) ((List LR)):=.sx (Uq y z a b c x (ba .plan x)) (λd=>.l (.n d))
def IB:=λb c x y z a=>pcT (IR b c x y z a) [0,1,1] [(1,.S .lrow x),(2,.box [(.fr,.i y),(.fr,.i z),(.sh,.lst .plan a)]),(6,.v .fr (.nl .lrow))] (rvF F70) (λq=>[(1,.S .lrow x),(2,.box [(.fr,.i y),(.fr,.i z),(.sh,.lst .plan a)]),(6,.v (.acc false) (.lst .lrow q))])
theorem oae{x:V70}{y:Q70}(G:Gd (Tq x y)){fr z a b c}:FB fr (IB x y z a b c):=fa G (λe=>⟨Uq x y (gL .lrow e 1 0) (gI e 2 0) (gI e 2 1) (gL .plan e 2 2) (gI e 13 0)⟩) λ_=>nae G
def wl(g:V70)(h:Q70)(y:Plan)(z:List LR):TN (LR×Bool×Unit):=.sn (IB g h z y.Kind y.Num y.Kids) (λx=>.c (cmp .eql y.Kind 1) (.w [inb y.Num (ba .lrow z),Uz (rd .lrow z y.Num)] (.l (.r ((Tz (rd .lrow z y.Num)),(true,())))))
 (.c (cmp .eql y.Kind 2) (.k (eA (rd .lrow x 0) y.Num) λc=>.w [inb 0 (ba .lrow x),fA (rd .lrow x 0) y.Num] (.l (.r (c.1,(c.2.1,())))))
 (.c (cmp .eql y.Kind 3) (.k (iA (rd .lrow x 0) (rd .lrow x 1)) λa=>.w [inb 0 (ba .lrow x),inb 1 (ba .lrow x),jA (rd .lrow x 0) (rd .lrow x 1),gi a] (.l (.r ((Re a).1,((Re a).2.1,())))))
 (.c (cmp .eql y.Kind 4) (.k (oA (rd .lrow x 0)) λb=>.w [inb 0 (ba .lrow x),pA (rd .lrow x 0),gi b] (.l (.r ((Re b).1,((Re b).2.1,())))))
 (.c (cmp .eql y.Kind 5) (.k (xA (rd .lrow x 0) (rd .lrow x 1)) λd=>.w [inb 0 (ba .lrow x),inb 1 (ba .lrow x),yA (rd .lrow x 0) (rd .lrow x 1)] (.l (.r (d.1,(d.2.1,())))))
 (.k (BB (rd .lrow x 0) y.Num) λf=>.w [inb 0 (ba .lrow x),CB (rd .lrow x 0) y.Num] (.l (.r (f.1,(f.2.1,()))))))))))
def pae:=λz a x y=>pcT (wl z a x y) [] [(0,.agg false [.i x.Kind,.i x.Num,.lst .plan x.Kids]),(1,.S .lrow y)] (rvF F70)
theorem qae{x:V70}{y:Q70}(G:Gd (Tq x y)){fr z a}:FB fr (pae x y z a):=fa G (λe=>⟨IB x y (gL .lrow e 1 0) (gI e 2 0) (gI e 2 1) (gL .plan e 2 2)⟩) λ_=>oae G
theorem rae{x:V70}{y:Q70}(G:Gd (Tq x y)):CP 70 (DB (λz a=>ocR (wl x y z a).val) (λz a=>(wl x y z a).ob)):=ua (pts:=[(.st .plan),(.lst .lrow)]) (F:=F70) G λ_ _=>qae G
def Ed:Nat->V70×Q70
 |0=>(λ_ _=>default,λ_ _=>False)
 |n+1=>(λx y=>ocR (wl (Ed n).1 (Ed n).2 x y).val,λx y=>(wl (Ed n).1 (Ed n).2 x y).ob)
def iI:V70:=(Ed gc).1
def jI:Q70:=(Ed gc).2
def JR:Spec:=DB iI jI
def Vq:SP:=[(69,yH),(25,Rz),(70,JR)]
abbrev F29:Fnn:=⟨[.tmp 4,.tmp 5],.tup [(false,(.lst .row)),(true,.bool)],none,[]⟩
abbrev JB:=@OkP Tryz.f29 F29
def MB(y:List LR)(_ _:Int)(_:LP)(z x:Int):TX (LR×Bool×Unit) Int Unit:=.c (cmp .lss x z) (.w [inb x (ba .lrow y)] (.w [qq (rd .lrow y x)] (.c (!(pq (rd .lrow y x))) (.l (.r ([],(false,()))))
 (.l (.n (ar .add .i64 x 1))))))
 (.l (.x ()))
def MR:=λx y z a b c=>pcR (MB x y z a b c) [0,0,1,0,1,1] (λq=>[(1,.S .lrow x),(2,.box [(.fr,.i y),(.fr,.i z),(.sh,.lst .plan a)]),(16,.S .lrow x),(17,.I b),(18,.I q)]) c (rvF F29) (λ_=>(0,[(1,.S .lrow x),(2,.box [(.fr,.i y),(.fr,.i z),(.sh,.lst .plan a)])]))
theorem sae(G:Gd Vq){fr x y z a b c}:JB fr (MR x y z a b c):=ja G
def Wq:=λx y z a b=>pcL (λs:Int=>MR x y z a b s) 0
theorem tae(G:Gd Vq){fr x y z a b}:JB fr (Wq x y z a b):=Aa λ_=>sae G
def NR(x:List LR)(y z:Int)(a:LP):TA (LR×Bool×Unit) Unit:=.sx (Wq x y z a (ba .lrow x)) (λ_=>.l (.n ()))
def PB:=λx y z a=>pcT (NR x y z a) [0,1,1] [(1,.S .lrow x),(2,.box [(.fr,.i y),(.fr,.i z),(.sh,.lst .plan a)])] (rvF F29) (λ_=>[(1,.S .lrow x),(2,.box [(.fr,.i y),(.fr,.i z),(.sh,.lst .plan a)])])
theorem uae(G:Gd Vq){fr x y z a}:JB fr (PB x y z a):=fa G (λe=>⟨Wq (gL .lrow e 1 0) (gI e 2 0) (gI e 2 1) (gL .plan e 2 2) (gI e 17 0)⟩) λ_=>tae G
def RB(x:Plan)(y:List LR):TN (LR×Bool×Unit):=.w [Gz (pE x)] (.c (cond (!(Ez (pE x))) true (cmp .neq (ba .lrow y) 2)) (.l (.r ([],(false,()))))
 (.sn (PB y x.Kind x.Num x.Kids) (λ_=>.k (iI (pE x) y) λz=>.w [jI (pE x) y] (.l (.r (z.1,(z.2.1,())))))))
def vae:=λx y=>pcT (RB x y) [] [(0,.agg false [.i x.Kind,.i x.Num,.lst .plan x.Kids]),(1,.S .lrow y)] (rvF F29)
theorem wae(G:Gd Vq){fr x y}:JB fr (vae x y):=fa G (λe=>⟨PB (gL .lrow e 1 0) (gI e 2 0) (gI e 2 1) (gL .plan e 2 2)⟩) λ_=>uae G
def SB(x:Plan)(y:List LR):LR×Bool×Unit:=ocR (RB x y).val
def TB(x:Plan)(y:List LR):Prop:=(RB x y).ob
def lI:Spec:=spF [(.st .plan),(.lst .lrow)] (.tup [(false,(.lst .row)),(true,.bool)]) SB TB
theorem xae(G:Gd Vq):CP 29 lI:=ua (pts:=[(.st .plan),(.lst .lrow)]) (F:=F29) G λ_ _=>wae G
def Xq:SP:=[(95,BA)]
abbrev F52:Fnn:=⟨[.tmp 4],.one .fr .bool,none,[]⟩
abbrev UB:=@OkP Tryz.f52 F52
def VB(z:Time)(y:List Time)(a x:Int):TX Bool Int Unit:=.c (cmp .lss x a) (.w [inb x (ba .time y)] (.w [AA (rd .time y x) z] (.c (zA (rd .time y x) z) (.l (.r true))
 (.l (.n (ar .add .i64 x 1))))))
 (.l (.x ()))
def PR:=λx y z a=>pcR (VB x y z a) [0,0,1,0,1] (λq=>[(3,.B [x.A,x.B]),(7,.S .time y),(8,.I z),(9,.I q)]) a (rvF F52) (λ_=>(0,[]))
theorem yae(G:Gd Xq){fr x y z a}:UB fr (PR x y z a):=ja G
def Yq:=λx y z=>pcL (λs:Int=>PR x y z s) 0
theorem zae(G:Gd Xq){fr x y z}:UB fr (Yq x y z):=Aa λ_=>yae G
def QR(x:List Time)(y:Time):TA Bool Unit:=.sx (Yq y x (ba .time x)) (λ_=>.l (.n ()))
def WB:=λy x=>pcT (QR y x) [0,1] [(0,.S .time y),(3,.B [x.A,x.B])] (rvF F52) (λ_=>[])
theorem Aae(G:Gd Xq){fr x y}:UB fr (WB x y):=fa G (λe=>⟨Yq (Pc e 3) (gL .time e 7 0) (gI e 8 0)⟩) λ_=>zae G
def XB(x:List Time)(y:Time):TN Bool:=.sn (WB x y) (λ_=>.l (.r false))
def Bae:=λy x=>pcT (XB y x) [] [(0,.S .time y),(1,.agg true [.i x.A,.i x.B])] (rvF F52)
theorem Cae(G:Gd Xq){fr x y}:UB fr (Bae x y):=fa G (λe=>⟨WB (gL .time e 0 0) (Pc e 3)⟩) λ_=>Aae G
def YB(x:List Time)(y:Time):Bool:=ocR (XB x y).val
def ZB(x:List Time)(y:Time):Prop:=(XB x y).ob
def mI:Spec:=spF [(.lst .time),(.st .time)] (.one .fr .bool) YB ZB
theorem Dae(G:Gd Xq):CP 52 mI:=ua (pts:=[(.lst .time),(.st .time)]) (F:=F52) G λ_ _=>Cae G
def xl:SP:=[(52,mI)]
abbrev F65:Fnn:=⟨[.tmp 4],.one .fr (.lst .row),none,[]⟩
abbrev Zq:=@OkP Tryz.f65 F65
def aC(a:List Time)(z x:LR)(_ y:Int):TA LR LR:=.w [inb y (ba .row x)] (.w [ZB a (rd .row x y).At] (.c (!(YB a (rd .row x y).At)) (.w [lim (ba .row z) (ba .row [(rd .row x y)])] (.l (.n (z++[(rd .row x y)]))))
 (.l (.n z))))
def bC:=λx b y z a=>pcT (aC x b y z a) [0,1,1,0,0,1,0,1,1] [(1,.S .time x),(5,.A .row b),(9,.S .row y),(10,.I z),(11,.I a)] (rvF F65) (λq=>[(1,.S .time x),(5,.A .row q),(9,.S .row y),(10,.I z),(11,.I a)])
theorem Eae(G:Gd xl){fr x y z a b}:Zq fr (bC x y z a b):=ja G
def cC(a:List Time)(b:LR)(y:Int)(z:LR)(x:Int):TX LR (LR×Int) LR:=.c (cmp .lss x y) (.sn (bC a z b y x) (λc=>.l (.n (c,(ar .add .i64 x 1)))))
 (.l (.x z))
def RR:=λx y z a b=>pcR (cC x y z a b) [0,0,1,0,1,1] (λq=>[(1,.S .time x),(5,.A .row q.1),(9,.S .row y),(10,.I z),(11,.I q.2)]) (a,b) (rvF F65) (λq=>(0,[(5,.A .row q)]))
theorem Fae(G:Gd xl){fr x y z a b}:Zq fr (RR x y z a b):=fa G (λe=>⟨bC (gL .time e 1 0) (gL .row e 5 0) (gL .row e 9 0) (gI e 10 0) (gI e 11 0)⟩) λ_=>Eae G
def br:=λx y z=>pcL (λs:LR×Int=>RR x y z s.1 s.2) ([],0)
theorem Gae(G:Gd xl){fr x y z}:Zq fr (br x y z):=Aa λ_=>Fae G
def TR(x:LR)(y:List Time):TA LR LR:=.sx (br y x (ba .row x)) (λz=>.l (.n z))
def dC:=λx y=>pcT (TR x y) [0,1,1] [(0,.S .row x),(1,.S .time y),(5,.A .row [])] (rvF F65) (λq=>[(5,.A .row q)])
theorem Hae(G:Gd xl){fr x y}:Zq fr (dC x y):=fa G (λe=>⟨br (gL .time e 1 0) (gL .row e 9 0) (gI e 10 0)⟩) λ_=>Gae G
def eC(x:LR)(y:List Time):TN LR:=.sn (dC x y) (λz=>.l (.r z))
def Iae:=λx y=>pcT (eC x y) [] [(0,.S .row x),(1,.S .time y)] (rvF F65)
theorem Jae(G:Gd xl){fr x y}:Zq fr (Iae x y):=fa G (λe=>⟨dC (gL .row e 0 0) (gL .time e 1 0)⟩) λ_=>Hae G
def fC(x:LR)(y:List Time):LR:=ocR (eC x y).val
def gC(x:LR)(y:List Time):Prop:=(eC x y).ob
def nI:Spec:=spF [(.lst .row),(.lst .time)] (.one .fr (.lst .row)) fC gC
theorem Kae(G:Gd xl):CP 65 nI:=ua (pts:=[(.lst .row),(.lst .time)]) (F:=F65) G λ_ _=>Jae G
def gr:SP:=[]
abbrev F67:Fnn:=⟨[.tmp 4],.one .fr .bool,none,[]⟩
abbrev iC:=@OkP Tryz.f67 F67
def ir(y z:LR)(a x:Int):TX Bool Int Unit:=.c (cmp .lss x a) (.w [inb x (ba .row y),inb x (ba .row z)] (.c (!(cmp .eql (rd .row y x).Key (rd .row z x).Key&&(cmp .eql (rd .row y x).Val (rd .row z x).Val&&(cmp .eql (rd .row y x).At.A (rd .row z x).At.A&&(cmp .eql (rd .row y x).At.B (rd .row z x).At.B&&(cmp .eql (rd .row y x).Diff (rd .row z x).Diff&&true)))))) (.l (.r false))
 (.l (.n (ar .add .i64 x 1)))))
 (.l (.x ()))
def UR:=λx y z a=>pcR (ir x y z a) [0,0,1,0,1,1] (λq=>[(0,.S .row x),(1,.S .row y),(12,.I z),(13,.I q)]) a (rvF F67) (λ_=>(0,[]))
theorem Lae(G:Gd gr){fr x y z a}:iC fr (UR x y z a):=ja G
def yl:=λx y z=>pcL (λs:Int=>UR x y z s) 0
theorem Mae(G:Gd gr){fr x y z}:iC fr (yl x y z):=Aa λ_=>Lae G
def oI(x y:LR):TA Bool Unit:=.sx (yl x y (ba .row x)) (λ_=>.l (.n ()))
def zl:=λx y=>pcT (oI x y) [0,1,1] [(0,.S .row x),(1,.S .row y)] (rvF F67) (λ_=>[])
theorem Nae(G:Gd gr){fr x y}:iC fr (zl x y):=fa G (λe=>⟨yl (gL .row e 0 0) (gL .row e 1 0) (gI e 12 0)⟩) λ_=>Mae G
def Al(x y:LR):TN Bool:=.c (cmp .neq (ba .row x) (ba .row y)) (.l (.r false))
 (.sn (zl x y) (λ_=>.l (.r true)))
def Oae:=λx y=>pcT (Al x y) [] [(0,.S .row x),(1,.S .row y)] (rvF F67)
theorem Pae(G:Gd gr){fr x y}:iC fr (Oae x y):=fa G (λe=>⟨zl (gL .row e 0 0) (gL .row e 1 0)⟩) λ_=>Nae G
def Bl(x:LR)(y:LR):Bool:=ocR (Al x y).val
def Cl(x:LR)(y:LR):Prop:=(Al x y).ob
def pI:Spec:=spF [(.lst .row),(.lst .row)] (.one .fr .bool) Bl Cl
theorem Qae(G:Gd gr):CP 67 pI:=ua (pts:=[(.lst .row),(.lst .row)]) (F:=F67) G λ_ _=>Pae G
def WR:SP:=[(54,vH),(29,lI),(65,nI),(67,pI)]
abbrev F27:Fnn:=⟨[.tmp 2],.one .fr .bool,none,[]⟩
abbrev Rae:=@OkP Tryz.f27 F27
def jC(x:Sess):TN Bool:=.w [qz x.Front] (.c (!(oz x.Front)) (.l (.r false))
 (.k (SB (pE x.Plan) x.Ins) λy=>.w [TB (pE x.Plan) x.Ins] (.k (fC y.1 x.Front) λz=>.w [(y.2.1&&true)=true->(gC y.1 x.Front),(y.2.1&&true)=true->(Cl x.Told z)] (.l (.r (cond y.2.1 (Bl x.Told z) false))))))
def Sae:=λx=>pcT (jC x) [] [(0,.agg false [.i x.Plan.Kind,.i x.Plan.Num,.lst .plan x.Plan.Kids,.lst .lrow x.Ins,.lst .time x.Front,.lst .row x.Told])] (rvF F27)
theorem Tae(G:Gd WR){fr x}:Rae fr (Sae x):=ja G
def lC(x:Sess):Bool:=ocR (jC x).val
def mC(x:Sess):Prop:=(jC x).ob
def XR:Spec:=spF [(.st .sess)] (.one .fr .bool) lC mC
theorem Uae(G:Gd WR):CP 27 XR:=ua (pts:=[(.st .sess)]) (F:=F27) G λ_ _=>Tae G
end
section
namespace Ds
open Go
set_option maxRecDepth 100000
section
variable {P:Program}{tt:TT}{N:NP}{fr:Fr}{Cd:Code}{F:Fnn}{R A X Y Z:Type}
theorem go{S:Pb R A X Y Z}(h:Qc P tt N fr Cd F S)(hob:S.ob){q:A}(ho:S.o=.n q){c:Code}(hc:c=Ba Cd S.path){a:Act}{w:World}(hs:Sim N fr.B fr.IoB fr.W0 fr.F0 S.env a w){Q:Exit->Act->World->Prop}
  (hQ:∀a w,Sim N fr.B fr.IoB fr.W0 fr.F0 (S.pn q) a w->Q .normal a w):c.wp P Q a w:=by
 subst hc;refine wp_mono (h hob a w hs) ?_;rintro ex a w ⟨e',hh,hp⟩;cases ex with
 |normal=>
  obtain⟨q',hq,hw⟩:=hp;rw[ho]at hq;cases hq;exact hQ _ _ (hw _ _ _ _ _ _ _ hh)
 |ret=>
  obtain⟨q',hq,_⟩:=hp;rw[ho]at hq;cases hq
 |exit i=>
  rcases hp with⟨q',hq,_⟩|⟨q',hq,_⟩|⟨q',hq,_⟩<;>(rw[ho]at hq;cases hq)
 |_=>exact hp.elim
end
theorem uT{σ ρ:Type}[Inhabited ρ]{step:σ->Lp σ ρ}{ob:σ->Prop}{G:ρ->Prop}{s:σ}(h:LpT step ob s)(hG:∀s r,step s=.out r->G r):G (lpV step s):=by
 induction h with
 |mk s _ _ ih=>
  cases hs:step s with
  |go s'=>rw[bK hs];exact ih s' hs
  |out r=>rw[aK hs];exact hG s r hs
noncomputable def CS:Code:=ee Tryz.f58
theorem conS(G:Gd Yh):ut Tryz.prog 58 Zc Qf:=by
 refine⟨⟨Tryz.f58,by kernel_rfl,by kernel_rfl,by kernel_rfl⟩,λy hy W0 F0 us hl hus=>?_⟩;have hh:ye F0 W0 [.st .sess] (y,()) [.agg us.toArray] none:=⟨_,[],rfl,⟨us,rfl,hus⟩,rfl,rfl⟩;refine calls_of_wp (fn:=Tryz.f58) (c:=CS) (by kernel_rfl) (by kernel_rfl) ?_;have hs:=iK (nt:=(Tryz.f58).ntmps) [] hl hh (Nat.le_of_ble_eq_true (by kernel_rfl));obtain⟨h1,h2,_⟩:=(show(cl y).ob from hy);obtain⟨h3,_⟩:=h2 _ rfl
 obtain⟨l,hi⟩ : ∃l,(qy y.Plan.Kind y.Plan.Num y.Plan.Kids y.Ins y.Front y.Told (me (Plan.mk y.Plan.Kind y.Plan.Num y.Plan.Kids)).Kind (me (Plan.mk y.Plan.Kind y.Plan.Num y.Plan.Kids)).Num (me (Plan.mk y.Plan.Kind y.Plan.Num y.Plan.Kids)).Kids ([]++y.Front) ([]++y.Told)).val=.n l:=by
  obtain⟨h4,_⟩:=h3
  have h5:=uT (G:=λr=>∃l,r=Oc.x l) h4 (λs r hr=>by
   obtain⟨s1,s2⟩:=s
   revert hr
   simp only[eH,pcR,zp,yp,ny,pcT,Tr.val];cases cmp .lss s2 (ba .lrow y.Ins) with
   |true=>intro hr;cases hr
   |false=>intro hr;cases hr;exact⟨_,rfl⟩)
  obtain⟨l,h5⟩:=h5;refine⟨l,?_⟩;have h6:(al y.Plan.Kind y.Plan.Num y.Plan.Kids y.Ins y.Front y.Told (me (Plan.mk y.Plan.Kind y.Plan.Num y.Plan.Kids)).Kind (me (Plan.mk y.Plan.Kind y.Plan.Num y.Plan.Kids)).Num (me (Plan.mk y.Plan.Kind y.Plan.Num y.Plan.Kids)).Kids ([]++y.Front) ([]++y.Told)).o=.x l:=h5;simp only[qy,Tr.val,h6]
 have hv:Zc y=⟨⟨(me (Plan.mk y.Plan.Kind y.Plan.Num y.Plan.Kids)).Kind,(me (Plan.mk y.Plan.Kind y.Plan.Num y.Plan.Kids)).Num,(me (Plan.mk y.Plan.Kind y.Plan.Num y.Plan.Kids)).Kids⟩,l,[]++y.Front,[]++y.Told⟩:=by
  simp only[Zc,cl,xp,my,Ap,pcT,Tr.val,hi,ocR]
 have hj:=MS.of hs rfl;refine ma (c1:=nav CS [0]) (c2:=nav CS [1]) (by kernel_rfl) ?_;refine MS.regC G (keep:=[1,2]) (e':=[(1,boxS y),(2,um)]) (ps:=[]) (by kernel_rfl) trivial hj (λa w hs=>?_);show(nav CS [1]).wp _ _ a w;refine ma (c1:=nav CS [1,0]) (c2:=nav CS [1,1]) (by kernel_rfl) ?_;refine go (fr:=⟨W0.heap.size,[],W0,F0⟩) (UP G) h1 rfl (by kernel_rfl) hs.to (λa w hs=>?_);show(nav CS [1,1]).wp _ _ a w;refine ma (c1:=nav CS [1,1,0]) (c2:=nav CS [1,1,1]) (by kernel_rfl) ?_;refine go (fr:=⟨W0.heap.size,[],W0,F0⟩) (VP G) h3 hi (by kernel_rfl) hs (λa w hs=>?_);show(nav CS [1,1,1]).wp _ _ a w
 refine HV G.htt (t:=30) (d:=(lk tt 30).get (by kernel_rfl)) (X:=3) (R:=2) (d0:=36) (fn:=Tryz.f58) (c:=nav CS [1,1,1]) (c1:=nav CS [1,1,1,0]) (c2:=nav CS [1,1,1,1]) (o0:=opN (opsOf (nav CS [1,1,1,0])) 0) (o1:=opN (opsOf (nav CS [1,1,1,0])) 1)
  (by kernel_rfl) (by kernel_rfl) (by kernel_rfl) (by kernel_rfl) (by decide) (by decide) (by decide) (by kernel_rfl) (by kernel_rfl) (by kernel_rfl) (by kernel_rfl) (by kernel_rfl) (by kernel_rfl) (by kernel_rfl) (by kernel_rfl) (by kernel_rfl) (by kernel_rfl) (by kernel_rfl) (by kernel_rfl)
  (y:=Zc y) (by rw[hv];exact hs) (by rw[hs.tmps.size];exact Nat.lt_of_succ_le (Nat.le_of_ble_eq_true (by kernel_rfl))) (λa w hd ⟨vs,F',ob,r1,r2,r3,r4,r5⟩=>⟨hd,_,r1,vs,F',ob,rfl,r2,r3,r4,r5⟩)
end Ds
end
theorem xb(a b:Int):cmp .eql a b=decide (a=b):=by
 show(a == b)=_;by_cases h:a=b<;>simp[h]
theorem De(a b:Int):cmp .neq a b=!decide (a=b):=by
 show(a != b)=_;by_cases h:a=b<;>simp[h]
theorem Yb(a b:Int):cmp .lss a b=decide (a<b):=rfl
theorem Ee(a b:Int):cmp .leq a b=decide (a<=b):=rfl
theorem tc(a b:Int):cmp .gtr a b=decide (b<a):=rfl
theorem Kg(a b:Int):cmp .geq a b=decide (b<=a):=rfl
theorem Zb{a b:Int}(h : -9223372036854775808<=a+b/\a+b<=9223372036854775807):ar .add .i64 a b=a+b:=IntWalk.i64_in _ h
theorem bf{a b:Int}(h : -9223372036854775808<=a - b/\a - b<=9223372036854775807):ar .sub .i64 a b=a - b:=IntWalk.i64_in _ h
theorem Lg{a b:Int}(h : -9223372036854775808<=a*b/\a*b<=9223372036854775807):ar .mul .i64 a b=a*b:=IntWalk.i64_in _ h
theorem wt(a b:Int):ar .rem .i64 a b=a.tmod b:=rfl
theorem jF{a b:Int}(h:0<=a/\a<=9223372036854775807/\1<=b):ar .quo .i64 a b=a / b:=IntWalk.i64_quo a b h
theorem SV(a b:Int):ar .add .i64 a b=ar .add .i64 b a:=by show IntKind.wrap _ _=IntKind.wrap _ _;rw[Int.add_comm]
theorem VL{t:Ty}{l r:List t.T}{x:t.T}:ba t (l++x::r)=(l.length:Int)+(r.length+1):=by
 unfold ba;simp
theorem Xi{t:Ty}{l r:List t.T}{x:t.T}:rd t (l++x::r) (l.length:Int)=x:=by
 unfold rd;rw[Int.toNat_natCast,List.getD_eq_getElem?_getD];simp
theorem Yi{t:Ty}{l r:List t.T}{x:t.T}:inb (l.length:Int) (ba t (l++x::r)):=by
 rw[VL];unfold inb;omega
theorem WL{t:Ty}{l r:List t.T}{x:t.T}:cmp .lss (l.length:Int) (ba t (l++x::r))=true:=by
 rw[VL,Yb];simp;omega
theorem Na{t:Ty}{l:List t.T}:cmp .lss (l.length:Int) (ba t l)=false:=by
 rw[Yb];simp[ba]
theorem Qa{t:Ty}{xs l r:List t.T}{x:t.T}(h:xs=l++x::r):xs.length=l.length+(r.length+1)/\rd t xs (l.length:Int)=x/\inb (l.length:Int) (ba t xs)/\cmp .lss (l.length:Int) (ba t xs)=true:=by
 subst h;exact⟨by simp,Xi,Yi,WL⟩
theorem yb{t:Ty}{o:List t.T}{y:t.T}(h:o.length<1099511627776):lim (ba t o) (ba t [y]):=by
 simp only[lim,ba,List.length_singleton];omega
theorem lF{t:Ty}{o u:List t.T}(h:o.length+u.length<1099511627776):lim (ba t o) (ba t u):=by
 simp only[lim,ba];omega
theorem Ia{α:Type}{l:List α}(h:l.length<1099511627776):ar .add .i64 (l.length:Int) 1=((l.length+1:Nat):Int):=by
 rw[Zb (by omega)];omega
structure la{σ ρ:Type}[Inhabited ρ](step:σ->Lp σ ρ)(ob:σ->Prop)(s:σ)(r:ρ):Prop where
 t:LpT step ob s
 v:lpV step s=r
abbrev Ea{R A X Y Z:Type}[Inhabited R](T:A->Tr R A X Y Z)(s:A)(r:Oc Empty R X Y Z):Prop:=la (λs=>ka (T s).val) (λs=>(T s).ob) s r
theorem la.out{σ ρ:Type}[Inhabited ρ]{step:σ->Lp σ ρ}{ob:σ->Prop}{s:σ}{r:ρ}(ho:ob s)(h:step s=.out r):la step ob s r:=⟨.mk s ho (λs' hs=>by rw[h]at hs;cases hs),aK h⟩
theorem la.go{σ ρ:Type}[Inhabited ρ]{step:σ->Lp σ ρ}{ob:σ->Prop}{s s':σ}{r:ρ}(ho:ob s)(h:step s=.go s')(hr:la step ob s' r):la step ob s r:=⟨.mk s ho (λs2 hs=>by rw[h]at hs;cases hs;exact hr.t),(bK h).trans hr.v⟩
theorem la.list{σ ρ α β:Type}[Inhabited ρ]{step:σ->Lp σ ρ}{ob:σ->Prop}(xs:List α)(st:Nat->β->σ)(I:List α->β->Prop){Q:ρ->Prop}{s0:σ}{b0:β}(hs:st 0 b0=s0)(h0:I [] b0)
  (hgo:∀l x r b,xs=l++x::r->I l b->ob (st l.length b)/\((∃b',step (st l.length b)=.go (st (l.length+1) b')/\I (l++[x]) b')\/∃q,step (st l.length b)=.out q/\Q q))
  (hout:∀b,I xs b->ob (st xs.length b)/\∃q,step (st xs.length b)=.out q/\Q q):∃q,la step ob s0 q/\Q q:=by
 subst hs
 suffices ∀(r l:List α) (b:β),xs=l++r->I l b->∃q,la step ob (st l.length b) q/\Q q from this xs [] b0 rfl h0
 intro r
 induction r with
 |nil=>
  intro l b hx hI;rw[List.append_nil]at hx;subst hx;obtain⟨ho,q,h1,h2⟩:=hout b hI;exact⟨q,.out ho h1,h2⟩
 |cons x r ih=>
  intro l b hx hI;obtain⟨ho,⟨b',h1,h2⟩|⟨q,h1,h2⟩⟩:=hgo l x r b hx hI
  .obtain⟨q,hq,hQ⟩:=ih (l++[x]) b' (by rw[hx,List.append_assoc];rfl) h2;rw[List.length_append,List.length_singleton]at hq;exact⟨q,.go ho h1 hq,hQ⟩
  .exact⟨q,.out ho h1,h2⟩
theorem la.fold{σ ρ α β:Type}[Inhabited ρ]{step:σ->Lp σ ρ}{ob:σ->Prop}(xs:List α)(st:Nat->β->σ)(f:List α->β){fin:ρ}{s0:σ}(hs:st 0 (f [])=s0)
  (hgo:∀l x r,xs=l++x::r->ob (st l.length (f l))/\step (st l.length (f l))=.go (st (l.length+1) (f (l++[x]))))
  (hout:ob (st xs.length (f xs))/\step (st xs.length (f xs))=.out fin):la step ob s0 fin:=by
 subst hs
 obtain⟨q,h1,h2⟩:=la.list (step:=step) (ob:=ob) (Q:=λq=>q=fin) xs st (λl b=>b=f l) (b0:=f []) rfl rfl
  (λl x r b hx hb=>by subst hb;exact⟨(hgo l x r hx).1,.inl ⟨_,(hgo l x r hx).2,rfl⟩⟩)
  (λb hb=>by subst hb;exact⟨hout.1,_,hout.2,rfl⟩)
 rw[h2]at h1;exact h1
theorem mF{α:Type}{lt:α->α->Prop}(irr:∀a,¬ lt a a)(tr:∀ {a b c},lt a b->lt b c->lt a c):∀ {a b:List α},a.Pairwise lt->b.Pairwise lt->(∀x,x∈a↔x∈b)->a=b
 |[],[],_,_,_=>rfl
 |[],y::b,_,_,h=>absurd ((h y).2 (by simp)) (by simp)
 |x::a,[],_,_,h=>absurd ((h x).1 (by simp)) (by simp)
 |x::a,y::b,ha,hb,h=>by
  have ha':=List.pairwise_cons.1 ha;have hh:=List.pairwise_cons.1 hb
  have hi:x=y:=by
   rcases List.mem_cons.1 ((h x).1 (by simp)) with e|e
   .exact e
   .rcases List.mem_cons.1 ((h y).2 (by simp)) with e2|e2
    .exact e2.symm
    .exact absurd (tr (hh.1 x e) (ha'.1 y e2)) (irr _)
  subst hi;refine congrArg (x::·) (mF irr tr ha'.2 hh.2 λz=>⟨λhz=>?_,λhz=>?_⟩)
  .rcases List.mem_cons.1 ((h z).1 (by simp[hz])) with e|e
   .subst e;exact absurd (ha'.1 z hz) (irr _)
   .exact e
  .rcases List.mem_cons.1 ((h z).2 (by simp[hz])) with e|e
   .subst e;exact absurd (hh.1 z hz) (irr _)
   .exact e
theorem xt{a b:MP}(ha:Asc a)(hb:Asc b)(h:∀p,p∈a↔p∈b):a=b:=mF (lt:=λp q:List Int×Int=>ltK p.1 q.1=true) (λp hp=>by rw[Ef]at hp;cases hp) (λh1 h2=>Fg h1 h2) ha hb h
def lc(q:List Int×Int):MP->MP
 |[]=>[q]
 |p::m=>if ltK q.1 p.1=true then q::p::m else if p.1=q.1 then(q.1,ar .add .i64 q.2 p.2)::m else p::lc q m
def If(l:List (List Int×Int)):MP:=l.foldl (λm q=>lc q m) []
theorem nF(q:List Int×Int):∀(m:MP) (k:List Int),k∈na (lc q m)↔k=q.1\/k∈na m
 |[],k=>by simp[lc,na]
 |p::m,k=>by
  simp only[lc];split
  .simp[na]
  .split
   .rename_i h;simp[na,h]
   .have:=nF q m k;simp only[na,List.map_cons,List.mem_cons]at this⊢;rw[this];constructor
    .rintro (h|h|h)
     .exact .inr (.inl h)
     .exact .inl h
     .exact .inr (.inr h)
    .rintro (h|h|h)
     .exact .inr (.inl h)
     .exact .inl h
     .exact .inr (.inr h)
theorem TV{n:Nat}{q:List Int×Int}{m:MP}(hm:Db n m)(hq:q.1.length=n):Db n (lc q m):=by
 intro p hp;have:p.1∈na (lc q m):=List.mem_map.2 ⟨p,hp,rfl⟩;rcases (nF q m p.1).1 this with h|h
 .rw[h];exact hq
 .obtain⟨p',h1,h2⟩:=List.mem_map.1 h;rw[<-h2];exact hm p' h1
theorem XL{n:Nat}{q:List Int×Int}(hq:q.1.length=n):∀ {m:MP},Asc m->Db n m->Asc (lc q m)
 |[],_,_=>by simp[lc,Asc]
 |p::m,ha,hk=>by
  have ha':=List.pairwise_cons.1 ha;simp only[lc];split
  .rename_i h;refine List.pairwise_cons.2 ⟨λs hs=>?_,ha⟩;rcases List.mem_cons.1 hs with rfl|hs
   .exact h
   .exact Fg h (ha'.1 s hs)
  .split
   .rename_i h1 h2;exact List.pairwise_cons.2 ⟨λs hs=>by show ltK q.1 s.1=true;rw[<-h2];exact ha'.1 s hs,ha'.2⟩
   .rename_i h1 h2
    have hh:ltK p.1 q.1=true:=by
     rcases Ss ((hk p (by simp)).trans hq.symm) h2 with h|h
     .exact h
     .exact absurd h h1
    refine List.pairwise_cons.2 ⟨λs hs=>?_,XL hq ha'.2 λs hs=>hk s (by simp[hs])⟩;rcases (nF q m s.1).1 (List.mem_map.2 ⟨s,hs,rfl⟩) with h|h
    .rw[h];exact hh
    .obtain⟨s',h1,h2⟩:=List.mem_map.1 h;rw[<-h2];exact ha'.1 s' h1
theorem YL{n:Nat}{q:List Int×Int}(hq:q.1.length=n):∀ {m:MP},Asc m->Db n m->∀k,Xa (lc q m) k=if k=q.1 then(if q.1∈na m then ar .add .i64 q.2 (Xa m k) else q.2) else Xa m k
 |[],_,_,k=>by
  simp only[lc,Cf,na,List.map_nil,List.not_mem_nil,if_false];by_cases h:q.1=k
  .simp[h]
  .simp[h,Ne.symm h]
 |p::m,ha,hk,k=>by
  have ha':=List.pairwise_cons.1 ha;simp only[lc];split
  .rename_i h
   have hi:q.1 ∉ na (p::m):=by
    intro hm;obtain⟨s,hs,e⟩:=List.mem_map.1 hm;rcases List.mem_cons.1 hs with rfl|hs
    .rw[e,Ef]at h;cases h
    .have:=Fg h (ha'.1 s hs);rw[e,Ef]at this;cases this
   rw[if_neg hi,Cf];by_cases h2:q.1=k
   .simp[h2]
   .simp[h2,Ne.symm h2]
  .split
   .rename_i h1 h2;have hm:q.1∈na (p::m):=by simp[na,h2]
    rw[if_pos hm,Cf,Cf];by_cases h3:q.1=k
    .simp[h3,h2.trans h3]
    .have h4:¬ p.1=k:=λe=>h3 (h2.symm.trans e);simp[h3,Ne.symm h3,h4]
   .rename_i h1 h2;rw[Cf,YL hq ha'.2 (λs hs=>hk s (by simp[hs])) k,Cf];have hh:q.1∈na (p::m)↔q.1∈na m:=by simp[na,Ne.symm h2]
    by_cases h3:p.1=k
    .have:¬ k=q.1:=λe=>h2 (h3.trans e);simp[h3,this]
    .simp only[h3,if_false,hh]
theorem UV{n:Nat}{l:List (List Int×Int)}(hk:Db n l)(hr:∀q∈l,IntKind.i64.wrap q.2=q.2):Asc (If l)/\Db n (If l)/\∀k,Xa (If l) k=Df l k:=by
 suffices ∀(l:List (List Int×Int)) (m:MP),Db n l->(∀q∈l,IntKind.i64.wrap q.2=q.2)->Asc m->Db n m->Asc (l.foldl (λm q=>lc q m) m)/\Db n (l.foldl (λm q=>lc q m) m) /\
   ∀k,Xa (l.foldl (λm q=>lc q m) m) k=l.foldl (λs q=>if q.1=k then ar .add .i64 s q.2 else s) (Xa m k) by
  obtain⟨h1,h2,h3⟩:=this l [] hk hr (by simp[Asc]) (λp hp=>by simp at hp);refine⟨h1,h2,λk=>?_⟩;exact h3 k
 intro l
 induction l with
 |nil=>exact λm _ _ h1 h2=>⟨h1,h2,λ_=>rfl⟩
 |cons q r ih=>
  intro m hl hh ha hm;have hq:=hl q (by simp);obtain⟨h1,h2,h3⟩:=ih (lc q m) (λp hp=>hl p (by simp[hp])) (λp hp=>hh p (by simp[hp])) (XL hq ha hm) (TV hm hq);refine⟨h1,h2,λk=>?_⟩;rw[List.foldl_cons,List.foldl_cons,h3 k,YL hq ha hm]
  congr 1
  by_cases h:k=q.1
  .subst h;simp only[if_true];by_cases hmem:q.1∈na m
   .simp only[hmem,if_true];exact SV _ _
   .simp only[hmem,if_false];rw[qE hmem];show q.2=IntKind.i64.wrap (0+q.2);rw[Int.zero_add,hh q (by simp)]
  .simp[h,Ne.symm h]
theorem ZL{f:List Int->List Int}(hf:∀a b,f a=f b->a=b)(l:List (List Int×Int))(k:List Int):Df (l.map λq=>(f q.1,q.2)) (f k)=Df l k:=by
 unfold Df;rw[List.foldl_map]
 congr 1
 funext s q
 by_cases h:q.1=k
 .simp[h]
 .have h2:¬ f q.1=f k:=λe=>h (hf _ _ e);simp[h,h2]
theorem VV{l:List (List Int×Int)}{k:List Int}(h:∀q∈l,q.1≠k):Df l k=0:=by
 suffices ∀(l:List (List Int×Int)) (s:Int),(∀q∈l,q.1≠k)->l.foldl (λs q=>if q.1=k then ar .add .i64 s q.2 else s) s=s from this l 0 h
 intro l
 induction l with
 |nil=>exact λ_ _=>rfl
 |cons q r ih=>
  intro s h;rw[List.foldl_cons,if_neg (h q (by simp))];exact ih s λp hp=>h p (by simp[hp])
theorem Bm{l:List (List Int×Int)}{k:List Int}(h:Df l k≠0):∃q∈l,q.1=k:=by
 by_cases he:∃q∈l,q.1=k
 .exact he
 .exact absurd (VV λq hq e=>he ⟨q,hq,e⟩) h
theorem aM{n:Nat}{l:List (List Int×Int)}(hk:Db n l)(hr:∀q∈l,IntKind.i64.wrap q.2=q.2):(If l).filter (λp=>p.2 != 0)=qc l:=by
 obtain⟨h1,h2,h3⟩:=UV hk hr
 have hh:(na (If l)).Nodup:=by
  refine List.Pairwise.map _ (λp q h e=>?_) h1;rw[e,Ef]at h;cases h
 refine xt (h1.sublist List.filter_sublist) (Ni hk) λp=>?_;rw[Ye,List.mem_filter];constructor
 .rintro⟨a,b⟩;exact⟨by rw[<-h3,Rs hh a],by simpa using b⟩
 .rintro⟨a,b⟩;refine⟨?_,by simpa using b⟩;by_cases hm:p.1∈na (If l)
  .obtain⟨q,hq,e⟩:=List.mem_map.1 hm;have:=Rs hh hq;rw[h3,e,<-a]at this;have:q=p:=Prod.ext e this.symm;rwa [this]at hq
  .exact absurd (by rw[a,<-h3,qE hm]) b
theorem bM{n m:Nat}{f:List Int->List Int}(hf:∀a b,f a=f b->a=b)(hn:∀k:List Int,k.length=n->(f k).length=m)
  (hlt:∀a b,a.length=n->b.length=n->ltK (f a) (f b)=ltK a b) {l:List (List Int×Int)} (hk:Db n l) :
  qc (l.map λq=>(f q.1,q.2))=(qc l).map λq=>(f q.1,q.2):=by
 have hi:Db m (l.map λq=>(f q.1,q.2)):=by
  intro p hp;obtain⟨q,hq,rfl⟩:=List.mem_map.1 hp;exact hn _ (hk q hq)
 have hh:∀p∈qc l,p.1.length=n:=by
  intro p hp;obtain⟨h1,h2⟩:=Ye.1 hp;obtain⟨q,hq,e⟩:=Bm (h1▸h2);rw[<-e];exact hk q hq
 refine xt (Ni hi) ?_ λp=>?_
 .refine List.pairwise_map.2 ((Ni hk).imp_of_mem λ{a b} ha hb h=>?_);show ltK (f a.1) (f b.1)=true;rw[hlt _ _ (hh a ha) (hh b hb)];exact h
 .rw[Ye,List.mem_map];constructor
  .rintro⟨h1,h2⟩;obtain⟨q,hq,e⟩:=Bm (h1▸h2);obtain⟨q',hj,rfl⟩:=List.mem_map.1 hq;have e:f q'.1=p.1:=e;refine⟨(q'.1,p.2),Ye.2 ⟨?_,h2⟩,Prod.ext e rfl⟩;rw[h1,<-e,ZL hf]
  .rintro⟨q,hq,rfl⟩;obtain⟨h1,h2⟩:=Ye.1 hq;exact⟨by rw[ZL hf];exact h1,h2⟩
structure Sc(b:List Int):Prop where
 byte:∀x∈b,0<=x/\x<=255
 len:b.length<=2000
def fk(b:List Int)(i:Int):Int:=b.getD i.toNat 0
theorem iW(b:List Int)(i:Int):rd .byte b i=fk b i:=rfl
theorem tF{b:List Int}(h:Sc b)(i:Int):0<=fk b i/\fk b i<=255:=by
 unfold fk;rw[List.getD_eq_getElem?_getD];cases hg:b[i.toNat]? with
 |none=>simp
 |some x=>exact h.byte x (List.mem_of_getElem? hg)
theorem jW{a b:Int}(ha:0<=a/\a<4611686018427387904)(hb:0<=b/\b<4611686018427387904):0<=xr .i64 a b/\xr .i64 a b<4611686018427387904:=by
 unfold xr;have h1:(BitVec.ofInt 64 a).toNat<2 ^ 62:=by rw[BitVec.toNat_ofInt];omega
 have h2:(BitVec.ofInt 64 b).toNat<2 ^ 62:=by rw[BitVec.toNat_ofInt];omega
 have h3:=Nat.xor_lt_two_pow h1 h2;show 0<=IntKind.i64.wrap ((BitVec.ofInt 64 a ^^^ BitVec.ofInt 64 b).toNat:Int)/\IntKind.i64.wrap ((BitVec.ofInt 64 a ^^^ BitVec.ofInt 64 b).toNat:Int)<4611686018427387904;rw[BitVec.toNat_xor];generalize (BitVec.ofInt 64 a).toNat ^^^ (BitVec.ofInt 64 b).toNat=m at h3;rw[IntWalk.i64_in _ (by omega)];omega
theorem Eb{b:List Int}(hb:Sc b){p n:Int}(hp:0<=p/\p<=1000000)(hn:1<=n/\n<=1000000) :
  Lb (b,p) n/\(ia (b,p) n).2=p+1/\0<=(ia (b,p) n).1/\(ia (b,p) n).1<n:=by
 have h1:ar .add .i64 p 1=p+1:=Zb (by omega);have h2:ar .sub .i64 (p+1) 1=p:=by rw[bf (by omega)];omega
 have hj:cmp .lss n 1=false:=by rw[Yb];simp;omega
 have hl:n≠0:=by omega
 have hlen:=hb.len;have hi:ba .byte b=(b.length:Int):=rfl;simp only[Lb,ia,Nt,Tr.val,Tr.ob,da];simp only[h1,h2,hj,cond_false,xb,hi,iW];by_cases h0:(b.length:Int)=0
 .simp only[h0,decide_true,ocR];refine⟨by simp,trivial,Int.le_refl _,by omega⟩
 .have hL:1<=(b.length:Int):=by omega
  have hh:b≠[]:=by rintro rfl;exact h0 rfl
  by_cases h3:p<(b.length:Int)
  .have hc:cmp .lss p (b.length:Int)=true:=by rw[Yb];simpa using h3
   simp only[h0,decide_false,hc,ocR];have hx:=tF hb p;rw[IntWalk.i64_in _ (by omega)];exact⟨by simp[inb,hp.1,h3,hl],trivial,Int.tmod_nonneg _ hx.1,Int.tmod_lt_of_pos _ (by omega)⟩
  .have hc:cmp .lss p (b.length:Int)=false:=by rw[Yb];simpa using h3
   have hm:ar .mul .i64 p 7=p*7:=Lg (by omega);have hk:ar .add .i64 (p*7) 3=p*7+3:=Zb (by omega);simp only[h0,decide_false,hc,ocR,hm,hk,wt];have i1:inb (p.tmod b.length) b.length:=⟨Int.tmod_nonneg _ hp.1,Int.tmod_lt_of_pos _ (by omega)⟩;have i2:inb ((p*7+3).tmod b.length) b.length:=⟨Int.tmod_nonneg _ (by omega),Int.tmod_lt_of_pos _ (by omega)⟩;refine⟨by simp[hh,i1,i2,hl],trivial,?_⟩;have x1:=tF hb (p.tmod b.length);have x2:=tF hb ((p*7+3).tmod b.length);generalize fk b (p.tmod b.length)=y1 at x1⊢;generalize fk b ((p*7+3).tmod b.length)=y2 at x2⊢;rw[IntWalk.i64_in y1 (by omega),IntWalk.i64_in y2 (by omega)];have m1:ar .mul .i64 y1 131=y1*131:=Lg (by omega);have m2:ar .mul .i64 y2 1117=y2*1117:=Lg (by omega);have m3:ar .mul .i64 p 29=p*29:=Lg (by omega);have m4:ar .quo .i64 p b.length=p / b.length:=jF (by omega);have q0:0<=p / (b.length:Int):=Int.ediv_nonneg hp.1 (by omega);have q1:p / (b.length:Int)<=p:=Int.ediv_le_self _ hp.1;rw[m4];generalize p / (b.length:Int)=pl at q0 q1⊢;have m5:ar .mul .i64 pl 53=pl*53:=Lg (by omega);simp only[m1,m2,m3,m5];rw[Zb (a:=y1*131) (b:=y2*1117) (by omega),Zb (a:=y1*131+y2*1117) (b:=p*29) (by omega),Zb (a:=y1*131+y2*1117+p*29) (b:=pl*53) (by omega)];have hX:0<=y1*131+y2*1117+p*29+pl*53/\y1*131+y2*1117+p*29+pl*53<=1000000000000:=by omega
   generalize y1*131+y2*1117+p*29+pl*53=X at hX⊢;rw[jF (by omega)];have ho:=jW (a:=X) (b:=X / 64) (by omega) (by omega);exact⟨Int.tmod_nonneg _ ho.1,Int.tmod_lt_of_pos _ (by omega)⟩
theorem xah{c:List Int}(hc:∀x∈c,0<=x/\x<=255):cG c/\∃b,bG c=(b,0)/\Sc b:=by
 have hl:ba .byte c=(c.length:Int):=rfl;simp only[cG,bG,Mt,rN,Lt,pcT,Tr.val,Tr.ob,da];by_cases h:2000<(c.length:Int)
 .have hg:cmp .gtr (ba .byte c) 2000=true:=by rw[tc,hl];simpa using h
  have h3:le3 0 2000 (ba .byte c):=⟨by omega,by omega,by rw[hl];omega⟩;simp only[hg,ocR];exact⟨by simp[h3],_,rfl,λx hx=>hc x (List.mem_of_mem_take (List.mem_of_mem_drop hx)),by simp;omega⟩
 .have hg:cmp .gtr (ba .byte c) 2000=false:=by rw[tc,hl];simpa using h
  simp only[hg,ocR];exact⟨by simp,_,rfl,hc,by omega⟩
theorem zt{b:List Int}(hb:Sc b){p:Int}(hp:0<=p/\p<=900000) :
  yk (b,p)/\(Jh (b,p)).2=p+3:=by
 obtain⟨a1,a2,a3,a4⟩:=Eb hb (p:=p) (n:=10) (by omega) (by omega);obtain⟨b1,b2,b3,b4⟩:=Eb hb (p:=p+1) (n:=8) (by omega) (by omega);obtain⟨c1,c2,c3,c4⟩:=Eb hb (p:=p+1+1) (n:=8) (by omega) (by omega);obtain⟨d1,d2,d3,d4⟩:=Eb hb (p:=p+1) (n:=4) (by omega) (by omega);obtain⟨e1,e2,e3,e4⟩:=Eb hb (p:=p+1+1) (n:=4) (by omega) (by omega);simp only[yk,Jh,pu,Tr.val,Tr.ob,da];simp only[a2,b2,d2];cases h:cmp .eql (ia (b,p) 10).1 0 with
 |true=>simp only[ocR,c2];exact⟨⟨⟨a1,trivial⟩,(λ_=>⟨⟨b1,c1,trivial⟩,trivial⟩),λh=>by cases h⟩,by omega⟩
 |false=>simp only[ocR,e2];exact⟨⟨⟨a1,trivial⟩,(λh=>by cases h),λ_=>⟨⟨d1,e1,trivial⟩,trivial⟩⟩,by omega⟩
theorem gM{b:List Int}(hb:Sc b){p:Int}(hp:0<=p/\p<=800000) :
  Ep (b,p)/\(ug (b,p)).2=p+6/\-3<=(ug (b,p)).1.Diff/\(ug (b,p)).1.Diff<=3:=by
 obtain⟨a1,a2,a3,a4⟩:=Eb hb (p:=p) (n:=4) (by omega) (by omega);obtain⟨b1,b2,b3,b4⟩:=Eb hb (p:=p+1) (n:=9) (by omega) (by omega);obtain⟨c1,c2⟩:=zt hb (p:=p+1+1) (by omega);obtain⟨d1,d2,d3,d4⟩:=Eb hb (p:=p+1+1+3) (n:=8) (by omega) (by omega);simp only[Ep,ug,Ay,Tr.val,Tr.ob,da];simp only[a2,b2,c2,ocR,d2];refine⟨⟨⟨a1,b1,⟨b3,by show _<(9:Int);exact b4⟩,c1,d1,⟨d3,by show _<(8:Int);exact d4⟩,trivial⟩,trivial⟩,by omega,?_⟩;generalize (ia (b,p+1+1+3) 8).1=i at d3 d4;have hi:i=0\/i=1\/i=2\/i=3\/i=4\/i=5\/i=6\/i=7:=by omega
 rcases hi with rfl|rfl|rfl|rfl|rfl|rfl|rfl|rfl<;>exact⟨by decide,by decide⟩
def rK(r:Row):List Int:=[r.Key,r.Val,r.At.A,r.At.B]
def chR(xs:List Row):List (List Int×Int):=xs.map λr=>(rK r,r.Diff)
def mkR(p:List Int×Int):Row:=match p.1 with
 |[k,v,a,b]=>⟨k,v,⟨a,b⟩,p.2⟩
 |_=>⟨0,0,⟨0,0⟩,0⟩
def Ka(xs:List Row):List Row:=(qc (chR xs)).map mkR
theorem kW(xs:List Row):(chR xs).map mkR=xs:=by
 unfold chR;rw[List.map_map];exact(List.map_congr_left λx _=>rfl).trans (List.map_id xs)
theorem Gm(xs:List Row):Db 4 (chR xs):=by
 intro p hp;obtain⟨r,_,rfl⟩:=List.mem_map.1 hp;rfl
theorem lW(x y:List Int)(h:x.length=y.length)(hl:x.length<1099511627776) :
  (Wn x y).ob/\(Wn x y).o=if ltK x y=true then .r (-1) else if ltK y x=true then .r 1 else .x ():=by
 have hz:(x.zip y).length=x.length:=by rw[List.length_zip];omega
 suffices key:∃q,Ea (λs:Int=>Vg x y s) 0 q/\q=if ltK x y=true then .r (-1) else if ltK y x=true then .r 1 else .x () by
  obtain⟨q,h1,h2⟩:=key;exact⟨h1.t,h1.v.trans h2⟩
 refine la.list (x.zip y) (λi (_:Unit)=>(i:Int))
  (λl _=>ltK x y=ltK (x.drop l.length) (y.drop l.length)/\ltK y x=ltK (y.drop l.length) (x.drop l.length))
  (b0:=()) rfl ⟨rfl,rfl⟩ ?_ ?_
 .rintro l ⟨u,v⟩ r ⟨⟩ hx ⟨i1,i2⟩;have hlen:l.length<x.length:=by rw[<-hz,hx];simp
  have hg:(x.zip y)[l.length]? = some (u,v):=by rw[hx];simp
  rw[List.getElem?_zip_eq_some]at hg
  have hu:rd .int x (l.length:Int)=u:=by
   show x.getD (Int.toNat l.length) 0=u;rw[Int.toNat_natCast,List.getD_eq_getElem?_getD,hg.1];rfl
  have hv:rd .int y (l.length:Int)=v:=by
   show y.getD (Int.toNat l.length) 0=v;rw[Int.toNat_natCast,List.getD_eq_getElem?_getD,hg.2];rfl
  have hh:x.drop l.length=u::x.drop (l.length+1):=by
   rw[List.drop_eq_getElem_cons hlen]
   congr 1
   have:=hg.1;rw[List.getElem?_eq_getElem hlen]at this;exact Option.some.inj this
  have hi:y.drop l.length=v::y.drop (l.length+1):=by
   rw[List.drop_eq_getElem_cons (by omega)]
   congr 1
   have:=hg.2;rw[List.getElem?_eq_getElem (by omega)]at this;exact Option.some.inj this
  rw[hh,hi]at i1 i2;have hm:cmp .lss (l.length:Int) (ba .int x)=true:=by rw[Yb];simp[ba];omega
  have hj:inb (l.length:Int) (ba .int x):=⟨by omega,by simp[ba];omega⟩;have hk:inb (l.length:Int) (ba .int y):=⟨by omega,by simp[ba];omega⟩;refine⟨by simp[Vg,hm,hj,hk,Tr.ob,da],?_⟩;show((∃b',ka (Vg x y (l.length:Int)).val=_/\_)\/∃q,ka (Vg x y (l.length:Int)).val=_/\_);simp only[Vg,Tr.val];rw[hm,hu,hv,Ia (l:=l) (by omega)];rcases Int.lt_trichotomy u v with c|c|c
  .right;refine⟨.r (-1),by rw[show cmp .lss u v=true by rw[Yb];simpa using c];rfl,?_⟩;rw[if_pos (by rw[i1];simp[ltK,c])]
  .left;subst c;refine⟨(),by rw[show cmp .lss u u=false by rw[Yb];simp,show cmp .gtr u u=false by rw[tc];simp];rfl,?_⟩;rw[List.length_append,List.length_singleton,i1,i2];simp[ltK]
  .right;refine⟨.r 1,by rw[show cmp .lss u v=false by rw[Yb];simp;omega,show cmp .gtr u v=true by rw[tc];simpa using c];rfl,?_⟩;rw[if_neg (by rw[i1];simp[ltK];omega),if_pos (by rw[i2];simp[ltK,c])]
 .rintro⟨⟩ ⟨i1,i2⟩;have hm:cmp .lss ((x.zip y).length:Int) (ba .int x)=false:=by rw[Yb,hz];simp[ba]
  refine⟨by simp only[Vg,hm,Tr.ob,da];simp,.x (),?_,?_⟩
  .show ka (Vg x y ((x.zip y).length:Int)).val=_;simp only[Vg,Tr.val];rw[hm];rfl
  .rw[hz,List.drop_length,show x.length=y.length from h,List.drop_length]at i1 i2;rw[i1,i2];rfl
theorem iM(a b:Row):Xn a b/\nj a b=if ltK (rK a) (rK b)=true then -1 else if ltK (rK b) (rK a)=true then 1 else 0:=by
 obtain⟨h1,h2⟩:=lW (rK a) (rK b) rfl (by simp[rK]);unfold rK at h1 h2⊢;simp only[Xn,nj,qv,mO,ov,pcT,Tr.val,Tr.ob];rw[h2];refine⟨by simp[h1],?_⟩;by_cases c1:ltK [a.Key,a.Val,a.At.A,a.At.B] [b.Key,b.Val,b.At.A,b.At.B]=true
 .rw[if_pos c1,if_pos c1];rfl
 .rw[if_neg c1,if_neg c1];by_cases c2:ltK [b.Key,b.Val,b.At.A,b.At.B] [a.Key,a.Val,a.At.A,a.At.B]=true
  .rw[if_pos c2,if_pos c2];rfl
  .rw[if_neg c2,if_neg c2];rfl
def Qb(r:Row):List Row->List Row
 |[]=>[r]
 |y::ys=>if ltK (rK r) (rK y)=true then r::y::ys else if rK y=rK r then⟨r.Key,r.Val,⟨r.At.A,r.At.B⟩,ar .add .i64 r.Diff y.Diff⟩::ys else y::Qb r ys
theorem jM(r:Row):∀ys:List Row,chR (Qb r ys)=lc (rK r,r.Diff) (chR ys)
 |[]=>rfl
 |y::ys=>by
  simp only[Qb,chR,List.map_cons,lc];split
  .rfl
  .split
   .rfl
   .have:=jM r ys;unfold chR at this;rw[List.map_cons,this]
theorem kM(r:Row):∀ys:List Row,(Qb r ys).length<=ys.length+1
 |[]=>Nat.le_refl _
 |y::ys=>by
  have:=kM r ys;simp only[Qb];split
  .simp
  .split<;>simp<;>omega
theorem mW(xs:List Row)(r:Row)(hl:xs.length<1000000000000):Jv xs r/\Iv xs r=Qb r xs:=by
 suffices key:∃q,Ea (λs:Int×(List Row)×Bool×Int=>Qh xs r s.1 s.2.1 s.2.2.1 s.2.2.2) (r.Diff,[],false,0) q /\
   ∃d out done,q=.x (d,out,done)/\out.length<=xs.length+1/\((done=false/\out++[⟨r.Key,r.Val,⟨r.At.A,r.At.B⟩,d⟩]=Qb r xs)\/(done=true/\out=Qb r xs)) by
  obtain⟨q,h1,h2⟩:=key;obtain⟨d,out,done,rfl,hp,hd⟩:=h2;have hh:(fo xs r).o=.x (d,out,done):=h1.v;have hr:(fo xs r).ob:=h1.t;have hn:∀y:Row,lim (ba .row out) (ba .row [y]):=λy=>by simp[lim,ba];omega
  simp only[Jv,Iv,Hv,tO,Fv,Gv,pcT,Tr.val,Tr.ob];rw[hh];rcases hd with⟨rfl,hd⟩|⟨rfl,hd⟩
  .simp only[zG,Bool.not_false,ocR,Tr.val,Tr.ob,da];exact⟨by simp[hr,hn],hd⟩
  .simp only[zG,Bool.not_true,ocR,Tr.val,Tr.ob,da];exact⟨by simp[hr],hd⟩
 refine la.list
  xs (λi (b:Int×List Row×Bool)=>(b.1,b.2.1,b.2.2,(i:Int)))
  (λl b=>b.2.1.length<=l.length+1/\((b.2.2=false/\b.1=r.Diff/\b.2.1=l/\∀rest,Qb r (l++rest)=l++Qb r rest)\/(b.2.2=true/\∀rest,Qb r (l++rest)=b.2.1++rest)))
  (b0:=(r.Diff,[],false)) rfl ⟨by simp,.inl ⟨rfl,rfl,rfl,λ_=>rfl⟩⟩ ?_ ?_
 .rintro l x rest ⟨d,out,done⟩ hx ⟨hp,hI⟩;obtain⟨hlen,hs,hm,hq⟩:=Qa (t:=.row) hx;have hn:∀(o:List Row) (y:Row),o.length<=out.length+1->lim (ba .row o) (ba .row [y]):=λo y ho=>by simp only[lim,ba,List.length_singleton] at *;omega
  have ht:∀d,rK (Row.mk r.Key r.Val (Time.mk r.At.A r.At.B) d)=rK r:=λ_=>rfl;obtain⟨pc,vc⟩:=iM x (Row.mk r.Key r.Val (Time.mk r.At.A r.At.B) d);rw[ht]at vc;have hp:out.length<=l.length+1:=hp;show(Qh xs r d out done (l.length:Int)).ob/\((∃b',ka (Qh xs r d out done (l.length:Int)).val=_/\_)\/_);simp only[Qh,rO,qO,eo,Ev,pcT,Tr.val,Tr.ob,da];rw[hq,hs,Ia (l:=l) (by omega)];generalize hc:nj x (Row.mk r.Key r.Val (Time.mk r.At.A r.At.B) d)=c at vc;have hi:=hn out x (by omega);have hj:=λy=>hn out y (by omega);have hk:=λy z=>hn (out++[y]) z (by simp);rcases hI with⟨rfl,h2,h3,h4⟩|⟨rfl,h4⟩
  .have h2:d=r.Diff:=h2;have h3:out=l:=h3;subst h2 h3;by_cases k1:ltK (rK x) (rK r)=true
   .rw[if_pos k1]at vc;subst vc;refine⟨by simp[tc,xb,hm,pc,hj],.inl ⟨(r.Diff,out++[x],false),by simp[tc,xb,ka],?_⟩⟩;refine⟨by simp,.inl ⟨rfl,rfl,rfl,λrest=>?_⟩⟩;rw[List.append_assoc,h4];have n1:¬ ltK (rK r) (rK x)=true:=λh=>by have:=Fg k1 h;rw[Ef]at this;cases this
    have n2:¬ rK x=rK r:=λh=>by rw[h,Ef]at k1;cases k1
    show out++Qb r (x::rest)=_;simp[Qb,n1,n2]
   .rw[if_neg k1]at vc;by_cases k2:ltK (rK r) (rK x)=true
    .rw[if_pos k2]at vc;subst vc;refine⟨by simp[tc,xb,hm,pc,hj,hk],.inl ⟨(r.Diff,out++[r]++[x],true),by simp[tc,xb,ka],?_⟩⟩;refine⟨by simp,.inr ⟨rfl,λrest=>?_⟩⟩;rw[List.append_assoc,h4];show out++Qb r (x::rest)=_;simp[Qb,k2]
    .rw[if_neg k2]at vc;subst vc
     have he:rK x=rK r:=by
      by_cases e:rK x=rK r
      .exact e
      .rcases Ss (a:=rK x) (b:=rK r) rfl e with h|h
       .exact absurd h k1
       .exact absurd h k2
     refine⟨by simp[tc,xb,hm,pc,hj],.inl ⟨(ar .add .i64 r.Diff x.Diff,out++[⟨r.Key,r.Val,⟨r.At.A,r.At.B⟩,ar .add .i64 r.Diff x.Diff⟩],true),by simp[tc,xb,ka],?_⟩⟩;refine⟨by simp,.inr ⟨rfl,λrest=>?_⟩⟩;rw[List.append_assoc,h4];show out++Qb r (x::rest)=_;simp[Qb,he,Ef]
  .refine⟨by simp[hm,pc,hj],.inl ⟨(d,out++[x],true),by simp[ka],?_⟩⟩;refine⟨by simp;omega,.inr ⟨rfl,λrest=>?_⟩⟩;rw[List.append_assoc,h4];simp
 .rintro⟨d,out,done⟩ ⟨hp,hI⟩;have hq:cmp .lss (xs.length:Int) (ba .row xs)=false:=Na;show(Qh xs r d out done (xs.length:Int)).ob/\∃q,ka (Qh xs r d out done (xs.length:Int)).val=_/\_;simp only[Qh,eo,pcT,Tr.val,Tr.ob];rw[hq];refine⟨by simp,_,rfl,d,out,done,rfl,hp,?_⟩;rcases hI with⟨h1,h2,h3,h4⟩|⟨h1,h4⟩
  .have h2:d=r.Diff:=h2;have h3:out=xs:=h3;have:=h4 [];rw[List.append_nil]at this;exact .inl ⟨h1,by rw[h2,h3,this];rfl⟩
  .have:=h4 [];rw[List.append_nil,List.append_nil]at this;exact .inr ⟨h1,this.symm⟩
theorem nW(xs:List Row):∀s:List Row,chR (xs.foldl (λs x=>Qb x s) s)=(chR xs).foldl (λm q=>lc q m) (chR s):=by
 induction xs with
 |nil=>exact λ_=>rfl
 |cons x r ih=>
  intro s;rw[List.foldl_cons,ih,jM];rfl
theorem uF(xs:List Row):∀s:List Row,(xs.foldl (λs x=>Qb x s) s).length<=s.length+xs.length:=by
 induction xs with
 |nil=>exact λ_=>by simp
 |cons x r ih=>
  intro s;have h1:=ih (Qb x s);have h2:=kM x s;rw[List.foldl_cons,List.length_cons];omega
def InR(n:Int):Prop:=-9223372036854775808<=n/\n<=9223372036854775807
theorem lM{xs:List Row}(hr:∀x∈xs,InR x.Diff):(xs.foldl (λs x=>Qb x s) []).filter (λx=>x.Diff != 0)=Ka xs:=by
 have h1:chR (xs.foldl (λs x=>Qb x s) [])=If (chR xs):=nW xs []
 have h2:=aM (Gm xs) (λq hq=>by
  obtain⟨r,hh,rfl⟩:=List.mem_map.1 hq;exact IntWalk.i64_in _ (hr r hh))
 have h3:((chR (xs.foldl (λs x=>Qb x s) [])).filter (λp=>p.2 != 0)).map mkR=((If (chR xs)).filter (λp=>p.2 != 0)).map mkR:=by rw[h1]
 rw[h2]at h3;unfold Ka;rw[<-h3];unfold chR;rw[List.filter_map,List.map_map];exact((List.map_congr_left λx _=>rfl).trans (List.map_id _)).symm
theorem vF{xs:List Row}(hr:∀x∈xs,InR x.Diff):(Ka xs).length<=xs.length:=by
 rw[<-lM hr];have:=uF xs [];have h2:=List.length_filter_le (λx:Row=>x.Diff != 0) (xs.foldl (λs x=>Qb x s) []);simp at this;omega
theorem Mg(xs:List Row)(hl:xs.length<1000000000)(hr:∀x∈xs,InR x.Diff):nf xs/\He xs=Ka xs:=by
 have k2:Ea (λs:(List Row)×Int=>Kv xs s.1 s.2) ([],0) (.x (xs.foldl (λs x=>Qb x s) [])):=by
  refine la.fold xs (λi b=>(b,(i:Int))) (λl=>l.foldl (λs x=>Qb x s) []) rfl (λl x r hx=>?_) ?_
  .have hlen:xs.length=l.length+(r.length+1):=by rw[hx];simp
   have hi:=uF l [];simp at hi;obtain⟨p1,p2⟩:=mW (l.foldl (λs x=>Qb x s) []) x (by omega);obtain⟨_,hn,hj,hm⟩:=Qa (t:=.row) hx;simp only[Kv,hm,hn,Ia (l:=l) (by omega),p2,Tr.val,Tr.ob,da];exact⟨by simp[hj,p1],by simp[ka]⟩
  .have hh:cmp .lss (xs.length:Int) (ba .row xs)=false:=Na (t:=.row);simp only[Kv,hh,Tr.val,Tr.ob,da];exact⟨by simp,rfl⟩
 have hi:=uF xs [];simp at hi;generalize hys:xs.foldl (λs x=>Qb x s) []=ys at k2 hi
 have k4:Ea (λs:(List Row)×Int=>Mv ys s.1 s.2) ([],0) (.x (ys.filter (λx=>x.Diff != 0))):=by
  refine la.fold ys (λi b=>(b,(i:Int))) (λl=>l.filter (λx=>x.Diff != 0)) rfl (λl x r hx=>?_) ?_
  .have hlen:ys.length=l.length+(r.length+1):=by rw[hx];simp
   have hi:=List.length_filter_le (λx:Row=>x.Diff != 0) l;obtain⟨_,hn,hj,hm⟩:=Qa (t:=.row) hx;have hk:lim (ba .row (l.filter (λx=>x.Diff != 0))) (ba .row [x]):=yb (t:=.row) (show(l.filter (λx:Row=>x.Diff != 0)).length<1099511627776 by omega);simp only[Mv,wO,hm,hn,Ia (l:=l) (by omega),De,ko,pcT,Tr.val,Tr.ob,da];by_cases h0:x.Diff=0
   .simp only[h0,decide_true,Bool.not_true];exact⟨by simp[hj],by simp[ka,h0,List.filter_append]⟩
   .simp only[h0,decide_false,Bool.not_false];exact⟨by simp[hj,hk],by simp[ka,h0,List.filter_append]⟩
  .have hh:cmp .lss (ys.length:Int) (ba .row ys)=false:=Na (t:=.row);simp only[Mv,hh,ko,pcT,Tr.val,Tr.ob];exact⟨by simp,rfl⟩
 have a2:(jo xs).o=.x ys:=k2.v;have b2:(jo xs).ob:=k2.t;have a4:(mo ys).o=.x (ys.filter (λx=>x.Diff != 0)):=k4.v;have b4:(mo ys).ob:=k4.t;rw[<-lM hr,hys];simp only[nf,He,Ov,vO,yO,a2,a4,ocR,Lv,Nv,pcT,Tr.val,Tr.ob];exact⟨by simp[b2,b4],trivial⟩
def itR(x:Item):Row:=⟨x.Key,x.Val,⟨0,0⟩,x.Count⟩
def rIt(x:Row):Item:=⟨x.Key,x.Val,x.Diff⟩
theorem wF:∀(a b:List Int),a.length=b.length->ltK (a++[0]) (b++[0])=ltK a b
 |[],[],_=>by simp[ltK]
 |a::r,b::r',h=>by simp only[List.cons_append,ltK];rw[wF r r' (by simpa using h)]
 |[],_::_,h=>by simp at h
 |_::_,[],h=>by simp at h
theorem Hm(xs:List Item):Db 3 (chI xs):=by
 intro p hp;obtain⟨r,_,rfl⟩:=List.mem_map.1 hp;rfl
theorem xF{xs:List Item}{p:List Int×Int}(hp:p∈qc (chI xs)):∃x∈xs,p.1=kI x:=by
 obtain⟨h1,h2⟩:=Ye.1 hp;obtain⟨q,hq,e⟩:=Bm (h1▸h2);obtain⟨x,hx,rfl⟩:=List.mem_map.1 hq;exact⟨x,hx,e.symm⟩
theorem oW(xs:List Item):(Ka (xs.map itR)).map rIt=gathI xs:=by
 have h1:chR (xs.map itR)=(chI xs).map λq=>(q.1++[0],q.2):=by
  unfold chR chI;rw[List.map_map,List.map_map];rfl
 unfold Ka gathI;rw[h1,bM (n:=3) (m:=4) (f:=λk=>k++[0]) (λa b h=>List.append_cancel_right h) (λk h=>by simp[h]) (λa b ha hb=>wF a b (ha.trans hb.symm)) (Hm xs),List.map_map,List.map_map];refine List.map_congr_left λp hp=>?_;obtain⟨x,_,e⟩:=xF hp;show rIt (mkR (p.1++[0],p.2))=mkI p;obtain⟨k,d⟩:=p;have e:k=kI x:=e;subst e;rfl
theorem mM(xs:List Item)(hl:xs.length<100000000)(hr:∀x∈xs,InR x.Count):Oo xs/\Mo xs=gathI xs:=by
 have k2:Ea (λs:(List Row)×Int=>Hw xs s.1 s.2) ([],0) (.x (xs.map itR)):=by
  refine la.fold xs (λi b=>(b,(i:Int))) (λl=>l.map itR) rfl (λl x r hx=>?_) ?_
  .obtain⟨hlen,ho,hj,hm⟩:=Qa (t:=.item) hx;have hk:∀y,lim (ba .row (l.map itR)) (ba .row [y]):=λy=>by simp only[lim,ba,List.length_singleton,List.length_map];omega
   simp only[Hw,hm,ho,Ia (l:=l) (by omega),Tr.val,Tr.ob,da];exact⟨by simp[hj,hk],by simp[ka,itR]⟩
  .have hh:cmp .lss (xs.length:Int) (ba .item xs)=false:=Na (t:=.item);simp only[Hw,hh,Tr.val,Tr.ob,da];exact⟨by simp,rfl⟩
 have hn:∀y∈xs.map itR,InR y.Diff:=by
  intro y hy;obtain⟨x,hx,rfl⟩:=List.mem_map.1 hy;exact hr x hx
 obtain⟨p1,p2⟩:=Mg (xs.map itR) (by simp;omega) hn;have hi:=vF hn;rw[List.length_map]at hi;generalize hys:Ka (xs.map itR)=ys at p2 hi
 have k4:Ea (λs:(List Item)×Int=>Jw ys s.1 s.2) ([],0) (.x (ys.map rIt)):=by
  refine la.fold ys (λi b=>(b,(i:Int))) (λl=>l.map rIt) rfl (λl x r hx=>?_) ?_
  .obtain⟨hlen,ho,hj,hm⟩:=Qa (t:=.row) hx;have hk:∀y,lim (ba .item (l.map rIt)) (ba .item [y]):=λy=>by simp only[lim,ba,List.length_singleton,List.length_map];omega
   simp only[Jw,hm,ho,Ia (l:=l) (by omega),Tr.val,Tr.ob,da];exact⟨by simp[hj,hk],by simp[ka,rIt]⟩
  .have hh:cmp .lss (ys.length:Int) (ba .row ys)=false:=Na (t:=.row);simp only[Jw,hh,Tr.val,Tr.ob,da];exact⟨by simp,rfl⟩
 have a2:(Ko xs).o=.x (xs.map itR):=k2.v;have b2:(Ko xs).ob:=k2.t;have a4:(Lo ys).o=.x (ys.map rIt):=k4.v;have b4:(Lo ys).ob:=k4.t;rw[<-oW,hys];simp only[Oo,Mo,Lw,eP,gP,a2,p2,a4,ocR,Iw,Kw,pcT,Tr.val,Tr.ob,da];exact⟨by simp[b2,b4,p1,p2],trivial⟩
def sumT:List (List Int×Int)->List Int->Int
 |[],_=>0
 |q::r,k=>(if q.1=k then q.2 else 0)+sumT r k
def Im:List (List Int×Int)->Int
 |[]=>0
 |q::r=>(if 0<=q.2 then q.2 else -q.2)+Im r
def yF(c:Int)(xs:List Item):Prop:=∀x∈xs,-c<=x.Count/\x.Count<=c
theorem yF.mono{c d:Int}{xs:List Item}(h:yF c xs)(hc:c<=d):yF d xs:=λx hx=>by have:=h x hx;omega
theorem ik(a b c:Int):rg a b c:=trivial
theorem jk(a b c:Int):xd a b c=(decide (b<=a)&&decide (a<=c)):=by
 show cond (cmp .geq a b) (cmp .leq a c) false=_;rw[Kg,Ee];cases decide (b<=a)<;>rfl
theorem ng(t:Time):sg t:=⟨⟨ik _ _ _,λ_=>ik _ _ _,trivial⟩,trivial⟩
theorem nk(s t:Time):zk s t:=⟨⟨ng _,λ_=>ng _,trivial⟩,trivial⟩
theorem pW(r:Row):vG r:=⟨⟨ik _ _ _,λ_=>ik _ _ _,λ_=>ng _,λ_=>ik _ _ _,trivial⟩,trivial⟩
theorem qW{b:List Int}(hb:Sc b){p n:Int}(hp:0<=p/\p<=700000){out:List Row}(hl:out.length<=1000)(hd:∀x∈out,-3<=x.Diff/\x.Diff<=3){x:Row}(hx : -3<=x.Diff/\x.Diff<=3) :
  (Fp b p out n x).ob/\∃p' k v d,(Fp b p out n x).val=.n (p',k,v,d)/\p<=p'/\p'<=p+3/\-3<=d/\d<=3:=by
 have hL:ba .row out=(out.length:Int):=rfl;simp only[Fp,Tr.val,Tr.ob,da];simp only[hL,tc,xb];by_cases h0:0<(out.length:Int)
 .obtain⟨a1,a2,a3,a4⟩:=Eb hb (p:=p) (n:=3) (by omega) (by omega);obtain⟨b1,b2,b3,b4⟩:=Eb hb (p:=p+1) (n:=(out.length:Int)) (by omega) (by omega);obtain⟨c1,c2,c3,c4⟩:=Eb hb (p:=p+1+1) (n:=2) (by omega) (by omega);have hh:inb (ia (b,p+1) (out.length:Int)).1 (out.length:Int):=⟨b3,b4⟩
  have hy : -3<=(rd .row out (ia (b,p+1) (out.length:Int)).1).Diff/\(rd .row out (ia (b,p+1) (out.length:Int)).1).Diff<=3:=by
   have hi:(ia (b,p+1) (out.length:Int)).1.toNat<out.length:=by omega
   have he:rd .row out (ia (b,p+1) (out.length:Int)).1=out[(ia (b,p+1) (out.length:Int)).1.toNat]:=by
    show out.getD _ _=_;rw[List.getD_eq_getElem?_getD,List.getElem?_eq_getElem hi];rfl
   rw[he];exact hd _ (List.getElem_mem _)
  simp only[h0,decide_true,Bool.and_true,cond_true,a2,b2];by_cases e1:(ia (b,p) 3).1=0
  .simp only[e1,decide_true];by_cases e2:(ia (b,p+1+1) 2).1=0
   .simp only[e2,decide_true];refine⟨by simp[a1,b1,c1,hh],_,_,_,_,rfl,by omega,by omega,?_⟩;rw[IntWalk.i64_in _ (by omega)];omega
   .simp only[e2,decide_false];exact⟨by simp[a1,b1,c1,hh],_,_,_,_,rfl,by omega,by omega,hx⟩
  .simp only[e1,decide_false];exact⟨by simp[a1],_,_,_,_,rfl,by omega,by omega,hx⟩
 .simp only[h0,decide_false,Bool.false_and,cond_false];exact⟨by simp,_,_,_,_,rfl,by omega,by omega,hx⟩
theorem la.down{σ ρ β:Type}[Inhabited ρ]{step:σ->Lp σ ρ}{ob:σ->Prop}(st:Nat->β->σ)(I:Nat->β->Prop){Q:ρ->Prop}{n0:Nat}{b0:β}{s0:σ}(hs:st n0 b0=s0)(h0:I n0 b0)
  (hgo:∀n b,n+1<=n0->I (n+1) b->ob (st (n+1) b)/\∃b',step (st (n+1) b)=.go (st n b')/\I n b')
  (hout:∀b,I 0 b->ob (st 0 b)/\∃q,step (st 0 b)=.out q/\Q q):∃q,la step ob s0 q/\Q q:=by
 subst hs
 suffices ∀(n:Nat) (b:β),n<=n0->I n b->∃q,la step ob (st n b) q/\Q q from this n0 b0 (Nat.le_refl _) h0
 intro n
 induction n with
 |zero=>
  intro b _ hI;obtain⟨ho,q,h1,h2⟩:=hout b hI;exact⟨q,.out ho h1,h2⟩
 |succ n ih=>
  intro b hn hI;obtain⟨ho,b',h1,h2⟩:=hgo n b hn hI;obtain⟨q,hq,hQ⟩:=ih b' (by omega) h2;exact⟨q,.go ho h1 hq,hQ⟩
theorem rW{b:List Int}(hb:Sc b){p m:Int}(hp:0<=p/\p<=500000)(hm:0<=m/\m<=100) :
  Gy (b,p) m/\p<=(Zh (b,p) m).2/\(Zh (b,p) m).2<=p+1+9*m/\((Zh (b,p) m).1.length:Int)<=m/\∀x∈(Zh (b,p) m).1,-3<=x.Diff/\x.Diff<=3:=by
 have h1:ar .add .i64 m 1=m+1:=Zb (by omega);obtain⟨a1,a2,a3,a4⟩:=Eb hb (p:=p) (n:=m+1) (by omega) (by omega);generalize hn:(ia (b,p) (m+1)).1=n at a3 a4;obtain⟨n0,rfl⟩ : ∃n0:Nat,n=(n0:Int):=⟨n.toNat,by omega⟩
 have key:∃q,Ea (λs:Int×(List Row)×Int=>Dy b (p+1) (n0:Int) s.1 s.2.1 s.2.2) (p+1,[],(n0:Int)) q /\
   ∃p' out,q=.x (p',out)/\p+1<=p'/\p'<=p+1+9*n0/\out.length<=n0/\∀x∈out,-3<=x.Diff/\x.Diff<=3:=by
  refine la.down (λi (b:Int×List Row)=>(b.1,b.2,(i:Int))) (λi b=>p+1<=b.1/\b.1+9*i<=p+1+9*n0/\b.2.length+i<=n0/\∀x∈b.2,-3<=x.Diff/\x.Diff<=3) (n0:=n0) (b0:=(p+1,[])) rfl ⟨by simp,by simp,by simp,λx hx=>by simp at hx⟩ ?_ ?_
  .rintro i ⟨q,out⟩ hi ⟨i1,i2,i3,i4⟩;simp only[]at i1 i2 i3 i4;have hg:cmp .gtr (((i+1:Nat):Int)) 0=true:=by rw[tc];simp
   have hs:ar .sub .i64 (((i+1:Nat):Int)) 1=(i:Int):=by rw[bf (by omega)];omega
   obtain⟨r1,r2,r3,r4⟩:=gM hb (p:=q) (by omega);obtain⟨c1,p',k,v,d,c2,c3,c4,c5⟩:=qW hb (p:=q+6) (n:=((i+1:Nat):Int)) (by omega) (out:=out) (by omega) i4 (x:=(ug (b,q)).1) ⟨r3,r4⟩;have hj:∀y,lim (ba .row out) (ba .row [y]):=λy=>yb (t:=.row) (show out.length<1099511627776 by omega);simp only[Dy,cQ,hg,hs,r2,c2,Gp,Cy,pcT,Tr.val,Tr.ob,da];have hh:(Fp b (q+6) out ((i:Int)+1) (ug (b,q)).1).ob:=c1;refine⟨by simp[r1,hh,hj],⟨p',out++[⟨k,v,(ug (b,q)).1.At,d⟩]⟩,rfl,by simp only[];omega,by simp only[];omega,by simp;omega,λx hx=>?_⟩;rcases List.mem_append.1 hx with h|h
   .exact i4 x h
   .simp at h;subst h;exact c5
  .rintro⟨q,out⟩ ⟨i1,i2,i3,i4⟩;have hg:cmp .gtr ((0:Nat):Int) 0=false:=rfl;simp only[Dy,hg,Gp,pcT,Tr.val,Tr.ob];exact⟨by simp,_,rfl,q,out,rfl,i1,by simp at i2;omega,by simpa using i3,i4⟩
 obtain⟨q,k1,p',out,rfl,k2,k3,k4,k5⟩:=key;have a5:(Hp b (p+1) (n0:Int)).o=.x (p',out):=k1.v;have b5:(Hp b (p+1) (n0:Int)).ob:=k1.t;simp only[Gy,Zh,Fy,eQ,h1,a2,hn,a5,ocR,Ey,pcT,Tr.val,Tr.ob,da];exact⟨by simp[a1,b5],by omega,by omega,by omega,k5⟩
theorem last_cases{α:Type}(l:List α):(l=[]/\l.getLast? = none)\/∃l' y,l=l'++[y]/\l.getLast? = some y:=by
 rcases List.eq_nil_or_concat l with h|⟨l',y,h⟩
 .exact .inl ⟨h,by rw[h];rfl⟩
 .exact .inr ⟨l',y,by rw[h,List.concat_eq_append],by rw[h];simp⟩
def Ic(xs:List Item):List Item:=(xs.filter λx=>decide (0<x.Count)).map λx=>⟨x.Key,x.Val,1⟩
theorem nM(xs:List Item)(hl:xs.length<1000000000):Kq xs/\tl xs=Ic xs:=by
 have k2:Ea (λs:(List Item)×Int=>YA xs (ba .item xs) s.1 s.2) ([],0) (.x (Ic xs)):=by
  refine la.fold xs (λi b=>(b,(i:Int))) Ic rfl (λl x r hx=>?_) ?_
  .obtain⟨hlen,hm,hi,hk⟩:=Qa (t:=.item) hx;have ho:(Ic l).length<=l.length:=by unfold Ic;rw[List.length_map];exact List.length_filter_le _ _
   have hj:∀y,lim (ba .item (Ic l)) (ba .item [y]):=λy=>yb (t:=.item) (show(Ic l).length<1099511627776 by omega);simp only[YA,qR,hk,hm,Ia (l:=l) (by omega),tc,Iq,pcT,Tr.val,Tr.ob,da];by_cases h0:0<x.Count
   .simp only[h0,decide_true];exact⟨by simp[hi,hj],by simp[ka,Ic,h0,List.filter_append]⟩
   .simp only[h0,decide_false];exact⟨by simp[hi],by simp[ka,Ic,h0,List.filter_append]⟩
  .have hh:cmp .lss (xs.length:Int) (ba .item xs)=false:=Na (t:=.item);simp only[YA,hh,Iq,pcT,Tr.val,Tr.ob];exact⟨by simp,rfl⟩
 have a2:(Jq xs (ba .item xs)).o=.x (Ic xs):=k2.v;have b2:(Jq xs (ba .item xs)).ob:=k2.t;simp only[Kq,tl,aB,sR,a2,ocR,ZA,pcT,Tr.val,Tr.ob];exact⟨by simp[b2],trivial⟩
def sumF(φ:List Int->Bool):List (List Int×Int)->Int
 |[]=>0
 |q::r=>(if φ q.1=true then q.2 else 0)+sumF φ r
theorem oF:∀(l l':List (List Int×Int)) (k:List Int),sumT (l++l') k=sumT l k+sumT l' k
 |[],l',k=>by simp[sumT]
 |q::r,l',k=>by have:=oF r l' k;simp only[List.cons_append,sumT,this];omega
theorem pF(k:List Int):∀l,sumT l k=sumF (λx=>decide (x=k)) l
 |[]=>rfl
 |q::r=>by simp only[sumT,sumF,pF k r,decide_eq_true_eq]
theorem cM(φ:List Int->Bool):∀m:MP,sumF φ (m.filter λp=>p.2 != 0)=sumF φ m/\Im (m.filter λp=>p.2 != 0)=Im m
 |[]=>⟨rfl,rfl⟩
 |p::m=>by
  obtain⟨h1,h2⟩:=cM φ m;by_cases h:p.2=0
  .simp[h,sumF,Im,h1,h2]
  .simp[h,sumF,Im,h1,h2]
theorem Cm(xs:List Item):chI (gathI xs)=qc (chI xs):=by
 unfold gathI
 have:∀m:MP,(∀p∈m,∃x∈xs,p.1=kI x)->chI (m.map mkI)=m:=by
  intro m
  induction m with
  |nil=>exact λ_=>rfl
  |cons p m ih=>
   intro h;obtain⟨x,_,e⟩:=h p (by simp);show(kI (mkI p),(mkI p).Count)::chI (m.map mkI)=_;rw[ih λq hq=>h q (by simp[hq])];obtain⟨k,d⟩:=p;have e:k=kI x:=e;subst e;rfl
 exact this _ λp hp=>xF hp
theorem WV{xs:List Row}{p:List Int×Int}(hp:p∈qc (chR xs)):∃x∈xs,p.1=rK x:=by
 obtain⟨h1,h2⟩:=Ye.1 hp;obtain⟨q,hq,e⟩:=Bm (h1▸h2);obtain⟨x,hx,rfl⟩:=List.mem_map.1 hq;exact⟨x,hx,e.symm⟩
theorem XV(a b:List Item):chI (a++b)=chI a++chI b:=List.map_append
theorem YV(a b:List Row):chR (a++b)=chR a++chR b:=List.map_append
def Rc(s t:Time):Bool:=decide (s.A<=t.A)&&decide (s.B<=t.B)
def Za(L:List Row)(t:Time):List Item:=(L.filter λr=>Rc r.At t).map rIt
def Od(L:List Row)(t:Time):List Item:=gathI (Za L t)
theorem qF(a b:List Row)(t:Time):Za (a++b) t=Za a t++Za b t:=by simp[Za]
def Jf(x y:Row):Prop:=ltK (rK x) (rK y)=true
def Eqm(a b:Int):Prop:=∃q:Int,a=b+q*18446744073709551616
theorem Eqm.refl(a:Int):Eqm a a:=⟨0,by omega⟩
theorem Eqm.of{a b:Int}(h:a=b):Eqm a b:=⟨0,by omega⟩
theorem Eqm.symm{a b:Int}(h:Eqm a b):Eqm b a:=by obtain⟨q,h⟩:=h;exact⟨-q,by omega⟩
theorem Eqm.trans{a b c:Int}(h:Eqm a b)(h':Eqm b c):Eqm a c:=by
 obtain⟨q,h⟩:=h;obtain⟨p,h'⟩:=h';exact⟨q+p,by omega⟩
theorem Eqm.add{a b c d:Int}(h:Eqm a b)(h':Eqm c d):Eqm (a+c) (b+d):=by
 obtain⟨q,h⟩:=h;obtain⟨p,h'⟩:=h';exact⟨q+p,by omega⟩
theorem Eqm.neg{a b:Int}(h:Eqm a b):Eqm (-a) (-b):=by obtain⟨q,h⟩:=h;exact⟨-q,by omega⟩
theorem Eqm.eq{a b:Int}(h:Eqm a b)(ha:InR a)(hb:InR b):a=b:=by
 obtain⟨q,h⟩:=h;unfold InR at ha hb;omega
theorem Dm(n:Int):Eqm (IntKind.wrap .i64 n) n:=by
 rw[IntKind.wrap_i64];exact⟨-((n+9223372036854775808) / 18446744073709551616),by omega⟩
theorem Em(n:Int):InR (IntKind.wrap .i64 n):=by
 rw[IntKind.wrap_i64];unfold InR;omega
theorem rF{n:Int}(h:InR n):IntKind.wrap .i64 n=n:=IntWalk.i64_in _ h
theorem Eqm.wrap{a b:Int}(h:Eqm a b):IntKind.wrap .i64 a=IntKind.wrap .i64 b:=((Dm a).trans (h.trans (Dm b).symm)).eq (Em a) (Em b)
theorem Fm(l:List (List Int×Int))(k:List Int):Eqm (Df l k) (sumT l k)/\InR (Df l k):=by
 suffices ∀(l:List (List Int×Int)) (s:Int),InR s->Eqm (l.foldl (λs q=>if q.1=k then ar .add .i64 s q.2 else s) s) (s+sumT l k)/\InR (l.foldl (λs q=>if q.1=k then ar .add .i64 s q.2 else s) s) by
  have:=this l 0 (by unfold InR;omega);rw[Int.zero_add]at this;exact this
 intro l
 induction l with
 |nil=>intro s hs;exact⟨Eqm.of (by simp[sumT]),hs⟩
 |cons q r ih=>
  intro s hs;rw[List.foldl_cons];simp only[sumT];by_cases hq:q.1=k
  .simp only[hq,if_true];obtain⟨h1,h2⟩:=ih (ar .add .i64 s q.2) (Em _);refine⟨h1.trans ?_,h2⟩;have h3:Eqm (ar .add .i64 s q.2) (s+q.2):=Dm _;exact(h3.add (Eqm.refl _)).trans (Eqm.of (by omega))
  .simp only[hq,if_false];obtain⟨h1,h2⟩:=ih s hs;exact⟨h1.trans (Eqm.of (by omega)),h2⟩
theorem dM{n:Nat}{l l':List (List Int×Int)}(hk:Db n l)(hk':Db n l')(hs:∀k,Eqm (sumT l k) (sumT l' k)):qc l=qc l':=xt (Ni hk) (Ni hk') λp=>by
  obtain⟨h1,h2⟩:=Fm l p.1;obtain⟨h3,h4⟩:=Fm l' p.1;rw[Ye,Ye,(h1.trans ((hs p.1).trans h3.symm)).eq h2 h4]
theorem ZV{a b:List Item}(h:∀k,Eqm (sumT (chI a) k) (sumT (chI b) k)):gathI a=gathI b:=congrArg (List.map mkI) (dM (Hm a) (Hm b) h)
theorem aW{a b:List Row}(h:∀k,Eqm (sumT (chR a) k) (sumT (chR b) k)):Ka a=Ka b:=congrArg (List.map mkR) (dM (Gm a) (Gm b) h)
theorem eM(φ:List Int->Bool)(q:List Int×Int):∀m:MP,Eqm (sumF φ (lc q m)) ((if φ q.1=true then q.2 else 0)+sumF φ m)
 |[]=>Eqm.refl _
 |p::m=>by
  unfold lc;split
  .exact Eqm.refl _
  .split
   .rename_i h1 h2;simp only[sumF,h2];have ha:Eqm (ar .add .i64 q.2 p.2) (q.2+p.2):=Dm _;split
    .exact (ha.add (Eqm.refl _)).trans (Eqm.of (by omega))
    .exact Eqm.of (by omega)
   .simp only[sumF];exact((Eqm.refl _).add (eM φ q m)).trans (Eqm.of (by omega))
theorem bW(φ:List Int->Bool)(l:List (List Int×Int)):Eqm (sumF φ (If l)) (sumF φ l):=by
 suffices ∀(l:List (List Int×Int)) (m:MP),Eqm (sumF φ (l.foldl (λm q=>lc q m) m)) (sumF φ m+sumF φ l) by
  have:=this l [];simpa [If,sumF] using this
 intro l
 induction l with
 |nil=>intro m;exact Eqm.of (by simp[sumF])
 |cons q r ih=>
  intro m;rw[List.foldl_cons];simp only[sumF];exact(ih (lc q m)).trans (((eM φ q m).add (Eqm.refl _)).trans (Eqm.of (by omega)))
theorem cW{n:Nat}{l:List (List Int×Int)}(hk:Db n l)(hr:∀q∈l,InR q.2)(φ:List Int->Bool):Eqm (sumF φ (qc l)) (sumF φ l):=by
 rw[<-aM hk λq hq=>rF (hr q hq),(cM φ (If l)).1];exact bW φ l
theorem dW{a:List Item}(h:∀x∈a,InR x.Count):∀q∈chI a,InR q.2:=λq hq=>by
 obtain⟨x,hx,rfl⟩:=List.mem_map.1 hq;exact h x hx
theorem eW{l:List (List Int×Int)}{p:List Int×Int}(hp:p∈qc l):InR p.2:=by
 rw[(Ye.1 hp).1];exact(Fm l p.1).2
theorem sF{a:List Item}{x:Item}(hx:x∈gathI a):InR x.Count:=by
 have:(kI x,x.Count)∈chI (gathI a):=List.mem_map.2 ⟨x,hx,rfl⟩;rw[Cm]at this;exact eW this
theorem fW{a:List Item}(h:∀x∈a,InR x.Count)(k:List Int):Eqm (sumT (chI (gathI a)) k) (sumT (chI a) k):=by
 rw[Cm,pF,pF];exact cW (Hm a) (dW h) _
theorem Eqm.mul{a b:Int}(c:Int)(h:Eqm a b):Eqm (c*a) (c*b):=by
 obtain⟨q,h⟩:=h;exact⟨c*q,by rw[h,Int.mul_add,Int.mul_assoc]⟩
theorem ek{xs:List Row}(h:∀x∈xs,InR x.Diff):(Ka xs).length<=xs.length:=vF h
theorem fM(a b:List Item)(k:List Int):sumT (chI (a++b)) k=sumT (chI a) k+sumT (chI b) k:=by
 rw[XV,oF]
theorem gW(a b:List Row)(k:List Int):sumT (chR (a++b)) k=sumT (chR a) k+sumT (chR b) k:=by
 rw[YV,oF]
section
namespace Tg
open Go
instance:DecidableEq Time:=λs t=>decidable_of_iff (s.A=t.A/\s.B=t.B) ⟨λh=>by
 obtain⟨a,b⟩:=s;obtain⟨c,d⟩:=t;simp only at h;rw[h.1,h.2],λh=>by rw[h];exact⟨rfl,rfl⟩⟩
def tK(t:Time):List Int:=[t.A,t.B]
def gb(s t:Time):Time:=⟨mx s.A t.A,mx s.B t.B⟩
theorem Bj(a b:Int):mx a b=if a<=b then b else a:=by
 unfold mx;split<;>split<;>omega
theorem uC{s t:Time}(h:tK s=tK t):s=t:=by
 obtain⟨a,b⟩:=s;obtain⟨c,d⟩:=t;simp[tK]at h;obtain⟨rfl,rfl⟩:=h;rfl
theorem nr{xs:List Row}{k:Int}{t:Time}:jT xs k t=true↔(∃x∈xs,x.Key=k/\x.At.A=t.A/\x.At.B<=t.B)/\∃x∈xs,x.Key=k/\x.At.B=t.B/\x.At.A<=t.A:=by
 simp[jT,List.any_eq_true]
theorem SS{xs:List Row}{k:Int}{x:Row}(hx:x∈xs)(hk:x.Key=k):jT xs k x.At=true:=nr.2 ⟨⟨x,hx,hk,rfl,Int.le_refl _⟩,x,hx,hk,rfl,Int.le_refl _⟩
theorem TS{xs:List Row}{k:Int}{s t:Time}(hs:jT xs k s=true)(ht:jT xs k t=true):jT xs k (gb s t)=true:=by
 obtain⟨⟨x1,m1,k1,a1,b1⟩,y1,n1,l1,c1,d1⟩:=nr.1 hs;obtain⟨⟨x2,m2,k2,a2,b2⟩,y2,n2,l2,c2,d2⟩:=nr.1 ht;rw[nr];simp only[gb,Bj];refine⟨?_,?_⟩
 .by_cases h:s.A<=t.A
  .exact⟨x2,m2,k2,by rw[if_pos h];exact a2,by split<;>omega⟩
  .exact⟨x1,m1,k1,by rw[if_neg h];exact a1,by split<;>omega⟩
 .by_cases h:s.B<=t.B
  .exact⟨y2,n2,l2,by rw[if_pos h];exact c2,by split<;>omega⟩
  .exact⟨y1,n1,l1,by rw[if_neg h];exact c1,by split<;>omega⟩
theorem US{xs:List Row}{k:Int}{M:Time->Prop}(h1:∀x∈xs,x.Key=k->M x.At)(h2:∀s t,M s->M t->M (gb s t)){t:Time}(h:jT xs k t=true):M t:=by
 obtain⟨⟨x,m1,k1,a1,b1⟩,y,n1,l1,c1,d1⟩:=nr.1 h;have:=h2 _ _ (h1 x m1 k1) (h1 y n1 l1)
 have e:gb x.At y.At=t:=by
  obtain⟨ta,tb⟩:=t;simp only[gb,Bj] at *;subst a1 c1
  congr 1<;>split<;>omega
 rw[e]at this;exact this
theorem Lag{p q:Time->Bool}{i:Int}:∀ {n:Nat},(∀b:Nat,b<n->p ⟨i,b⟩=q ⟨i,b⟩)->rowP p i n=rowP q i n:=by
 intro n h;unfold rowP
 congr 1
 refine List.filter_congr λb hb=>h b (by simpa using hb)
theorem JI{p q:Time->Bool}:∀ {n:Nat},(∀a b:Nat,a<n->b<8->p ⟨a,b⟩=q ⟨a,b⟩)->yc p n=yc q n
 |0,_=>rfl
 |n+1,h=>by
  simp only[yc];rw[JI λa b ha hb=>h a b (by omega) hb,Lag λb hb=>h n b (by omega) hb]
theorem VS(p:Time->Bool)(i:Int)(n:Nat):(rowP p i n).length<=n:=by
 unfold rowP;rw[List.length_map];exact Nat.le_trans (List.length_filter_le _ _) (by simp)
theorem vC(p:Time->Bool):∀n,(yc p n).length<=8*n
 |0=>by simp[yc]
 |n+1=>by
  have h1:=vC p n;have h2:=VS p n 8;simp only[yc,List.length_append];omega
theorem Mag(p:Time->Bool)(i:Int)(n:Nat):rowP p i (n+1)=rowP p i n++(if p ⟨i,(n:Int)⟩=true then [(⟨i,(n:Int)⟩ : Time)] else []):=by
 unfold rowP;rw[List.range_succ,List.filter_append,List.map_append]
 congr 1
 by_cases h:p ⟨i,(n:Int)⟩=true<;>simp[h]
theorem Nag{p:Time->Bool}{i:Int}{n:Nat}{t:Time}:t∈rowP p i n↔p t=true/\t.A=i/\0<=t.B/\t.B<n:=by
 unfold rowP;simp only[List.mem_map,List.mem_filter,List.mem_range];constructor
 .rintro⟨b,⟨h1,h2⟩,rfl⟩;exact⟨h2,rfl,by simp,by simp;omega⟩
 .rintro⟨h1,h2,h3,h4⟩;obtain⟨a,b⟩:=t;simp only at h2 h3 h4;subst h2;obtain⟨m,rfl⟩:=Int.eq_ofNat_of_zero_le h3;exact⟨m,⟨by omega,h1⟩,rfl⟩
theorem wC{p:Time->Bool}{t:Time}:∀ {n:Nat},t∈yc p n↔p t=true/\0<=t.A/\t.A<n/\0<=t.B/\t.B<8
 |0=>by simp[yc];omega
 |n+1=>by
  simp only[yc,List.mem_append,wC,Nag];constructor
  .rintro (⟨h1,h2,h3,h4,h5⟩|⟨h1,h2,h3,h4⟩)
   .exact⟨h1,h2,by omega,h4,h5⟩
   .exact⟨h1,by omega,by omega,h3,h4⟩
  .rintro⟨h1,h2,h3,h4,h5⟩;by_cases h:t.A=n
   .exact .inr ⟨h1,h,h4,h5⟩
   .exact .inl ⟨h1,h2,by omega,h4,h5⟩
theorem Oag{s t:Time}(hs:za s=true)(ht:za t=true):za (gb s t)=true:=by
 simp only[za,gb,Bj,decide_eq_true_eq] at *;refine⟨?_,?_,?_,?_⟩<;>split<;>omega
def cnt{α:Type}(p:α->Bool):List α->Nat
 |[]=>0
 |x::r=>(if p x=true then 0 else 1)+cnt p r
theorem cnt_le{α:Type}{p q:α->Bool}:∀ {l:List α},(∀x∈l,p x=true->q x=true)->cnt q l<=cnt p l
 |[],_=>Nat.le_refl _
 |x::r,h=>by
  have h1:=cnt_le (l:=r) λy hy=>h y (by simp[hy]);have h2:=h x (by simp);simp only[cnt];by_cases hp:p x=true
  .rw[if_pos hp,if_pos (h2 hp)];omega
  .rw[if_neg hp];split<;>omega
theorem cnt_lt{α:Type}{p q:α->Bool}{y:α}:∀ {l:List α},(∀x∈l,p x=true->q x=true)->y∈l->p y=false->q y=true->cnt q l<cnt p l
 |x::r,h,hy,hp,hq=>by
  have h1:=cnt_le (l:=r) λy hy=>h y (by simp[hy]);simp only[cnt];rcases List.mem_cons.1 hy with rfl|hy
  .rw[if_pos hq,if_neg (by rw[hp];simp)];omega
  .have h3:=cnt_lt (l:=r) (λz hz=>h z (by simp[hz])) hy hp hq;have h2:=h x (by simp);by_cases hpx:p x=true
   .rw[if_pos hpx,if_pos (h2 hpx)];omega
   .rw[if_neg hpx];split<;>omega
def allT:List Time:=yc (λ_=>true) 8
theorem WS{t:Time}:t∈allT↔za t=true:=by
 unfold allT;rw[wC];simp only[za,decide_eq_true_eq,true_and];omega
end Tg
end
abbrev wa:=List (List Int)
def ni(i:Nat)(k:List Int):MapEntry:={ key:=Ha k,val:=.bool true,born:=i }
def nc:Nat->wa->List MapEntry
 |_,[]=>[]
 |i,k::r=>ni i k::nc (i+1) r
def Oa(S:wa):Obj:=.map (nc 0 S).toArray S.length
def uf:wa->List Int->Nat->Option Nat
 |[],_,_=>none
 |p::r,ks,i=>if p=ks then some i else uf r ks (i+1)
def Fd(S:wa)(ks:List Int):wa:=if ks∈S then S else S++[ks]
def dc(n:Nat)(S:wa):Prop:=∀k∈S,k.length=n
theorem XS:∀(j:Nat) (S:wa) (i:Nat),(nc j S)[i]? = (S[i]?).map (ni (j+i))
 |_,[],_=>by simp[nc]
 |j,k::r,0=>by simp[nc]
 |j,k::r,i+1=>by
  have:=XS (j+1) r i;simp only[nc,List.getElem?_cons_succ,this];rw[show j+1+i=j+(i+1) by omega]
theorem YS:∀(j:Nat) (S U:wa),nc j (S++U)=nc j S++nc (j+S.length) U
 |j,[],U=>by simp[nc]
 |j,k::r,U=>by
  simp only[List.cons_append,nc,YS (j+1) r U,List.length_cons];rw[show j+1+r.length=j+(r.length+1) by omega]
theorem MI:∀ {S:wa}{ks:List Int}{j i:Nat},uf S ks j=some i->j<=i/\S[i - j]? = some ks
 |[],_,_,_,h=>by cases h
 |p::r,ks,j,i,h=>by
  simp only[uf]at h;split at h
  .rename_i e;cases h;exact⟨Nat.le_refl _,by simp[e]⟩
  .obtain⟨h1,h2⟩:=MI h;refine⟨by omega,?_⟩;rw[show i - j=i - (j+1)+1 by omega];simpa using h2
theorem PI:∀ {S:wa}{ks:List Int}{j:Nat},uf S ks j=none->ks ∉ S
 |[],_,_,_=>by simp
 |p::r,ks,j,h=>by
  simp only[uf]at h;split at h
  .cases h
  .rename_i e;simp only[List.mem_cons,not_or];exact⟨λh'=>e h'.symm,PI h⟩
section
variable {P:Program}{K n:Nat}
theorem ZS(hE:Dg P K n)(w:World){ks:List Int}(hk:ks.length=n):∀(S:wa) (j i:Nat),dc n S ->
  (Instr.findAsking K (Ha ks) (nc j S) i).run P w=.ok ((uf S ks i).map λq=>(q,Value.bool true)) w
 |[],j,i,_=>by simp[nc,Instr.findAsking,uf]
 |p::r,j,i,hm=>by
  have h1:=sK hE w hk (hm p (by simp));simp only[nc,Instr.findAsking,Sem.run_bind,uf];show((Op.equal K (Ha ks) (Ha p)).run P w).andThen _=_;rw[h1,Result.andThen_ok];by_cases e:p=ks
  .simp[e,ni]
  .have e':¬ ks=p:=λh=>e h.symm;simp only[e',decide_false,e,if_false,Bool.false_eq_true];exact ZS hE w hk r (j+1) (i+1) (λq hq=>hm q (by simp[hq]))
theorem aT(hE:Dg P K n){fs:Array Field}(hu:P.underlying K=some (.struct fs))(w:World){ks:List Int}(hk:ks.length=n)(S:wa)(hm:dc n S) :
  (Instr.findKey K (Ha ks) (nc 0 S)).run P w=.ok ((uf S ks 0).map λq=>(q,Value.bool true)) w:=by
 unfold Instr.findKey;simp only[Sem.run_bind,run_underlying hu,Result.andThen_ok];cases S with
 |nil=>simp[nc,Instr.findNow,uf]
 |cons p r=>
  have:Instr.findNow (.struct fs) (Ha ks) (nc 0 (p::r)) 0=none:=by simp[nc,Instr.findNow,Instr.sameNow]
  rw[this];exact ZS hE w hk _ 0 0 hm
structure bT(P:Program)(T K E n:Nat):Prop where
 u:P.underlying T=some (.map K E)
 k:∃fs,P.underlying K=some (.struct fs)
 eq:Dg P K n
 ck:jE P K n
 z:∀w,(zeroValue E).run P w=.ok (.bool false) w
variable {T E:Nat} (M:bT P T K E n) {w:World}{r:Nat}{S:wa} (hr:w.heap[r]? = some (Oa S)) (hm:dc n S) {ks:List Int} (hk:ks.length=n)
include M hr hm hk
theorem cT:(Instr.lookup T (.map (some r)) (Ha ks) false).run P w=.ok (.bool (decide (ks∈S))) w:=by
 obtain⟨fs,hu⟩:=M.k;have h1:=aT M.eq hu w hk S hm;have h2:∀b,(Instr.checkKey b 10000 K (Ha ks)).run P w=.ok () w:=λb=>M.ck b w ks hk;have hg:(getObj r).run P w=.ok (Oa S) w:=by simp[getObj,Sem.run,hr,Oa]
 unfold Instr.lookup;simp only[Sem.run_bind,run_underlying M.u,Result.andThen_ok,hg];simp only[Oa,Sem.run_bind,Sem.run_pure,Result.andThen_ok,h2,h1];cases hl:uf S ks 0 with
 |none=>simp[M.z w,PI hl]
 |some i=>
  have:=List.mem_of_getElem? (MI hl).2;simp[this]
theorem dT:(Instr.mapUpdate T (.map (some r)) (Ha ks) (.bool true)).run P w=.ok () (Vc w r (Oa (Fd S ks))):=by
 obtain⟨fs,hu⟩:=M.k;have h1:=aT M.eq hu w hk S hm;have h2:∀b,(Instr.checkKey b 10000 K (Ha ks)).run P w=.ok () w:=λb=>M.ck b w ks hk;have hg:(getObj r).run P w=.ok (Oa S) w:=by simp[getObj,Sem.run,hr,Oa]
 have hs:∀o,(setObj r o).run P w=.ok () (Vc w r o):=λo=>by simp[setObj,Sem.run,hr,Oa,Vc]
 unfold Instr.mapUpdate;simp only[Sem.run_bind,run_underlying M.u,Result.andThen_ok,hg];simp only[Oa,Sem.run_bind,Result.andThen_ok,h2,h1];cases hl:uf S ks 0 with
 |none=>
  have hn:=PI hl;simp only[Option.map_none,hs]
  have:Oa (Fd S ks)=.map ((nc 0 S).toArray.push { key:=Ha ks,val:=.bool true,born:=S.length }) (S.length+1):=by
   unfold Oa Fd;rw[if_neg hn,YS];simp[nc,ni]
  rw[<-this];rfl
 |some i=>
  obtain⟨_,hi⟩:=MI hl;rw[Nat.sub_zero]at hi;have ho:=List.mem_of_getElem? hi
  have he:(nc 0 S).toArray[i]? = some (ni i ks):=by
   have:=XS 0 S i;rw[hi]at this;simpa using this
  simp only[Option.map_some,Sem.run_bind,he,Option.getD_some];have hq:=xK (P:=P) w ks;have hj:(ni i ks).key=Ha ks:=rfl;rw[hj,hq,Result.andThen_ok]
  have hp:((nc 0 S).toArray.modify i λe=>{ e with key:=Ha ks,val:=.bool true })=(nc 0 S).toArray:=by
   apply Array.ext';apply List.ext_getElem?;intro j;simp only[Array.toList_modify,List.getElem?_modify];by_cases hij:i=j
   .subst hij;have hh:(nc 0 S)[i]? = some (ni i ks):=by simpa using he
    simp[hh,ni]
   .simp[hij]
  rw[hp,hs];unfold Fd;rw[if_pos ho]
end
theorem fT{P:Program}{a:Act}{w:World}{o:Oper}{t x k:Nat}(hop:o.op=.mapUpdate t (.tmp x) (.tmp k) (.const (.bool true))){w':World}(h:(Instr.mapUpdate t (a.tmps.getD x undef) (a.tmps.getD k undef) (.bool true)).run P w=.ok () w'):(execOp a.eval o).run P w=.ok .skip w':=by
 obtain⟨hh,op,ty,pos,aft,gd⟩:=o;simp only[]at hop;subst hop;exact NK (s:=Instr.mapUpdate t (a.tmps.getD x undef) (a.tmps.getD k undef) (.bool true)) rfl h
section
open Go Tg
def ic(h k v:Int):Int×Int×Bool:=if h=1 then(v % 4,v - v % 4+k,true) else if h=2 then(k,(v+1) % 100,true) else if h=3 then(v % 4,v,true) else if h=4 then(0,v,true) else
 if h=5 then(k,v,decide (v % 2=0)) else if h=6 then(k,v,decide (k % 2=0)) else(k,v,decide (v<10))
def Ng(h:Int)(x:Row):List Row:=if(ic h x.Key x.Val).2.2=true then [⟨(ic h x.Key x.Val).1,(ic h x.Key x.Val).2.1,x.At,x.Diff⟩] else []
def Bc(h:Int)(a:List Row):List Row:=a.flatMap (Ng h)
def Jm(x y:Int):Int:=(10*x+y) % 100
def mc(x y:Row):List Row:=if x.Key=y.Key then [⟨x.Key,Jm x.Val y.Val,gb x.At y.At,x.Diff*y.Diff⟩] else []
def jc(a b:List Row):List Row:=a.flatMap λx=>b.flatMap (mc x)
def og(x:Row):Row:=⟨x.Key,x.Val,x.At,IntKind.wrap .i64 (0 - x.Diff)⟩
def Va(a:List Row):List Row:=a.map og
def qk(n:Int):Int:=ar .rem .i64 (ar .add .i64 (ar .rem .i64 n 100) 100) 100
def Fe(s:List Item):Int:=s.foldl (λn x=>ar .add .i64 n x.Count) 0
def Jc(k:Int)(s:List Item):List Item:=(s.filter λx=>decide (0<x.Count)).map λx=>⟨k,x.Val,1⟩
def ab(kind k:Int)(s:List Item):List Item:=if kind=1 then(if Fe s=0 then [] else [⟨k,qk (Fe s),1⟩]) else if kind=2 then Jc k s else(Jc k s).take 1
def Kb(x:Item):Item:=⟨x.Key,x.Val,IntKind.wrap .i64 (0 - x.Count)⟩
def rowT(t:Time)(x:Item):Row:=⟨x.Key,x.Val,t,x.Count⟩
def Zi(kind k:Int)(own made:List Row)(t:Time):List Item:=gathI (ab kind k (Od own t)++(Od made t).map Kb)
def Kf(kind k:Int)(own made:List Row)(t:Time):List Row:=made++(Zi kind k own made t).map (rowT t)
def va(k:Int)(a:List Row):List Row:=a.filter λx=>decide (x.Key=k)
def Hb(kind k:Int)(own:List Row)(ts:List Time):List Row:=ts.foldl (Kf kind k own) []
def cf(kind:Int)(a:List Row):List Row:=(List.range 4).flatMap λk:Nat=>Hb kind k (va k a) (db a k)
def Pd:Option Row->Row->Bool
 |none,x=>decide (x.Diff=0)
 |some y,x=>decide (x.Diff=0)||!ltK (rK y) (rK x)
def ub{α:Type}(bad:Option α->α->Bool):Option α->List α->Bool
 |_,[]=>true
 |y,x::r=>!bad y x&&ub bad (some x) r
def Ca(xs:List Row):Bool:=ub Pd none xs&&Gb xs
def opR(kind num:Int)(ks ins:List (List Row)):List Row:=if kind=1 then ins.getD num.toNat [] else if kind=2 then Ka (Bc num (ks.getD 0 [])) else if kind=3 then Ka (ks.getD 0 []++ks.getD 1 []) else
 if kind=4 then Ka (Va (ks.getD 0 [])) else if kind=5 then Ka (jc (ks.getD 0 []) (ks.getD 1 [])) else Ka (cf num (ks.getD 0 []))
def Rb{α β:Type}(f:α->Option β):List α->Option (List β)
 |[]=>some []
 |x::r=>match f x with
  |none=>none
  |some y=>match Rb f r with
   |none=>none
   |some ys=>some (y::ys)
def Sb:Nat->List (List Row)->Plan->Option (List Row)
 |0,_,_=>none
 |d+1,ins,p=>match Rb (Sb d ins) p.Kids with
  |none=>none
  |some ks=>if Ca (opR p.Kind p.Num ks ins)=true then some (opR p.Kind p.Num ks ins) else none
theorem Km{α β:Type}(f:α->Option β):∀(l r:List α),Rb f (l++r)=match Rb f l with
  |none=>none
  |some ys=>match Rb f r with
   |none=>none
   |some zs=>some (ys++zs)
 |[],r=>by simp only[List.nil_append,Rb];cases Rb f r<;>rfl
 |x::l,r=>by
  simp only[List.cons_append,Rb,Km f l r];cases f x with
  |none=>rfl
  |some y=>
   cases Rb f l with
   |none=>rfl
   |some ys=>cases Rb f r<;>rfl
theorem Lm{α β:Type}{f:α->Option β}:∀ {l:List α}{ys:List β},Rb f l=some ys->ys.length=l.length
 |[],ys,h=>by simp[Rb]at h;subst h;rfl
 |x::l,ys,h=>by
  simp only[Rb]at h;split at h
  .cases h
  .split at h
   .cases h
   .rename_i zs hz;cases h;simp[Lm hz]
theorem zF{α β:Type}{f:α->Option β}:∀ {l:List α}{ys:List β},Rb f l=some ys->∀y∈ys,∃x∈l,f x=some y
 |[],ys,h=>by simp[Rb]at h;subst h;simp
 |x::l,ys,h=>by
  simp only[Rb]at h;split at h
  .cases h
  .rename_i y hy;split at h
   .cases h
   .rename_i zs hz;cases h;intro w hw;rcases List.mem_cons.1 hw with rfl|hw
    .exact⟨x,by simp,hy⟩
    .obtain⟨x',h1,h2⟩:=zF hz w hw;exact⟨x',by simp[h1],h2⟩
theorem bb{xs:List Row}(h:Gb xs=true):xs.length<=400/\∀x∈xs,Ab x=true:=by
 simp only[Gb,Bool.and_eq_true,decide_eq_true_eq,List.all_eq_true]at h;exact⟨h.2,h.1⟩
theorem Lf{x:Row}(h:Ab x=true):za x.At=true:=by
 simp only[Ab,decide_eq_true_eq]at h;simp only[za,decide_eq_true_eq];exact h.2.2.2.2.1
theorem Oe{x:Row}(h:Ab x=true):InR x.Diff:=by
 simp only[Ab,decide_eq_true_eq]at h;unfold InR;omega
theorem je{xs:List Row}(h:Ca xs=true):Gb xs=true:=by
 simp only[Ca,Bool.and_eq_true]at h;exact h.2
theorem AF{d:Nat}{ins:List (List Row)}{p:Plan}{x:List Row}(h:Sb d ins p=some x):Ca x=true:=by
 cases d with
 |zero=>cases h
 |succ d=>
  simp only[Sb]at h;split at h
  .cases h
  .split at h
   .rename_i hb;cases h;exact hb
   .cases h
theorem oM{n:Int}:Eqm (IntKind.wrap .i64 (0 - n)) (-n):=(Dm _).trans (Eqm.of (by omega))
theorem BF:∀(s:List Item) (k:List Int),Eqm (sumT (chI (s.map Kb)) k) (-sumT (chI s) k)
 |[],k=>Eqm.refl _
 |x::r,k=>by
  have ih:=BF r k;show Eqm ((if kI (Kb x)=k then(Kb x).Count else 0)+sumT (chI (r.map Kb)) k) (-((if kI x=k then x.Count else 0)+sumT (chI r) k));have e:kI (Kb x)=kI x:=rfl;rw[e];by_cases h:kI x=k
  .rw[if_pos h,if_pos h];exact(Eqm.add (oM (n:=x.Count)) ih).trans (Eqm.of (by omega))
  .rw[if_neg h,if_neg h];exact(Eqm.add (Eqm.refl 0) ih).trans (Eqm.of (by omega))
theorem pM(x:Item):InR (Kb x).Count:=Em _
theorem sW{a s:List Item}(hs:∀x∈s,InR x.Count):gathI (a++(gathI s).map Kb)=gathI (a++s.map Kb):=ZV λk=>by
  rw[fM,fM];exact(Eqm.refl _).add ((BF _ k).trans (((fW hs k).neg).trans (BF s k).symm))
theorem qM(hi:Int):∀(l:List Int) (lo:Int),l.Pairwise (· < ·)->(∀x∈l,lo<=x/\x<=hi)->lo<=hi+1->(l.length:Int)<=hi+1 - lo
 |[],lo,_,_,h=>by simp;omega
 |x::r,lo,hp,hb,h=>by
  have hp':=List.pairwise_cons.1 hp;have hx:=hb x (by simp);have:=qM hi r (x+1) hp'.2 (λy hy=>⟨by have:=hp'.1 y hy;omega,(hb y (by simp[hy])).2⟩) (by omega);rw[List.length_cons];omega
theorem rM(xs:List Item):(gathI xs).Pairwise λx y=>ltK (kI x) (kI y)=true:=by
 have h:=Ni (Hm xs);rw[<-Cm]at h;exact List.pairwise_map.1 (show((gathI xs).map λx=>(kI x,x.Count)).Pairwise (λp q=>ltK p.1 q.1=true) from h)
theorem CF{xs:List Item}{x:Item}(hx:x∈gathI xs):∃y∈xs,y.Key=x.Key/\y.Val=x.Val:=by
 have h:(kI x,x.Count)∈chI (gathI xs):=List.mem_map.2 ⟨x,hx,rfl⟩;rw[Cm]at h;obtain⟨y,hy,e⟩:=xF h;have e:kI x=kI y:=e;simp[kI]at e;exact⟨y,hy,e.1.symm,e.2.symm⟩
theorem sM{xs:List Item}{k:Int}(h:∀x∈xs,x.Key=k/\0<=x.Val/\x.Val<=99):(gathI xs).length<=100:=by
 have hk:∀x∈gathI xs,x.Key=k/\0<=x.Val/\x.Val<=99:=λx hx=>by
  obtain⟨y,hy,e1,e2⟩:=CF hx;rw[<-e1,<-e2];exact h y hy
 have hp:((gathI xs).map λx=>x.Val).Pairwise (· < ·):=by
  rw[List.pairwise_map];refine(rM xs).imp_of_mem λ{x y} hx hy hh=>?_;have h1:=(hk x hx).1;have h2:=(hk y hy).1;have hh:(decide (x.Key<y.Key)||(decide (x.Key=y.Key)&&(decide (x.Val<y.Val)||(decide (x.Val=y.Val)&&(decide ((0:Int)<0)||(decide ((0:Int)=0)&&ltK [] []))))))=true:=hh;have h0:ltK [] []=false:=rfl;rw[h1,h2,h0]at hh;simpa using hh
 have:=qM 99 _ 0 hp (λv hv=>by
  obtain⟨x,hx,rfl⟩:=List.mem_map.1 hv;exact(hk x hx).2) (by omega)
 rw[List.length_map]at this;omega
theorem tM(n:Int):0<=qk n/\qk n<=99:=by
 unfold qk;rw[wt,wt]
 have h1 : -99<=n.tmod 100/\n.tmod 100<=99:=by
  have a:=Int.tmod_lt_of_pos n (show(0:Int)<100 by omega);have b:=Int.lt_tmod_of_pos n (show(0:Int)<100 by omega);omega
 rw[Zb (by omega)];rw[Int.tmod_eq_emod_of_nonneg (by omega)];omega
theorem uM{kind k:Int}{s:List Item}{x:Item}(hs:∀y∈s,0<=y.Val/\y.Val<=99)(hx:x∈ab kind k s):x.Key=k/\0<=x.Val/\x.Val<=99/\x.Count=1:=by
 have hh:∀x∈Jc k s,x.Key=k/\0<=x.Val/\x.Val<=99/\x.Count=1:=λx hx=>by
  obtain⟨y,hy,rfl⟩:=List.mem_map.1 hx;exact⟨rfl,(hs y (List.mem_filter.1 hy).1).1,(hs y (List.mem_filter.1 hy).1).2,rfl⟩
 unfold ab at hx;split at hx
 .split at hx
  .cases hx
  .simp at hx;subst hx;exact⟨rfl,(tM _).1,(tM _).2,rfl⟩
 .split at hx
  .exact hh x hx
  .exact hh x (List.mem_of_mem_take hx)
theorem vM(kind k:Int)(s:List Item):(ab kind k s).length<=s.length+1:=by
 have h:(Jc k s).length<=s.length:=by
  unfold Jc;rw[List.length_map];exact List.length_filter_le _ _
 unfold ab;split
 .split<;>simp
 .split
  .omega
  .rw[List.length_take];omega
def Cc(k:Int)(l:List Row):Prop:=∀x∈l,x.Key=k/\0<=x.Val/\x.Val<=99/\InR x.Diff/\za x.At=true
theorem Cc.items{k:Int}{l:List Row}(h:Cc k l)(t:Time):∀x∈Za l t,x.Key=k/\0<=x.Val/\x.Val<=99/\InR x.Count:=λx hx=>by
 obtain⟨r,hr,rfl⟩:=List.mem_map.1 hx;have:=h r (List.mem_filter.1 hr).1;exact⟨this.1,this.2.1,this.2.2.1,this.2.2.2.1⟩
theorem Cc.pres{k:Int}{l:List Row}(h:Cc k l)(t:Time):∀x∈Od l t,x.Key=k/\0<=x.Val/\x.Val<=99/\InR x.Count:=λx hx=>by
 obtain⟨y,hy,e1,e2⟩:=CF hx;have:=h.items t y hy;exact⟨e1▸this.1,e2▸this.2.1,e2▸this.2.2.1,sF hx⟩
theorem Cc.presLen{k:Int}{l:List Row}(h:Cc k l)(t:Time):(Od l t).length<=100:=sM λx hx=>by have:=h.items t x hx;exact⟨this.1,this.2.1,this.2.2.1⟩
theorem aj{k:Int}{a:List Row}(h:∀x∈a,Ab x=true):Cc k (va k a):=λx hx=>by
 obtain⟨h1,h2⟩:=List.mem_filter.1 hx;have h3:=h x h1;have h4:=Lf h3;have h5:=Oe h3;simp only[Ab,decide_eq_true_eq]at h3;exact⟨by simpa using h2,h3.2.2.1,h3.2.2.2.1,h5,h4⟩
theorem tW{kind k:Int}{own made:List Row}{t:Time}(ho:Cc k own)(hm:Cc k made):∀x∈ab kind k (Od own t)++(Od made t).map Kb,x.Key=k/\0<=x.Val/\x.Val<=99/\InR x.Count:=λx hx=>by
 rcases List.mem_append.1 hx with hx|hx
 .have:=uM (λy hy=>⟨(ho.pres t y hy).2.1,(ho.pres t y hy).2.2.1⟩) hx;exact⟨this.1,this.2.1,this.2.2.1,by rw[this.2.2.2];unfold InR;omega⟩
 .obtain⟨y,hy,rfl⟩:=List.mem_map.1 hx;have:=hm.pres t y hy;exact⟨this.1,this.2.1,this.2.2.1,pM y⟩
theorem DF{kind k:Int}{own made:List Row}{t:Time}(ho:Cc k own)(hm:Cc k made):(∀x∈Zi kind k own made t,x.Key=k/\0<=x.Val/\x.Val<=99/\InR x.Count)/\(Zi kind k own made t).length<=100:=by
 have hd:=tW (kind:=kind) (t:=t) ho hm;refine⟨λx hx=>?_,sM λx hx=>by have:=hd x hx;exact⟨this.1,this.2.1,this.2.2.1⟩⟩;obtain⟨y,hy,e1,e2⟩:=CF hx;have:=hd y hy;exact⟨e1▸this.1,e2▸this.2.1,e2▸this.2.2.1,sF hx⟩
theorem uW{kind k:Int}{own made:List Row}{t:Time}(ho:Cc k own)(hm:Cc k made)(ht:za t=true):Cc k (Kf kind k own made t)/\(Kf kind k own made t).length<=made.length+100:=by
 obtain⟨h1,h2⟩:=DF (kind:=kind) (t:=t) ho hm;refine⟨λx hx=>?_,by unfold Kf;rw[List.length_append,List.length_map];omega⟩;rcases List.mem_append.1 hx with hx|hx
 .exact hm x hx
 .obtain⟨y,hy,rfl⟩:=List.mem_map.1 hx;have:=h1 y hy;exact⟨this.1,this.2.1,this.2.2.1,this.2.2.2,ht⟩
theorem wM(kind k:Int)(own:List Row)(ts:List Time)(t:Time):Hb kind k own (ts++[t])=Kf kind k own (Hb kind k own ts) t:=by
 unfold Hb;rw[List.foldl_append];rfl
theorem Mm{kind k:Int}{own:List Row}(ho:Cc k own)(ts:List Time)(ht:∀t∈ts,za t=true):Cc k (Hb kind k own ts)/\(Hb kind k own ts).length<=100*ts.length:=by
 suffices ∀(ts:List Time) (m:List Row),(∀t∈ts,za t=true)->Cc k m->Cc k (ts.foldl (Kf kind k own) m)/\(ts.foldl (Kf kind k own) m).length<=m.length+100*ts.length by
  have:=this ts [] ht (λx hx=>by cases hx);simpa [Hb] using this
 intro ts
 induction ts with
 |nil=>intro m _ hm;exact⟨hm,by simp⟩
 |cons t r ih=>
  intro m h hm;obtain⟨h1,h2⟩:=uW (kind:=kind) ho hm (h t (by simp));obtain⟨h3,h4⟩:=ih _ (λt ht=>h t (by simp[ht])) h1;rw[List.foldl_cons];exact⟨h3,by rw[List.length_cons];omega⟩
theorem Nm{a:List Row}{k:Int}:(∀t∈db a k,za t=true)/\(db a k).length<=64:=by
 unfold db;split
 .refine⟨λt ht=>?_,vC _ 8⟩;have:=wC.1 ht;simp only[za,decide_eq_true_eq];omega
 .exact⟨by simp,by simp⟩
theorem vW{kind k:Int}{own made:List Row}{t:Time}(hm:Cc k made):Zi kind k own made t=gathI (ab kind k (Od own t)++(Za made t).map Kb):=sW λx hx=>(hm.items t x hx).2.2.2
theorem EF{kind:Int}{a:List Row}(h:∀x∈a,Ab x=true):(∀x∈cf kind a,InR x.Diff/\za x.At=true)/\(cf kind a).length<=25600:=by
 have key:∀k:Int,Cc k (Hb kind k (va k a) (db a k))/\(Hb kind k (va k a) (db a k)).length<=6400:=λk=>by
  obtain⟨h1,h2⟩:=Nm (a:=a) (k:=k);obtain⟨h3,h4⟩:=Mm (kind:=kind) (aj (k:=k) h) _ h1;exact⟨h3,by omega⟩
 refine⟨λx hx=>?_,?_⟩
 .obtain⟨k,_,hk⟩:=List.mem_flatMap.1 hx;have:=(key k).1 x hk;exact⟨this.2.2.2.1,this.2.2.2.2⟩
 .have h0:=(key 0).2;have h1:=(key 1).2;have h2:=(key 2).2;have h3:=(key 3).2;show(Hb kind (0:Nat) _ _++(Hb kind (1:Nat) _ _++(Hb kind (2:Nat) _ _++(Hb kind (3:Nat) _ _++[])))).length<=_;simp only[List.length_append,List.length_nil];simp only[Int.natCast_zero,Int.natCast_one]at h0 h1 h2 h3⊢;have e2:((2:Nat):Int)=2:=rfl;have e3:((3:Nat):Int)=3:=rfl;have e0:((0:Nat):Int)=0:=rfl;have e1:((1:Nat):Int)=1:=rfl;simp only[e2,e3];omega
end
theorem Og{α:Type}(ok:α->Bool):∀(xs:List α) (y:Option α),ub (λ_ x=>!ok x) y xs=xs.all ok
 |[],_=>rfl
 |x::r,y=>by simp only[ub,List.all_cons,Og ok r (some x),Bool.not_not]
theorem la.scan{ρ α:Type}[Inhabited ρ]{step:Int->Lp Int ρ}{ob:Int->Prop}(xs:List α)(bad:Option α->α->Bool){no yes:ρ}
  (hstep:∀l x r,xs=l++x::r->ob (l.length:Int)/\step (l.length:Int)=(if bad l.getLast? x=true then .out no else .go (((l.length+1:Nat)):Int))) (hend:ob (xs.length:Int)/\step (xs.length:Int)=.out yes) :
  la step ob 0 (if ub bad none xs=true then yes else no):=by
 obtain⟨q,h1,h2⟩:=la.list (step:=step) (ob:=ob) (Q:=λq=>q=if ub bad none xs=true then yes else no) xs (λi (_:Unit)=>(i:Int)) (λl _=>ub bad none xs=ub bad l.getLast? (xs.drop l.length)) (b0:=()) rfl rfl
  (λl x r _ hx hI=>by
    obtain⟨a1,a2⟩:=hstep l x r hx;have hh:xs.drop l.length=x::r:=by rw[hx];simp
    have hi:xs.drop (l++[x]).length=r:=by rw[hx];simp
    rw[hh]at hI;simp only[ub]at hI;refine⟨a1,?_⟩;cases hb:bad l.getLast? x with
    |true=>
     rw[hb]at hI a2;exact .inr ⟨no,a2,by rw[hI];rfl⟩
    |false=>
     rw[hb]at hI a2;exact .inl ⟨(),a2,by rw[hi,hI];simp⟩)
  (λ_ hI=>by
    rw[List.drop_length]at hI;exact⟨hend.1,yes,hend.2,by rw[hI];rfl⟩)
 rw[h2]at h1;exact h1
theorem Bt(t:Time):ai t=za t:=by
 show(cond (cond (cond (cmp .geq t.A 0) (cmp .leq t.A 7) false) (cmp .geq t.B 0) false) (cmp .leq t.B 7) false)=_;rw[Kg,Ee,Kg,Ee,Bool.eq_iff_iff];simp[za];omega
theorem Ct(t:Time):ci t:=trivial
theorem Fh(t:Time):oe t=za t:=by
 show(cond (xd t.A 0 7) (xd t.B 0 7) false)=_;rw[jk,jk,Bool.eq_iff_iff];simp[za];omega
theorem xM(s t:Time):zA s t=Rc s t:=by
 show(cond (cmp .leq s.A t.A) (cmp .leq s.B t.B) false)=_;rw[Ee,Ee];unfold Rc;cases decide (s.A<=t.A)<;>rfl
theorem FF(s t:Time):AA s t:=trivial
theorem GF(s t:Time):gj s t=(za s&&za t&&Rc s t):=by
 show(cond (cond (cond (oe s) (oe t) false) (cmp .leq s.A t.A) false) (cmp .leq s.B t.B) false)=_;rw[Fh,Fh,Ee,Ee];unfold Rc;cases za s<;>cases za t<;>cases decide (s.A<=t.A)<;>rfl
theorem wW(x:Row):uG x=Ab x:=by
 show(cond (cond (cond (xd x.Key 0 3) (xd x.Val 0 99) false) (oe x.At) false) (xd x.Diff (-99999) 99999) false)=_;rw[Fh,jk,jk,jk,Bool.eq_iff_iff];simp[Ab,za];omega
theorem yM(xs:List Row)(hl:xs.length<1000000000):iq xs/\gq xs=Gb xs:=by
 have k2:Ea (λs:Int=>Lz xs (ba .row xs) s) 0 (if ub (λ_ x=>!Ab x) none xs=true then .x () else .r false):=by
  refine la.scan xs _ (λl x r hx=>?_) ?_
  .obtain⟨hlen,hk,hi,hj⟩:=Qa (t:=.row) hx
   have e1:(cond (cond (cond (cond (cond (cond (cmp .lss x.Key 0) true (cmp .geq x.Key 4)) true (cmp .lss x.Val 0)) true (cmp .geq x.Val 100)) true (!(ai x.At))) true (cmp .lss x.Diff (-99999))) true (cmp .gtr x.Diff 99999))=!Ab x:=by
    rw[Bt];simp only[Yb,Kg,tc];rw[Bool.eq_iff_iff];simp[Ab,za];omega
   simp only[Lz,Tr.val,Tr.ob,da,hj,hk,Ia (l:=l) (by omega),e1];refine⟨by simp[hi,Ct],?_⟩;cases Ab x<;>rfl
  .have hh:cmp .lss (xs.length:Int) (ba .row xs)=false:=Na (t:=.row);simp only[Lz,Tr.val,Tr.ob,da,hh];exact⟨by simp,rfl⟩
 have a2:(fq xs (ba .row xs)).o=_:=k2.v;have b2:(fq xs (ba .row xs)).ob:=k2.t;rw[Og]at a2;simp only[iq,gq,Nz,Mz,EQ,pcT,Tr.val,Tr.ob,Gb,a2];refine⟨by simp[b2],?_⟩;cases xs.all Ab with
 |false=>rfl
 |true=>
  show cmp .leq (xs.length:Int) 400=_;rw[Ee,Bool.true_and,Bool.eq_iff_iff];simp;omega
theorem Om(xs:List Row)(hl:xs.length<1000000000):Mh xs/\Ug xs=Gb xs:=by
 have k2:Ea (λs:Int=>iv xs s) 0 (if ub (λ_ x=>!Ab x) none xs=true then .x () else .r false):=by
  refine la.scan xs _ (λl x r hx=>?_) ?_
  .obtain⟨hlen,hk,hi,hj⟩:=Qa (t:=.row) hx;simp only[iv,Tr.val,Tr.ob,da,hj,hk,Ia (l:=l) (by omega),wW];refine⟨by simp[hi,pW],?_⟩;cases Ab x<;>rfl
  .have hh:cmp .lss (xs.length:Int) (ba .row xs)=false:=Na (t:=.row);simp only[iv,Tr.val,Tr.ob,da,hh];exact⟨by simp,rfl⟩
 have a2:(Tn xs).o=_:=k2.v;have b2:(Tn xs).ob:=k2.t;rw[Og]at a2
 have hg:cmp .gtr (ba .row xs) 400=!decide (xs.length<=400):=by
  show cmp .gtr (xs.length:Int) 400=_;rw[tc,Bool.eq_iff_iff];simp;omega
 simp only[Mh,Ug,lv,jv,kO,pcT,Tr.val,Tr.ob,Gb,a2,hg];refine⟨by simp[b2],?_⟩;cases decide (xs.length<=400)<;>cases xs.all Ab<;>rfl
theorem xW(x y:Row):Jz x y/\Iz x y=ltK (rK x) (rK y):=by
 have ha:BH x.At y.At=(cond (cmp .lss x.At.A y.At.A) true (cond (cmp .eql x.At.A y.At.A) (cmp .lss x.At.B y.At.B) false)):=rfl;have hp:CH x.At y.At:=trivial;simp only[Jz,Iz,Hz,Tr.val,Tr.ob,da,ha,rK,ltK,De,Yb,xb];refine⟨by simp[hp],?_⟩;by_cases h1:x.Key=y.Key
 .by_cases h2:x.Val=y.Val
  .simp only[h1,h2,decide_true,Bool.not_true,ocR];rw[Bool.eq_iff_iff];simp
  .simp only[h1,h2,decide_true,decide_false,Bool.not_true,Bool.not_false,ocR];simp
 .simp only[h1,decide_false,Bool.not_false,ocR];simp
theorem Dt{α:Type}{l:List α}{x:α}{r xs:List α}(hx:xs=l++x::r)(hl:xs.length<1000000000):(l=[]/\l.getLast? = none)\/∃l' y,l=l'++[y]/\l.getLast? = some y/\ar .sub .i64 (l.length:Int) 1=(l'.length:Int)/\xs=l'++y::(x::r)/\cmp .gtr (l.length:Int) 0=true:=by
 have hlen:xs.length=l.length+(r.length+1):=by rw[hx];simp
 rcases last_cases l with h|⟨l',y,h,h2⟩
 .exact .inl h
 .refine .inr ⟨l',y,h,h2,?_,?_,?_⟩
  .rw[bf (by omega),h];simp
  .rw[hx,h];simp
  .rw[tc,h];simp
theorem zM(xs:List Row)(hl:xs.length<1000000000):qq xs/\pq xs=Ca xs:=by
 obtain⟨r1,r2⟩:=yM xs hl
 have k2:Ea (λs:Int=>mq xs (ba .row xs) s) 0 (if ub Pd none xs=true then .x () else .r false):=by
  refine la.scan xs _ (λl x r hx=>?_) ?_
  .obtain⟨hlen,hm,hi,hk⟩:=Qa (t:=.row) hx;rcases Dt hx hl with⟨h1,h2⟩|⟨l',y,h1,h2,h3,h4,h5⟩
   .have hg:cmp .gtr (l.length:Int) 0=false:=by rw[h1];rfl
    simp only[mq,Tr.val,Tr.ob,da,hk,hm,Ia (l:=l) (by omega),hg,h2,Pd,xb];refine⟨by simp[hi],?_⟩;cases decide (x.Diff=0)<;>rfl
   .have hy:rd .row xs (l'.length:Int)=y:=by rw[h4];exact Xi
    have hj:inb (l'.length:Int) (ba .row xs):=by rw[h4];exact Yi (t:=.row)
    obtain⟨q1,q2⟩:=xW y x;simp only[mq,Tr.val,Tr.ob,da,hk,hm,Ia (l:=l) (by omega),h2,h3,hy,h5,Pd,xb,q2];refine⟨by simp[hi,hj,q1],?_⟩;cases decide (x.Diff=0)<;>cases ltK (rK y) (rK x)<;>rfl
  .have hh:cmp .lss (xs.length:Int) (ba .row xs)=false:=Na (t:=.row);simp only[mq,Tr.val,Tr.ob,da,hh];exact⟨by simp,rfl⟩
 have a2:(oq xs (ba .row xs)).o=_:=k2.v;have b2:(oq xs (ba .row xs)).ob:=k2.t;simp only[qq,pq,Qz,Pz,HQ,pcT,Tr.val,Tr.ob,da,Ca,a2,r2];refine⟨by simp[b2,r1],?_⟩;cases ub Pd none xs<;>rfl
theorem Pm(xs:List Row)(hl:xs.length<1000000000):Nh xs/\Wg xs=Ca xs:=by
 obtain⟨r1,r2⟩:=Om xs hl
 have k2:Ea (λs:Int=>Zn xs s) 0 (if ub Pd none xs=true then .x () else .r false):=by
  refine la.scan xs _ (λl x r hx=>?_) ?_
  .obtain⟨hlen,hm,hi,hk⟩:=Qa (t:=.row) hx;rcases Dt hx hl with⟨h1,h2⟩|⟨l',y,h1,h2,h3,h4,h5⟩
   .have hg:cmp .gtr (l.length:Int) 0=false:=by rw[h1];rfl
    simp only[Zn,Tr.val,Tr.ob,da,hk,hm,Ia (l:=l) (by omega),hg,h2,Pd,xb];refine⟨by simp[hi],?_⟩;cases decide (x.Diff=0)<;>rfl
   .have hy:rd .row xs (l'.length:Int)=y:=by rw[h4];exact Xi
    have hj:inb (l'.length:Int) (ba .row xs):=by rw[h4];exact Yi (t:=.row)
    obtain⟨q1,q2⟩:=iM y x
    have q3:cmp .geq (nj y x) 0=!ltK (rK y) (rK x):=by
     rw[q2,Kg];cases ltK (rK y) (rK x)<;>cases ltK (rK x) (rK y)<;>rfl
    simp only[Zn,Tr.val,Tr.ob,da,hk,hm,Ia (l:=l) (by omega),h2,h3,hy,h5,Pd,xb,q3];refine⟨by simp[hi,hj,q1],?_⟩;cases decide (x.Diff=0)<;>cases ltK (rK y) (rK x)<;>rfl
  .have hh:cmp .lss (xs.length:Int) (ba .row xs)=false:=Na (t:=.row);simp only[Zn,Tr.val,Tr.ob,da,hh];exact⟨by simp,rfl⟩
 have a2:(ao xs).o=_:=k2.v;have b2:(ao xs).ob:=k2.t;simp only[Nh,Wg,yv,xv,oO,pcT,Tr.val,Tr.ob,da,Ca,a2,r2];refine⟨by simp[b2,r1],?_⟩;cases ub Pd none xs<;>cases Gb xs<;>rfl
theorem AM(xs:List Row)(t:Time)(hl:xs.length<1000000000):Eq xs t/\Dq xs t=Od xs t:=by
 have hn:∀l:List Row,(Za l t).length<=l.length:=λl=>by unfold Za;rw[List.length_map];exact List.length_filter_le _ _
 have k2:Ea (λs:LI×Int=>DA t xs (ba .row xs) s.1 s.2) ([],0) (.x (Za xs t)):=by
  refine la.fold xs (λi b=>(b,(i:Int))) (λl=>Za l t) rfl (λl x r hx=>?_) ?_
  .obtain⟨hlen,ho,hi,hm⟩:=Qa (t:=.row) hx;have hj:=hn l;have hk:∀y,lim (ba .item (Za l t)) (ba .item [y]):=λy=>yb (t:=.item) (show(Za l t).length<1099511627776 by omega);simp only[DA,CA,fR,pcT,Tr.val,Tr.ob,da,hm,ho,Ia (l:=l) (by omega),xM];rw[qF];cases hb:Rc x.At t with
   |true=>exact⟨by simp[hi,hk,FF],by simp[ka,Za,hb,rIt]⟩
   |false=>exact⟨by simp[hi,hk,FF],by simp[ka,Za,hb]⟩
  .have hh:cmp .lss (xs.length:Int) (ba .row xs)=false:=Na (t:=.row);simp only[DA,Tr.val,Tr.ob,hh];exact⟨by simp,rfl⟩
 have a2:(Cq t xs (ba .row xs)).o=.x (Za xs t):=k2.v;have b2:(Cq t xs (ba .row xs)).ob:=k2.t
 have hg:Am (Za xs t):=by
  have:=hn xs;show lim _ 1;simp only[lim,ba];omega
 simp only[Eq,Dq,GA,FA,jR,pcT,Tr.val,Tr.ob,da,a2,ocR];exact⟨by simp[b2,hg],rfl⟩
theorem yW{xs:List Row}(h:∀x∈xs,InR x.Diff)(t:Time):∀x∈Za xs t,InR x.Count:=λx hx=>by
 obtain⟨r,hr,rfl⟩:=List.mem_map.1 hx;exact h r ((List.mem_filter.1 hr).1)
theorem zW(xs:List Row)(t:Time)(hl:xs.length<10000000):Tw xs t/\Sw xs t=if Gb xs=true/\za t=true then Od xs t else []:=by
 obtain⟨r1,r2⟩:=Om xs (by omega);simp only[Tw,Sw,Qw,Pw,kP,pcT,Tr.val,Tr.ob,da,r2,Fh];by_cases h:Gb xs=true/\za t=true
 .obtain⟨h1,h2⟩:=h;obtain⟨m1,m2⟩:=bb h1;have hn:∀l:List Row,(Za l t).length<=l.length:=λl=>by unfold Za;rw[List.length_map];exact List.length_filter_le _ _
  have k2:Ea (λs:LI×Int=>Ow xs t s.1 s.2) ([],0) (.x (Za xs t)):=by
   refine la.fold xs (λi b=>(b,(i:Int))) (λl=>Za l t) rfl (λl x r hx=>?_) ?_
   .obtain⟨hlen,ho,hi,hm⟩:=Qa (t:=.row) hx;have hj:=hn l;have hk:∀y,lim (ba .item (Za l t)) (ba .item [y]):=λy=>yb (t:=.item) (show(Za l t).length<1099511627776 by omega);have hp:=Lf (m2 x (by rw[hx];simp));simp only[Ow,Nw,iP,pcT,Tr.val,Tr.ob,da,hm,ho,Ia (l:=l) (by omega),GF,hp,h2,Bool.true_and];rw[qF];cases hb:Rc x.At t with
    |true=>exact⟨by simp[hi,hk,nk],by simp[ka,Za,hb,rIt]⟩
    |false=>exact⟨by simp[hi,hk,nk],by simp[ka,Za,hb]⟩
   .have hh:cmp .lss (xs.length:Int) (ba .row xs)=false:=Na (t:=.row);simp only[Ow,Tr.val,Tr.ob,hh];exact⟨by simp,rfl⟩
  have a2:(Qo xs t).o=.x (Za xs t):=k2.v;have b2:(Qo xs t).ob:=k2.t;obtain⟨p1,p2⟩:=mM (Za xs t) (by have:=hn xs;omega) (yW (λx hx=>Oe (m2 x hx)) t);simp only[h1,h2,a2,p2];refine⟨by simp[r1,ng,b2,p1],?_⟩;rw[if_pos ⟨trivial,trivial⟩];rfl
 .rw[if_neg h]
  have hc:(cond (!Gb xs) true (!za t))=true:=by
   cases h1:Gb xs<;>cases h2:za t<;>simp[h1,h2]at h⊢
  simp only[hc];exact⟨by simp[r1,ng],rfl⟩
theorem BW(xs:List Row):Rw.gathI xs=Ka xs:=by
 have e:Rw.chI xs=(chR xs).map λq=>(q.1++[0],q.2):=by
  unfold Rw.chI chR;rw[List.map_map];rfl
 have hm:=bM (n:=4) (m:=5) (f:=λk=>k++[0]) (λa b h=>List.append_cancel_right h) (λk hk=>by simp[hk]) (λa b ha hb=>wF a b (by rw[ha,hb])) (Gm xs);unfold Rw.gathI Ka;rw[e,hm,List.map_map];refine List.map_congr_left λp hp=>?_;obtain⟨x,_,hx⟩:=WV hp;obtain⟨k,d⟩:=p;have hx:k=rK x:=hx;subst hx;rfl
theorem CW(xs:List Row)(hl:xs.length<1000000000):bJ xs/\aJ xs=Ka xs:=by
 refine⟨?_,BW xs⟩;show lim _ 1;simp only[lim,ba];omega
theorem HF:∀(xs:List Row) (y:Option Row),xs.Pairwise Jf->(∀x∈xs,x.Diff≠0)->(∀z,y=some z->∀x∈xs,Jf z x)->ub Pd y xs=true
 |[],_,_,_,_=>rfl
 |x::r,y,hp,hd,hy=>by
  have hp':=List.pairwise_cons.1 hp
  have h1:Pd y x=false:=by
   have hx:=hd x (by simp);cases y with
   |none=>simp[Pd,hx]
   |some z=>
    have:ltK (rK z) (rK x)=true:=hy z rfl x (by simp);simp[Pd,hx,this]
  simp only[ub,h1,Bool.not_false,Bool.true_and];exact HF r (some x) hp'.2 (λz hz=>hd z (by simp[hz])) λz hz w hw=>by cases hz;exact hp'.1 w hw
theorem DW{x y:Row}(h1:x.Key=y.Key)(h2:x.Val=y.Val)(h3:x.At.A=y.At.A)(h4:x.At.B=y.At.B)(h5:x.Diff=y.Diff):x=y:=by
 obtain⟨a,b,⟨c,d⟩,e⟩:=x;obtain⟨a',b',⟨c',d'⟩,e'⟩:=y;simp at h1 h2 h3 h4 h5;subst h1 h2 h3 h4 h5;rfl
section
open Go Tg
theorem VF{n:Nat}:∀ {m:MP},Asc m->Db n m->∀p∈m,sumT m p.1=p.2
 |[],_,_,p,hp=>by cases hp
 |q::r,ha,hk,p,hp=>by
  have ha':=List.pairwise_cons.1 ha
  have hi:∀ {k:List Int} (l:MP),(∀s∈l,s.1≠k)->sumT l k=0:=by
   intro k l
   induction l with
   |nil=>intro _;rfl
   |cons s l ih=>
    intro h;simp only[sumT];rw[if_neg (h s (by simp)),ih λs hs=>h s (by simp[hs])];rfl
  have hh:∀s∈r,s.1≠q.1:=λs hs e=>by
   have:=ha'.1 s hs;rw[e,Ef]at this;cases this
  simp only[sumT];rcases List.mem_cons.1 hp with rfl|hp
  .rw[if_pos rfl,hi r hh,Int.add_zero]
  .rw[if_neg (λe=>hh p hp e.symm),VF ha'.2 (λs hs=>hk s (by simp[hs])) p hp,Int.zero_add]
theorem CX{n:Nat}{m:MP}(ha:Asc m)(hk:Db n m)(h0:∀p∈m,p.2≠0/\InR p.2):qc m=m:=xt (Ni hk) ha λp=>by
  rw[Ye];constructor
  .rintro⟨h1,h2⟩;obtain⟨q,hq,e⟩:=Bm (h1▸h2);have h3:=VF ha hk q hq;rw[e]at h3;obtain⟨g1,g2⟩:=Fm m p.1;have:p.2=q.2:=by rw[h1,g1.eq g2 (h3▸(h0 q hq).2),h3]
   have:q=p:=Prod.ext e this.symm;exact this▸hq
  .intro hp;obtain⟨g1,g2⟩:=Fm m p.1;have h3:=VF ha hk p hp;exact⟨by rw[g1.eq g2 (h3▸(h0 p hp).2),h3],(h0 p hp).1⟩
def Canon(s:List Item):Prop:=(s.Pairwise λx y=>ltK (kI x) (kI y)=true)/\∀x∈s,x.Count≠0/\InR x.Count
theorem DX{s:List Item}{x:Item}(hx:x∈gathI s):x.Count≠0:=by
 have:(kI x,x.Count)∈chI (gathI s):=List.mem_map.2 ⟨x,hx,rfl⟩;rw[Cm]at this;exact(Ye.1 this).2
theorem EX(s:List Item):Canon (gathI s):=⟨rM s,λ_ hx=>⟨DX hx,sF hx⟩⟩
theorem Canon.neg{s:List Item}(h:Canon s)(hm:∀x∈s,x.Count≠-9223372036854775808):Canon (s.map Kb):=by
 refine⟨?_,λx hx=>?_⟩
 .rw[List.pairwise_map];exact h.1
 .obtain⟨y,hy,rfl⟩:=List.mem_map.1 hx;have h1:=h.2 y hy;have h2:=hm y hy;have h3:IntKind.wrap .i64 (0 - y.Count)=0 - y.Count:=rF (by unfold InR at *;omega);show IntKind.wrap .i64 (0 - y.Count)≠0/\InR (IntKind.wrap .i64 (0 - y.Count));rw[h3];unfold InR at *;omega
theorem FX(x:Row)(l:List Row)(t:Time):Za (x::l) t=(if Rc x.At t=true then [rIt x] else [])++Za l t:=by
 unfold Za;rw[List.filter_cons];split<;>simp
theorem GX(t:Time):Za [] t=[]:=rfl
theorem WF{h:Int}{a:List Row}(ha:∀x∈a,InR x.Diff):∀x∈Bc h a,InR x.Diff:=λx hx=>by
 obtain⟨y,hy,hx⟩:=List.mem_flatMap.1 hx;unfold Ng at hx;split at hx
 .simp at hx;subst hx;exact ha y hy
 .cases hx
theorem XF(a:List Row):∀x∈Va a,InR x.Diff:=λx hx=>by
 obtain⟨y,_,rfl⟩:=List.mem_map.1 hx;exact Em _
theorem Kt{a b:List Row}(ha:∀x∈a,Ab x=true)(hb:∀x∈b,Ab x=true):∀x∈jc a b,InR x.Diff/\za x.At=true:=λx hx=>by
 obtain⟨y,hy,hx⟩:=List.mem_flatMap.1 hx;obtain⟨z,hz,hx⟩:=List.mem_flatMap.1 hx;unfold mc at hx;split at hx
 .simp at hx;subst hx;have h1:=ha y hy;have h2:=hb z hz;simp only[Ab,decide_eq_true_eq]at h1 h2;refine⟨?_,?_⟩
  .show InR (y.Diff*z.Diff)
   have e1:y.Diff*z.Diff<=99999*99999/\-(99999*99999)<=y.Diff*z.Diff:=by
    have hh:(y.Diff.natAbs:Int)<=99999:=by omega
    have hi:(z.Diff.natAbs:Int)<=99999:=by omega
    have hm:((y.Diff*z.Diff).natAbs:Int)<=99999*99999:=by
     rw[Int.natAbs_mul,Int.natCast_mul];exact Int.mul_le_mul hh hi (by omega) (by omega)
    omega
   unfold InR;omega
  .show za (gb y.At z.At)=true;simp only[za,gb,Bj,decide_eq_true_eq];refine⟨?_,?_,?_,?_⟩<;>split<;>omega
 .cases hx
theorem ef{a b:Int}(h:0<=a):ar .rem .i64 a b=a % b:=by rw[wt,Int.tmod_eq_emod_of_nonneg h]
theorem EW{k v h:Int}(hk:0<=k/\k<=3)(hv:0<=v/\v<=99)(hh:1<=h/\h<=7):Xz k v h/\Wz k v h=((ic h k v).1,(ic h k v).2.1,(ic h k v).2.2,()):=by
 simp only[Xz,Wz,Vz,Tr.val,Tr.ob,da,xb,Yb];have hc:h=1\/h=2\/h=3\/h=4\/h=5\/h=6\/h=7:=by omega
 rcases hc with rfl|rfl|rfl|rfl|rfl|rfl|rfl
 .refine⟨by simp,?_⟩;simp[ocR,ic,ef hv.1];rw[bf (by omega),Zb (by omega)]
 .refine⟨by simp,?_⟩;simp[ocR,ic];rw[Zb (by omega),ef (by omega)]
 .refine⟨by simp,?_⟩;simp[ocR,ic,ef hv.1]
 .exact⟨by simp,by simp[ocR,ic]⟩
 .refine⟨by simp,?_⟩;simp[ocR,ic,ef hv.1]
 .refine⟨by simp,?_⟩;simp[ocR,ic,ef hk.1]
 .exact⟨by simp,by simp[ocR,ic]⟩
theorem FW{k v h:Int}(hk:0<=k/\k<=3)(hv:0<=v/\v<=99)(hh:1<=h/\h<=7):Cv k v h/\Bv k v h=((ic h k v).1,(ic h k v).2.1,(ic h k v).2.2,()):=by
 simp only[Cv,Bv,Av,Tr.val,Tr.ob,da,xb,Yb];have hc:h=1\/h=2\/h=3\/h=4\/h=5\/h=6\/h=7:=by omega
 rcases hc with rfl|rfl|rfl|rfl|rfl|rfl|rfl
 .refine⟨by simp,?_⟩;simp[ocR,ic,ef hv.1];rw[jF (by omega),Lg (by omega),Zb (by omega)];omega
 .refine⟨by simp,?_⟩;simp[ocR,ic];rw[Zb (by omega),ef (by omega)]
 .refine⟨by simp,?_⟩;simp[ocR,ic,ef hv.1]
 .exact⟨by simp,by simp[ocR,ic]⟩
 .refine⟨by simp,?_⟩;simp[ocR,ic,ef hv.1]
 .refine⟨by simp,?_⟩;simp[ocR,ic,ef hk.1]
 .exact⟨by simp,by simp[ocR,ic]⟩
theorem rk{x:Row}(h:Ab x=true):(0<=x.Key/\x.Key<=3)/\0<=x.Val/\x.Val<=99:=by
 simp only[Ab,decide_eq_true_eq]at h;omega
theorem CM(h:Int)(l:List Row)(x:Row):Bc h (l++[x])=Bc h l++Ng h x:=by unfold Bc;rw[List.flatMap_append];simp
theorem sk(h:Int):∀l:List Row,(Bc h l).length<=l.length
 |[]=>Nat.le_refl _
 |x::l=>by
  have:=sk h l;unfold Bc at *;rw[List.flatMap_cons,List.length_append,List.length_cons];have:(Ng h x).length<=1:=by unfold Ng;split<;>simp
  omega
theorem Qm{xs:List Row}(hl:xs.length<100000000)(hi:∀x∈xs,InR x.Diff):gi xs/\Re xs=if Ca (Ka xs)=true then(Ka xs,true,()) else([],false,()):=by
 obtain⟨c1,c2⟩:=CW xs (by omega);have h1:=ek hi;obtain⟨b1,b2⟩:=zM (Ka xs) (by omega);simp only[gi,Re,Yz,Tr.val,Tr.ob,da,c2,b2];cases Ca (Ka xs)<;>simp[c1,b1,ocR]
def Mf(xs:List Row):List Row×Bool×Unit:=if Ca xs=true then(xs,true,()) else([],false,())
theorem GW{a:List Row}(hr:Gb a=true){h:Int}(hh:1<=h/\h<=7):fA a h/\eA a h=Mf (Ka (Bc h a)):=by
 obtain⟨hl,hm⟩:=bb hr
 have k:Ea (λs:LR×Int=>aA h a (ba .row a) s.1 s.2) ([],0) (.x (Bc h a)):=by
  refine la.fold a (λi b=>(b,(i:Int))) (λl=>Bc h l) rfl (λl x r hx=>?_) ?_
  .obtain⟨hlen,hs,hj,hq⟩:=Qa (t:=.row) hx;have hk:=rk (hm x (by rw[hx];simp));obtain⟨e1,e2⟩:=EW hk.1 hk.2 hh;have hn:=sk h l;have hp:∀y,lim (ba .row (Bc h l)) (ba .row [y]):=λy=>yb (t:=.row) (show(Bc h l).length<1099511627776 by omega);simp only[aA,Zz,MQ,pcT,Tr.val,Tr.ob,da,hq,hs,Ia (l:=l) (by omega),e2];rw[CM];cases hb:(ic h x.Key x.Val).2.2 with
   |true=>exact⟨by simp[hj,hp,e1],by simp[ka,Ng,hb]⟩
   |false=>exact⟨by simp[hj,hp,e1],by simp[ka,Ng,hb]⟩
  .have hi:cmp .lss (a.length:Int) (ba .row a)=false:=Na (t:=.row);simp only[aA,Tr.val,Tr.ob,hi];exact⟨by simp,rfl⟩
 have a2:(sq h a (ba .row a)).o=.x (Bc h a):=k.v;have b2:(sq h a (ba .row a)).ob:=k.t;have ho:=sk h a;obtain⟨q1,q2⟩:=Qm (xs:=Bc h a) (by omega) (WF λx hx=>Oe (hm x hx));simp only[fA,eA,cA,bA,PQ,pcT,Tr.val,Tr.ob,da,a2,q2,ocR];exact⟨by simp[b2,q1],by unfold Mf;split<;>rfl⟩
theorem IW{a:List Row}(hr:Gb a=true){h:Int}(hh:1<=h/\h<=7):Uv a h/\Tv a h=Ka (Bc h a):=by
 obtain⟨hl,hm⟩:=bb hr
 have k:Ea (λs:LR×Int=>Qv a h s.1 s.2) ([],0) (.x (Bc h a)):=by
  refine la.fold a (λi b=>(b,(i:Int))) (λl=>Bc h l) rfl (λl x r hx=>?_) ?_
  .obtain⟨hlen,hs,hj,hq⟩:=Qa (t:=.row) hx;have hk:=rk (hm x (by rw[hx];simp));obtain⟨e1,e2⟩:=FW hk.1 hk.2 hh;have hn:=sk h l;have hp:∀y,lim (ba .row (Bc h l)) (ba .row [y]):=λy=>yb (t:=.row) (show(Bc h l).length<1099511627776 by omega);simp only[Qv,Pv,zO,pcT,Tr.val,Tr.ob,da,hq,hs,Ia (l:=l) (by omega),e2];rw[CM];cases hb:(ic h x.Key x.Val).2.2 with
   |true=>exact⟨by simp[hj,hp,e1],by simp[ka,Ng,hb]⟩
   |false=>exact⟨by simp[hj,hp,e1],by simp[ka,Ng,hb]⟩
  .have hi:cmp .lss (a.length:Int) (ba .row a)=false:=Na (t:=.row);simp only[Qv,Tr.val,Tr.ob,hi];exact⟨by simp,rfl⟩
 have a2:(qo a h).o=.x (Bc h a):=k.v;have b2:(qo a h).ob:=k.t;have ho:=sk h a;obtain⟨q1,q2⟩:=Mg (Bc h a) (by omega) (WF λx hx=>Oe (hm x hx));simp only[Uv,Tv,Sv,Rv,BO,pcT,Tr.val,Tr.ob,da,a2,q2,ocR];exact⟨by simp[b2,q1],trivial⟩
theorem JF{s t:Time}(hs:za s=true)(ht:za t=true):xq s t/\wq s t=gb s t:=by
 simp only[xq,wq,qA,Tr.val,Tr.ob,da,Bt,hs,ht,ocR];exact⟨by simp[Ct],rfl⟩
theorem DM{s t:Time}(hs:za s=true)(ht:za t=true):Sg s t/\jj s t=gb s t:=by
 simp only[Sg,jj,Pn,Tr.val,Tr.ob,da,Fh,hs,ht,ocR];exact⟨by simp[ng],rfl⟩
theorem JW{x y:Int}(hx:0<=x/\x<=99)(hy:0<=y/\y<=99):UH x y/\SH x y=Jm x y:=by
 refine⟨⟨⟨by decide,trivial⟩,trivial⟩,?_⟩;show ar .rem .i64 (ar .add .i64 (ar .mul .i64 10 x) y) 100=_;rw[Lg (by omega),Zb (by omega),ef (by omega)];rfl
theorem LW{x y:Int}(hx:0<=x/\x<=99)(hy:0<=y/\y<=99):GG x y/\FG x y=Jm x y:=by
 refine⟨⟨⟨by decide,trivial⟩,trivial⟩,?_⟩;show ar .rem .i64 (ar .add .i64 (ar .mul .i64 x 10) y) 100=_;rw[Lg (by omega),Zb (by omega),ef (by omega)];unfold Jm;rw[Int.mul_comm]
theorem EM{x y:Row}(hx:Ab x=true)(hy:Ab y=true):ar .mul .i64 x.Diff y.Diff=x.Diff*y.Diff:=by
 have h:=Kt (a:=[⟨0,x.Val,x.At,x.Diff⟩]) (b:=[⟨0,y.Val,y.At,y.Diff⟩]) (by simp[Ab] at *;omega) (by simp[Ab] at *;omega) ⟨0,Jm x.Val y.Val,gb x.At y.At,x.Diff*y.Diff⟩ (by simp[jc,mc]);exact Lg h.1
theorem Et(x:Row):∀b:List Row,(b.flatMap (mc x)).length<=b.length
 |[]=>Nat.le_refl _
 |y::b=>by
  have:=Et x b;rw[List.flatMap_cons,List.length_append,List.length_cons];have:(mc x y).length<=1:=by unfold mc;split<;>simp
  omega
theorem FM(b:List Row):∀a:List Row,(jc a b).length<=a.length*b.length
 |[]=>by simp[jc]
 |x::a=>by
  have h1:=FM b a;have h2:=Et x b;unfold jc at *;rw[List.flatMap_cons,List.length_append,List.length_cons,Nat.add_mul,Nat.one_mul];omega
theorem GM(a b:List Row)(x:Row):jc (a++[x]) b=jc a b++b.flatMap (mc x):=by unfold jc;rw[List.flatMap_append];simp
theorem HM(x:Row)(b:List Row)(y:Row):(b++[y]).flatMap (mc x)=b.flatMap (mc x)++mc x y:=by rw[List.flatMap_append];simp
end
end Go.Proofs.YtiiidenbemkihaaGreat
